import PyProof.Rows.All
import Wide.All
import OpenK.AllK
import Wide.FinOn
import HandS.ForMost
import HandS.TupAny
import HandS.TupMul
import HandS.Conv
import HandS.List
import HandS.Star
import KE.KeyNested
import KE.KDictSum
import HandS.Zip
import HandS.IsInst
import HandS.Deep
import HandS.SortInts
import HandS.SortRule
import HandS.Style
import HandS.TupLen
import HandS.SetFor
import HandS.Strs
import KE.KDictPairs
import HandS.Rev
import HandS.Walk
import KE.GoesEnum
import KE.GoesMore
import KE.GoesZip
import HandS.DictComp
import HandS.Codes
import HandS.Defaults
import PyProof.SeqIndex
import HandS.Exc
import HandS.ExcOwn
import HandS.ExcIs
import HandS.HeadHook1
import HandS.HeadHook2
import HandS.Ends
import HandS.Head0
import HandS.Head1
import HandS.Head2
import PySem.Challenge.RW_nextwork_k02_sums_products_and_order
set_option Elab.async false
set_option linter.all false
set_option maxRecDepth 100000
/-! A small language of values that are trees: its terms, its runs, its reading off the text. -/
namespace MP
open PySem

/-! ### values -/
inductive PV where
  | non | bl (b : Bool) | int (i : Int) | str (x : Str)
  | tup (xs : List PV) | lst (xs : List PV) | dct (ks vs : List PV) | scr (xs : List PV)
  | ref (n : Nat) | fn (f : Nat) | cls (c : Nat)
  deriving Inhabited

mutual
/-- Python's == of plain data -/
def eqv : PV → PV → Bool
  | .non, .non => true
  | .bl a, .bl b => a == b
  | .bl a, .int j => (if a then 1 else 0) == j
  | .int i, .bl b => i == (if b then 1 else 0)
  | .int i, .int j => i == j
  | .str x, .str y => x == y
  | .lst xs, .lst ys => eqvs xs ys
  | .tup xs, .tup ys => eqvs xs ys
  | _, _ => false
def eqvs : List PV → List PV → Bool
  | [], [] => true
  | x :: xs, y :: ys => eqv x y && eqvs xs ys
  | _, _ => false
end
mutual
/-- plain data of depth at most d: no dict, no shared thing, no def -/
def plain : Nat → PV → Bool
  | _, .non => true
  | _, .bl _ => true
  | _, .int _ => true
  | _, .str x => PyData.strOk x
  | 0, .lst _ => false
  | d + 1, .lst xs => plains d xs
  | 0, .tup _ => false
  | d + 1, .tup xs => plains d xs
  | _, .dct _ _ => false
  | _, .scr _ => false
  | _, .ref _ => false
  | _, .fn _ => false
  | _, .cls _ => false
def plains : Nat → List PV → Bool
  | _, [] => true
  | d, x :: xs => plain d x && plains d xs
end

/-- what is shared and changed through its name: a list; an instance -/
inductive HV where
  | lst (xs : List PV)
  | ins (c : Nat) (fs : List (Nat × PV))
  deriving Inhabited
abbrev Hs := List HV

/-- how a run ends: a value; an own error (its class, what it keeps); nothing is known -/
inductive Out (α : Type) where
  | ok (a : α) (h : Hs)
  | exc (c : Nat) (p : PV) (h : Hs)
  | bad
  deriving Inhabited
def Out.bind {α β : Type} (x : Out α) (f : α → Hs → Out β) : Out β := match x with
  | .ok a h => f a h
  | .exc c p h => .exc c p h
  | .bad => .bad
def Out.of {α : Type} (x : Option α) (h : Hs) : Out α := match x with
  | some a => .ok a h
  | none => .bad
@[simp] theorem Out.bind_ok {α β : Type} (a : α) (h : Hs) (f : α → Hs → Out β) : (Out.ok a h).bind f = f a h := rfl
/-- what is not told: an exception is nothing known -/
def Out.strict {α : Type} : Out α → Out α
  | .exc _ _ _ => .bad
  | o => o
@[simp] theorem Out.bind_exc {α β : Type} (c : Nat) (p : PV) (h : Hs) (f : α → Hs → Out β) : (Out.exc c p h).bind f = .exc c p h := rfl
@[simp] theorem Out.bind_bad {α β : Type} (f : α → Hs → Out β) : (Out.bad : Out α).bind f = .bad := rfl
@[simp] theorem Out.of_some {α : Type} (a : α) (h : Hs) : Out.of (some a) h = .ok a h := rfl
@[simp] theorem Out.of_none {α : Type} (h : Hs) : Out.of (none : Option α) h = .bad := rfl

/-! ### terms -/
inductive BI where
  | len | abs | int | tuple | list | sorted | setSorted | sum | all | any | min | max | repr | dict
  deriving DecidableEq, Inhabited
inductive MI where
  | index | get | count | upper
  deriving DecidableEq, Inhabited
inductive Mu where
  | append | insert | extend | reverse
  deriving DecidableEq, Inhabited
inductive Ty where
  | int | bool | tuple | str | list | own (c : Nat) | valueError
  deriving DecidableEq, Inhabited

mutual
inductive Tg where
  | v (i : Nat) | t (ts : Tgs)
inductive Tgs where
  | nil | cons (t : Tg) (ts : Tgs)
end
mutual
inductive E where
  | var (i : Nat) | con (v : PV)
  | bin (op : Operator) (a b : E) | neg (a : E) | not (a : E)
  | cmp (op : CmpOp) (a b : E) | chain (o p : CmpOp) (a b c : E)
  | and (a b : E) | or (a b : E) | ite (c a b : E)
  | tup (es : Es) | lst (es : Es) | shr (es : Es) | dnew
  | idx (a b : E) | slc (a lo hi : E) | rev (a : E)
  | bi (f : BI) (es : Es) | call (f : Nat) (es : Es) | callv (i : Nat) (es : Es) | meth (m : MI) (a : E) (es : Es)
  | isin (a : E) (t : Ty) | listOf (i : I) | tupOf (i : I)
  | fld (a : E) (f : Nat)
  | comp (own : List Nat) (elt : E) (t : Tg) (i : I) (c : E)
  | comp2 (own : List Nat) (elt : E) (t : Tg) (i : I) (t2 : Tg) (i2 : I)
  | dcomp (own : List Nat) (k v : E) (t : Tg) (i : I)
inductive Es where
  | nil | cons (e : E) (es : Es) | star (e : E) (es : Es)
inductive I where
  | it (e : E) | range (es : Es) | enum (e : E) | zip (es : Es) | rev (e : E)
end
mutual
inductive S where
  | asg (t : Tg) (e : E) | par (is : List Nat) (es : Es)
  | setI (i : Nat) (k e : E) | setR (i : Nat) (k e : E) | swap (i : Nat) (a b c d : E) | setF (i : Nat) (f : Nat) (e : E)
  | mut (m : Mu) (i : Nat) (es : Es)
  | expr (e : E) | ret (e : E)
  | iff (c : E) (a b : Ss) | whl (inv : List Nat) (c : E) (b : Ss) | forr (inv : List Nat) (t : Tg) (i : I) (b : Ss)
  | pass | brk | cnt
  | raise (c : Nat) (e : E)
  | tryy (b : Ss) (c : Nat) (i : Nat) (x : Ss)
  | xst (s : S) | xraise (c : Nat) | xexp (e : E) | xret (e : E) | xiff (c : E) (a b : Ss)
  | try1 (i f : Nat) (es : Es) (c : Nat) (cs : List Nat) (x j d : Nat) (ds : List Nat) (u v : PV)
inductive Ss where
  | nil | cons (s : S) (ss : Ss)
end
/-- a def: how many parameters, how many names, its body -/
structure Def where
  np : Nat
  nn : Nat
  body : Ss

/-! ### operations -/
def mulOk (i j : Int) : Bool := Nat.blt (i.natAbs.log2 + j.natAbs.log2) 134000000
def divOk (j : Int) : Bool := (!(j == 0)) && Nat.blt j.natAbs.log2 9000
def szOk (n : Nat) : Bool := Nat.ble n 16000000
def smallI (i : Int) : Bool := decide (-(2 ^ 62) ≤ i) && decide (i < 2 ^ 62)
/-- the place of an index of any sign -/
def place (n : Nat) (i : Int) : Option Nat := if 0 ≤ i then (if i < n then some i.toNat else none) else if -(n : Int) ≤ i then some (i + n).toNat else none
def atL (xs : List PV) (i : Int) : Option PV := (place xs.length i).bind fun j => xs[j]?
def clip (n d : Nat) : Option Int → Nat
  | none => d
  | some i => if i < 0 then (i + n).toNat else min i.toNat n
def cut (xs : List PV) (lo hi : Option Int) : List PV := (xs.drop (clip xs.length 0 lo)).take (clip xs.length xs.length hi - clip xs.length 0 lo)
def repL (xs : List PV) : Nat → List PV
  | 0 => []
  | k + 1 => xs ++ repL xs k
def binV (op : Operator) (x y : PV) : Option PV := match op, x, y with
  | .Add, .int i, .int j => some (.int (i + j))
  | .Add, .lst a, .lst b => if szOk (a.length + b.length) then some (.lst (a ++ b)) else none
  | .Add, .tup a, .tup b => if szOk (a.length + b.length) then some (.tup (a ++ b)) else none
  | .Add, .str a, .str b => if szOk (a.length + b.length) then some (.str (a ++ b)) else none
  | .Sub, .int i, .int j => some (.int (i - j))
  | .Mult, .int i, .int j => if mulOk i j then some (.int (i * j)) else none
  | .Mult, .lst a, .int j => if 0 ≤ j ∧ j ≤ 4096 ∧ a.length ≤ 1024 then some (.lst (repL a j.toNat)) else none
  | .Mult, .tup a, .int j => if -1000 ≤ j ∧ j ≤ 1000 ∧ a.length ≤ 1000 then some (.tup (repL a j.toNat)) else none
  | .FloorDiv, .int i, .int j => if divOk j then some (.int (i.fdiv j)) else none
  | .Mod, .int i, .int j => if j == 0 then none else some (.int (i.fmod j))
  | .Pow, .int i, .int j => if 0 ≤ j ∧ j ≤ 1000 ∧ i.natAbs < 18446744073709551616 then some (.int (i ^ j.toNat)) else none
  | _, _, _ => none
def isIn (x : PV) : List PV → Bool
  | [] => false
  | y :: ys => eqv y x || isIn x ys
/-- a dict's value at a key -/
def look (k : PV) : List PV → List PV → Option PV
  | a :: ks, v :: vs => if eqv a k then some v else look k ks vs
  | _, _ => none
def put (k v : PV) : List PV → List PV → List PV × List PV
  | a :: ks, w :: vs => if eqv a k then (a :: ks, v :: vs) else let r := put k v ks vs; (a :: r.1, w :: r.2)
  | _, _ => ([k], [v])
/-- a key that is an int or a text -/
def keyA : PV → Bool
  | .int _ => true
  | .str _ => true
  | _ => false
mutual
/-- what may be a part of a key -/
def keyD : Nat → PV → Bool
  | _, .int _ => true
  | _, .str _ => true
  | 0, .tup _ => false
  | d + 1, .tup xs => keysD d xs
  | _, _ => false
def keysD : Nat → List PV → Bool
  | _, [] => true
  | d, x :: xs => keyD d x && keysD d xs
end
def isTup : PV → Bool
  | .tup _ => true
  | _ => false
/-- all keys of a dict are ints and texts, or all are tuples -/
def dkOk (k : PV) (ks : List PV) : Bool := if isTup k then keyD 8 k && ks.all isTup else keyA k && ks.all keyA
def intsOf : List PV → Option (List Int)
  | [] => some []
  | .int i :: r => (intsOf r).map (i :: ·)
  | _ :: _ => none
def cmpI (op : CmpOp) (i j : Int) : Option Bool := match op with
  | .Lt => some (decide (i < j))
  | .LtE => some (decide (i ≤ j))
  | .Gt => some (decide (j < i))
  | .GtE => some (decide (j ≤ i))
  | _ => none
def isV : PV → PV → Option Bool
  | .non, .non => some true
  | _, .non => some false
  | .bl a, .bl b => some (a == b)
  | _, _ => none
def depthLine : Nat := 60
def cmpV (op : CmpOp) (x y : PV) : Option Bool := match op with
  | .Eq => if plain depthLine x && plain depthLine y then some (eqv x y) else none
  | .NotEq => if plain depthLine x && plain depthLine y then some (!eqv x y) else none
  | .In => (match y with
    | .lst ys => if plain depthLine x && plains depthLine ys then some (isIn x ys) else none
    | .tup ys => (match x, intsOf ys with
      | .int i, some js => some (js.any (· == i))
      | _, _ => none)
    | .dct ks vs => if dkOk x ks then some (look x ks vs).isSome else none
    | _ => none)
  | .NotIn => (match y with
    | .lst ys => if plain depthLine x && plains depthLine ys then some (!isIn x ys) else none
    | .tup ys => (match x, intsOf ys with
      | .int i, some js => some (!(js.any (· == i)))
      | _, _ => none)
    | .dct ks vs => if dkOk x ks then some (!(look x ks vs).isSome) else none
    | _ => none)
  | .Is => isV x y
  | .IsNot => (isV x y).map (!·)
  | o => (match x, y with
    | .int i, .int j => cmpI o i j
    | _, _ => none)
def idxV (h : Hs) (x k : PV) : Option PV := match x, k with
  | .lst xs, .int i => atL xs i
  | .tup xs, .int i => atL xs i
  | .dct ks vs, k => if dkOk k ks then look k ks vs else none
  | .ref n, .int i => (match h[n]? with
    | some (.lst xs) => atL xs i
    | _ => none)
  | _, _ => none
def partV : PV → Option (Option Int)
  | .non => some none
  | .int i => some (some i)
  | _ => none
def slcV (x : PV) (lo hi : Option Int) : Option PV := match x with
  | .lst xs => some (.lst (cut xs lo hi))
  | .scr xs => some (.lst (cut xs lo hi))
  | .tup xs => some (.tup (cut xs lo hi))
  | _ => none
def revV : PV → Option PV
  | .lst xs => some (.lst xs.reverse)
  | .tup xs => some (.tup xs.reverse)
  | _ => none
def boolV : PV → Option Bool
  | .bl b => some b
  | _ => none
def boolsOf : List PV → Option (List Bool)
  | [] => some []
  | .bl i :: r => (boolsOf r).map (i :: ·)
  | _ :: _ => none
def insI (i : Int) : List Int → List Int
  | [] => [i]
  | j :: r => if i ≤ j then i :: j :: r else j :: insI i r
def sortI : List Int → List Int
  | [] => []
  | i :: r => insI i (sortI r)
def dedI : List Int → List Int
  | [] => []
  | i :: r => if r.contains i then dedI r else i :: dedI r
def minI : Int → List Int → Int
  | m, [] => m
  | m, i :: r => minI (if i < m then i else m) r
def maxI : Int → List Int → Int
  | m, [] => m
  | m, i :: r => maxI (if m < i then i else m) r
/-- pairsOf of ints -/
def pairsOf : List PV → Option (List (Int × Int))
  | [] => some []
  | .tup [.int i, .int j] :: r => (pairsOf r).map ((i, j) :: ·)
  | _ :: _ => none
def insP (p : Int × Int) : List (Int × Int) → List (Int × Int)
  | [] => [p]
  | q :: r => if p.1 < q.1 ∨ (p.1 = q.1 ∧ p.2 ≤ q.2) then p :: q :: r else q :: insP p r
def sortP : List (Int × Int) → List (Int × Int)
  | [] => []
  | p :: r => insP p (sortP r)
def seqOf : PV → Option (List PV)
  | .lst xs => some xs
  | .tup xs => some xs
  | _ => none
def kvOf : List PV → Option (List PV × List PV)
  | [] => some ([], [])
  | .tup [k, v] :: r => (kvOf r).map fun p => (k :: p.1, v :: p.2)
  | _ :: _ => none
def putAll : List PV → List PV → List PV → List PV → Option (List PV × List PV)
  | ks, vs, k :: kr, v :: vr => if dkOk k ks then (let p := put k v ks vs; putAll p.1 p.2 kr vr) else none
  | ks, vs, _, _ => some (ks, vs)
mutual
def toD : PV → PyData
  | .non => .none
  | .bl b => .bool b
  | .int i => .int i
  | .str x => .str x
  | .lst xs => .list (toDs xs)
  | .tup xs => .tuple (toDs xs)
  | _ => .none
def toDs : List PV → List PyData
  | [] => []
  | x :: xs => toD x :: toDs xs
end
/-- ints short enough for repr -/
def showOk (x : PV) : Bool := plain depthLine x && (toD x).showable && Nat.ble (toD x).shown.length 16000000
def biV (h : Hs) (f : BI) (xs : List PV) : Option PV := match f, xs with
  | .len, [.lst a] => some (.int a.length)
  | .len, [.tup a] => some (.int a.length)
  | .len, [.dct ks _] => some (.int ks.length)
  | .len, [.ref n] => (match h[n]? with
    | some (.lst a) => some (.int a.length)
    | _ => none)
  | .abs, [.int i] => some (.int (if i < 0 then -i else i))
  | .int, [.int i] => some (.int i)
  | .int, [.bl b] => some (.int (if b then 1 else 0))
  | .tuple, [.lst a] => some (.tup a)
  | .tuple, [.tup a] => some (.tup a)
  | .list, [.lst a] => some (.lst a)
  | .list, [.tup a] => some (.lst a)
  | .sorted, [a] => (match seqOf a with
    | some l => (match intsOf l with
      | some is => some (.lst ((sortI is).map .int))
      | none => (match pairsOf l with
        | some ps => some (.lst ((sortP ps).map fun p => .tup [.int p.1, .int p.2]))
        | none => none))
    | none => none)
  | .setSorted, [.lst a] => (intsOf a).bind fun is => if Nat.blt is.length 64 then some (.lst ((sortI (dedI is)).map .int)) else none
  | .sum, [.lst a] => (intsOf a).map fun is => .int is.sum
  | .all, [.lst a] => (boolsOf a).map fun bs => .bl (bs.all id)
  | .any, [.lst a] => (boolsOf a).map fun bs => .bl (bs.any id)
  | .min, [.lst a] => (match intsOf a with
    | some (i :: r) => some (.int (minI i r))
    | _ => none)
  | .max, [.lst a] => (match intsOf a with
    | some (i :: r) => some (.int (maxI i r))
    | _ => none)
  | .min, [.int i, .int j] => some (.int (if j < i then j else i))
  | .repr, [x] => if showOk x then some (.str (toD x).shown) else none
  | .dict, [.lst l] => (match kvOf l with
    | some (ks, vs) => if szOk ks.length then (putAll [] [] ks vs).map fun p => .dct p.1 p.2 else none
    | none => none)
  | _, _ => none
def posOf (x : PV) : List PV → Option Nat
  | [] => none
  | y :: ys => if eqv y x then some 0 else (posOf x ys).map (· + 1)
def countOf (x : PV) : List PV → Nat
  | [] => 0
  | y :: ys => (if eqv y x then 1 else 0) + countOf x ys
def methV (m : MI) (x : PV) (ys : List PV) : Option PV := match m, x, ys with
  | .index, .lst xs, [y] => if plain depthLine y && plains depthLine xs then (posOf y xs).map fun (k : Nat) => PV.int (k : Int) else none
  | .index, .tup xs, [y] => if plain depthLine y && plains depthLine xs then (posOf y xs).map fun (k : Nat) => PV.int (k : Int) else none
  | .get, .dct ks vs, [k, d] => if dkOk k ks then some ((look k ks vs).getD d) else none
  | _, _, _ => none
def isTy (x : PV) (t : Ty) : Option Bool := match x, t with
  | .ref _, _ => none
  | .scr _, _ => none
  | .dct _ _, _ => none
  | .int _, .int => some true
  | .bl _, .int => some true
  | .bl _, .bool => some true
  | .tup _, .tuple => some true
  | .str _, .str => some true
  | .lst _, .list => some true
  | .fn _, _ => none
  | .cls _, _ => none
  | _, .own _ => none
  | _, .valueError => none
  | _, _ => some false

/-! ### runs -/
abbrev Sl := List (Option PV)
def getS (σ : Sl) (i : Nat) : Option PV := match σ[i]? with
  | some (some v) => some v
  | _ => none
def wipe : Sl → List Nat → Sl
  | σ, [] => σ
  | σ, i :: r => wipe (σ.set i none) r
mutual
/-- a target takes a value -/
def setT : Tg → PV → Sl → Option Sl
  | .v i, v, σ => some (σ.set i (some v))
  | .t ts, .tup xs, σ => setTs ts xs σ
  | .t _, _, _ => none
def setTs : Tgs → List PV → Sl → Option Sl
  | .nil, [], σ => some σ
  | .cons t ts, x :: xs, σ => (setT t x σ).bind fun σ' => setTs ts xs σ'
  | _, _, _ => none
end
/-- the slots that a target stores -/
def tgS : Tg → List Nat
  | .v i => [i]
  | .t ts => go ts
where go : Tgs → List Nat
  | .nil => []
  | .cons t ts => tgS t ++ go ts
/-- the items of a comprehension, from the left -/
def eachL {α : Type} (f : PV → Hs → Out (List α)) : List PV → Hs → Out (List α)
  | [], h => .ok [] h
  | x :: xs, h => match f x h with
    | .ok a h => (match eachL f xs h with
      | .ok r h => .ok (a ++ r) h
      | _ => .bad)
    | _ => .bad
def rangeL (lo : Int) : Nat → List PV
  | 0 => []
  | n + 1 => .int lo :: rangeL (lo + 1) n
def enumL (k : Int) : List PV → List PV
  | [] => []
  | x :: xs => .tup [.int k, x] :: enumL (k + 1) xs
def zip2 : List PV → List PV → List PV
  | x :: xs, y :: ys => .tup [x, y] :: zip2 xs ys
  | _, _ => []
def zip3 : List PV → List PV → List PV → List PV
  | x :: xs, y :: ys, z :: zs => .tup [x, y, z] :: zip3 xs ys zs
  | _, _, _ => []
def rangeV : List PV → Option (List PV)
  | [.int j] => if smallI j && Nat.ble j.toNat 16000000 then some (rangeL 0 j.toNat) else none
  | [.int i, .int j] => if smallI i && smallI j && Nat.ble (j - i).toNat 16000000 then some (rangeL i (j - i).toNat) else none
  | _ => none
def zipV : List PV → Option (List PV)
  | [a, b] => (seqOf a).bind fun x => (seqOf b).map fun y => zip2 x y
  | _ => none

section
variable (cl : Nat → List PV → Hs → Out PV)
mutual
def evE : E → Sl → Hs → Out PV
  | .var i, σ, h => .of (getS σ i) h
  | .con v, _, h => .ok v h
  | .bin op a b, σ, h => (evE a σ h).bind fun x h => (evE b σ h).bind fun y h => .of (binV op x y) h
  | .neg a, σ, h => (evE a σ h).bind fun x h => match x with
    | .int i => .ok (.int (-i)) h
    | _ => .bad
  | .not a, σ, h => (evE a σ h).bind fun x h => match x with
    | .bl b => .ok (.bl (!b)) h
    | _ => .bad
  | .cmp op a b, σ, h => (evE a σ h).bind fun x h => (evE b σ h).bind fun y h => (Out.of (cmpV op x y) h).bind fun r h => .ok (.bl r) h
  | .chain o p a b c, σ, h => (evE a σ h).bind fun x h => (evE b σ h).bind fun y h => (Out.of (cmpV o x y) h).bind fun r h => match r with
    | true => (evE c σ h).bind fun z h => (Out.of (cmpV p y z) h).bind fun r h => .ok (.bl r) h
    | false => .ok (.bl false) h
  | .and a b, σ, h => (evE a σ h).bind fun x h => match x with
    | .bl true => evE b σ h
    | .bl false => .ok (.bl false) h
    | _ => .bad
  | .or a b, σ, h => (evE a σ h).bind fun x h => match x with
    | .bl false => evE b σ h
    | .bl true => .ok (.bl true) h
    | _ => .bad
  | .ite c a b, σ, h => (evE c σ h).bind fun x h => match x with
    | .bl true => evE a σ h
    | .bl false => evE b σ h
    | _ => .bad
  | .tup es, σ, h => (evEs es σ h).bind fun xs h => if szOk xs.length then .ok (.tup xs) h else .bad
  | .lst es, σ, h => (evEs es σ h).bind fun xs h => if szOk xs.length then .ok (.lst xs) h else .bad
  | .shr es, σ, h => (evEs es σ h).bind fun xs h => if szOk xs.length then .ok (.ref h.length) (h ++ [.lst xs]) else .bad
  | .dnew, _, h => .ok (.dct [] []) h
  | .idx a b, σ, h => (evE a σ h).bind fun x h => (evE b σ h).bind fun y h => .of (idxV h x y) h
  | .slc a lo hi, σ, h => (evE a σ h).bind fun x h => (evE lo σ h).bind fun l h => (evE hi σ h).bind fun u h =>
    .of ((partV l).bind fun l => (partV u).bind fun u => slcV x l u) h
  | .rev a, σ, h => (evE a σ h).bind fun x h => .of (revV x) h
  | .bi f es, σ, h => (evEs es σ h).bind fun xs h => .of (biV h f xs) h
  | .call f es, σ, h => (evEs es σ h).bind fun xs h => cl f xs h
  | .callv _ _, _, _ => .bad
  | .meth m a es, σ, h => (evE a σ h).bind fun x h => (evEs es σ h).bind fun ys h => .of (methV m x ys) h
  | .isin a t, σ, h => (evE a σ h).bind fun x h => (Out.of (isTy x t) h).bind fun r h => .ok (.bl r) h
  | .listOf i, σ, h => (evI i σ h).bind fun xs h => if szOk xs.length then .ok (.lst xs) h else .bad
  | .tupOf i, σ, h => (evI i σ h).bind fun xs h => if szOk xs.length then .ok (.tup xs) h else .bad
  | .fld _ _, _, _ => .bad
  | .comp own elt t i c, σ, h => (evI i σ h).bind fun xs h => (eachL (fun x h => (Out.of (setT t x (wipe σ own)) h).bind fun σ' h =>
      (evE c σ' h).bind fun b h => match b with
        | .bl true => (evE elt σ' h).bind fun y h => .ok [y] h
        | .bl false => .ok [] h
        | _ => .bad) xs h).bind fun ys h => if szOk ys.length then .ok (.lst ys) h else .bad
  | .comp2 own elt t i t2 i2, σ, h => (evI i σ h).bind fun xs h => (eachL (fun x h => (Out.of (setT t x (wipe σ own)) h).bind fun σ' h =>
      (evI i2 σ' h).bind fun zs h => eachL (fun z h => (Out.of (setT t2 z (wipe σ' (tgS t2))) h).bind fun σ2 h => (evE elt σ2 h).bind fun y h => .ok [y] h) zs h) xs h).bind fun ys h =>
        if szOk ys.length then .ok (.lst ys) h else .bad
  | .dcomp own k v t i, σ, h => (evI i σ h).bind fun xs h => (eachL (fun x h => (Out.of (setT t x (wipe σ own)) h).bind fun σ' h =>
      (evE k σ' h).bind fun a h => (evE v σ' h).bind fun b h => if szOk xs.length then .ok [(a, b)] h else .bad) xs h).bind fun ys h =>
        (Out.of (putAll [] [] (ys.map (·.1)) (ys.map (·.2))) h).bind fun p h => .ok (.dct p.1 p.2) h
def evEs : Es → Sl → Hs → Out (List PV)
  | .nil, _, h => .ok [] h
  | .cons e es, σ, h => (evE e σ h).bind fun x h => (evEs es σ h).bind fun xs h => .ok (x :: xs) h
  | .star e es, σ, h => (evE e σ h).bind fun x h => (Out.of (match x with
      | .dct ks _ => if ks.all keyA then some ks else none
      | x => seqOf x) h).bind fun ys h => (evEs es σ h).bind fun xs h => .ok (ys ++ xs) h
def evI : I → Sl → Hs → Out (List PV)
  | .it e, σ, h => (evE e σ h).bind fun x h => .of (seqOf x) h
  | .range es, σ, h => (evEs es σ h).bind fun xs h => .of (rangeV xs) h
  | .enum e, σ, h => (evE e σ h).bind fun x h => (Out.of (seqOf x) h).bind fun ys h => .ok (enumL 0 ys) h
  | .zip es, σ, h => (evEs es σ h).bind fun xs h => .of (zipV xs) h
  | .rev e, σ, h => (evE e σ h).bind fun x h => match x with
    | .lst xs => .ok xs.reverse h
    | _ => .bad
end
/-- how a statement ends -/
inductive Fl where
  | nx (σ : Sl) | bk (σ : Sl) | ct (σ : Sl) | rt (v : PV)
def muV (m : Mu) (x : PV) (ys : List PV) : Option PV := match m, x, ys with
  | .append, .lst xs, [y] => if szOk xs.length then some (.lst (xs ++ [y])) else none
  | .insert, .lst xs, [.int k, y] => if szOk xs.length && smallI k && decide (0 ≤ k) then some (.lst (xs.take k.toNat ++ [y] ++ xs.drop k.toNat)) else none
  | .extend, .lst xs, [.lst ys] => if szOk (xs.length + ys.length) then some (.lst (xs ++ ys)) else none
  | .reverse, .lst xs, [] => some (.lst xs.reverse)
  | _, _, _ => none
def setV (x k v : PV) : Option PV := match x, k with
  | .lst xs, .int i => (place xs.length i).map fun j => .lst (xs.set j v)
  | .dct ks vs, k => if dkOk k ks && szOk ks.length then some (let p := put k v ks vs; .dct p.1 p.2) else none
  | _, _ => none
def setAll : List Nat → List PV → Sl → Option Sl
  | [], [], σ => some σ
  | i :: is, v :: vs, σ => setAll is vs (σ.set i (some v))
  | _, _, _ => none
/-- how many turns a while is looked through -/
def turns : Nat := 1000000000
/-- the turns of a while -/
def whileL (c : Sl → Hs → Out PV) (b : Sl → Hs → Out Fl) : Nat → Sl → Hs → Out Fl
  | 0, _, _ => .bad
  | n + 1, σ, h => (c σ h).bind fun x h => match x with
    | .bl true => (b σ h).bind fun f h => match f with
      | .nx σ' => whileL c b n σ' h
      | .ct σ' => whileL c b n σ' h
      | .bk σ' => .ok (.nx σ') h
      | .rt v => .ok (.rt v) h
    | .bl false => .ok (.nx σ) h
    | _ => .bad
/-- the turns of a for -/
def forL (t : Tg) (b : Sl → Hs → Out Fl) : List PV → Sl → Hs → Out Fl
  | [], σ, h => .ok (.nx σ) h
  | x :: xs, σ, h => (Out.of (setT t x σ) h).bind fun σ' h => (b σ' h).bind fun f h => match f with
    | .nx σ' => forL t b xs σ' h
    | .ct σ' => forL t b xs σ' h
    | .bk σ' => .ok (.nx σ') h
    | .rt v => .ok (.rt v) h
/-- an expression that may let an exception out: a call, or one of two calls -/
def evC : E → Sl → Hs → Out PV
  | .call f es, σ, h => match evEs cl es σ h with
    | .ok xs h => cl f xs h
    | _ => .bad
  | .ite c a b, σ, h => match evE cl c σ h with
    | .ok (.bl true) h => evC a σ h
    | .ok (.bl false) h => evC b σ h
    | _ => .bad
  | _, _, _ => .bad
mutual
def evS : S → Sl → Hs → Out Fl
  | .asg t e, σ, h => (evE cl e σ h).bind fun v h => (Out.of (setT t v σ) h).bind fun σ' h => .ok (.nx σ') h
  | .par is es, σ, h => (evEs cl es σ h).bind fun vs h => (Out.of (setAll is vs σ) h).bind fun σ' h => .ok (.nx σ') h
  | .setI i k e, σ, h => (evE cl e σ h).bind fun v h => (Out.of (getS σ i) h).bind fun x h => (evE cl k σ h).bind fun kv h => (Out.of (setV x kv v) h).bind fun x' h => .ok (.nx (σ.set i (some x'))) h
  | .setR i k e, σ, h => (evE cl e σ h).bind fun v h => (Out.of (getS σ i) h).bind fun x h => (evE cl k σ h).bind fun kv h => match x with
    | .ref n => (match h[n]?, kv with
      | some (.lst xs), .int j => (match place xs.length j with
        | some m => .ok (.nx σ) (h.set n (.lst (xs.set m v)))
        | none => .bad)
      | _, _ => .bad)
    | _ => .bad
  | .swap i a b c d, σ, h => (evE cl (.tup (.cons (.idx (.var i) c) (.cons (.idx (.var i) d) .nil))) σ h).bind fun t h => match t with
    | .tup [u, v] => (Out.of (getS σ i) h).bind fun x h => (evE cl a σ h).bind fun ka h => (Out.of (setV x ka u) h).bind fun x1 h => (evE cl b (σ.set i (some x1)) h).bind fun kb h => (Out.of (setV x1 kb v) h).bind fun x2 h => .ok (.nx ((σ.set i (some x1)).set i (some x2))) h
    | _ => .bad
  | .setF _ _ _, _, _ => .bad
  | .mut m i es, σ, h => (Out.of (getS σ i) h).bind fun x h => (evEs cl es σ h).bind fun ys h => (Out.of (muV m x ys) h).bind fun x' h => .ok (.nx (σ.set i (some x'))) h
  | .expr e, σ, h => (evE cl e σ h).bind fun _ h => .ok (.nx σ) h
  | .ret e, σ, h => (evE cl e σ h).bind fun v h => .ok (.rt v) h
  | .iff c a b, σ, h => (evE cl c σ h).bind fun x h => match x with
    | .bl true => evSs a σ h
    | .bl false => evSs b σ h
    | _ => .bad
  | .whl _ c b, σ, h => whileL (evE cl c) (evSs b) turns σ h
  | .forr _ t i b, σ, h => (evI cl i σ h).bind fun xs h => forL t (evSs b) xs σ h
  | .pass, σ, h => .ok (.nx σ) h
  | .brk, σ, h => .ok (.bk σ) h
  | .cnt, σ, h => .ok (.ct σ) h
  | .raise c e, σ, h => (evE cl e σ h).bind fun v h => .exc c v h
  | .tryy _ _ _ _, _, _ => .bad
  | .xst s, σ, h => (evS s σ h).strict
  | .xraise c, σ, h => .exc c .non h
  | .xexp e, σ, h => (evC cl e σ h).bind fun _ h => .ok (.nx σ) h
  | .xret e, σ, h => (evC cl e σ h).bind fun v h => .ok (.rt v) h
  | .xiff c a b, σ, h => match evE cl c σ h with
    | .ok (.bl true) h => evSs a σ h
    | .ok (.bl false) h => evSs b σ h
    | _ => .bad
  | .try1 i f es _ cs x j _ ds u v, σ, h => match evEs cl es σ h with
    | .ok xs h => (match cl f xs h with
      | .ok w h => .ok (.nx (σ.set i (some w))) h
      | .exc c _ h => if cs.contains c then .ok (.nx ((σ.set j (some (if ds.contains c then u else v))).set x none)) h else .bad
      | .bad => .bad)
    | _ => .bad
def evSs : Ss → Sl → Hs → Out Fl
  | .nil, σ, h => .ok (.nx σ) h
  | .cons s ss, σ, h => (evS s σ h).bind fun f h => match f with
    | .nx σ' => evSs ss σ' h
    | f => .ok f h
end
/-- a def runs -/
def evD (d : Def) (xs : List PV) (h : Hs) : Out PV :=
  if Nat.beq xs.length d.np then (evSs cl d.body (xs.map some ++ List.replicate (d.nn - d.np) none) h).bind fun f h => match f with
    | .rt v => .ok v h
    | .nx _ => .ok .non h
    | _ => .bad
  else .bad
end
/-- calls, so deep -/
def run (P : Nat → Option Def) : Nat → Nat → List PV → Hs → Out PV
  | 0, _, _, _ => .bad
  | d + 1, f, xs, h => match P f with
    | some D => evD (run P d) D xs h
    | none => .bad
/-! the equations of the evaluator are made here -/
section
variable {cl : Nat → List PV → Hs → Out PV}
theorem core_S (σ : Sl) (h : Hs) : evS cl .pass σ h = .ok (.nx σ) h := by unfold evS; rfl
theorem core_S2 (σ : Sl) (h : Hs) : evS cl .pass σ h = .ok (.nx σ) h := by simp only [evS]
theorem core_Ss (σ : Sl) (h : Hs) : evSs cl .nil σ h = .ok (.nx σ) h := by unfold evSs; rfl
theorem core_Ss2 (σ : Sl) (h : Hs) : evSs cl .nil σ h = .ok (.nx σ) h := by simp only [evSs]
theorem core_E (σ : Sl) (h : Hs) : evE cl (.con .non) σ h = .ok .non h := by unfold evE; rfl
theorem core_E2 (σ : Sl) (h : Hs) : evE cl (.con .non) σ h = .ok .non h := by simp only [evE]
theorem core_Es (σ : Sl) (h : Hs) : evEs cl .nil σ h = .ok [] h := by unfold evEs; rfl
theorem core_Es2 (σ : Sl) (h : Hs) : evEs cl .nil σ h = .ok [] h := by simp only [evEs]
theorem core_I (σ : Sl) (h : Hs) (i : I) : evI cl i σ h = evI cl i σ h := by
  conv => lhs; unfold evI
  conv => rhs; unfold evI
theorem core_I2 (σ : Sl) (h : Hs) (e : E) : evI cl (.it e) σ h = evI cl (.it e) σ h := by simp only [evI]
theorem core_C (σ : Sl) (h : Hs) : evC cl (.con .non) σ h = .bad := by unfold evC; rfl
theorem core_C2 (σ : Sl) (h : Hs) : evC cl (.con .non) σ h = .bad := by simp only [evC]
end
end MP

set_option Elab.async false
set_option linter.all false
set_option maxRecDepth 100000
set_option maxHeartbeats 4000000
/-! New tuples, tracked with the object itself: what has no dict can be asked for a method. -/
namespace MP
open PySem PySem.Spec PyProof.Rows L2
/-- a tuple whose object is known to have no dict -/
def SqN (K : PySem.W.Frag) (H : Hp) (a : Addr) (xs : List V) : Prop :=
  (∃ o : Obj, H a = some (.frz o (.tup xs)) ∧ o.dict = none) ∨
    ∃ (o : Obj) (its : Array Value) (n : Nat), K.lookup a = some o ∧ o.cls = .type "tuple" ∧ o.dict = none ∧ o.data = .seq its n ∧ its.size ≤ sizeLine ∧ Vals xs its.toList
theorem SqN.t {K : PySem.W.Frag} {H : Hp} {a : Addr} {xs : List V} (h : SqN K H a xs) : SqT K H a xs := by
  rcases h with ⟨o, h, _⟩ | ⟨o, its, n, h1, h2, _, h4⟩
  · exact .inl (.inr ⟨o, h⟩)
  · exact .inr ⟨o, its, n, h1, h2, h4⟩
theorem SqN.new {K : PySem.W.Frag} {H : Hp} {a : Addr} {xs : List V} {o : Obj} (ho : o.dict = none) : SqN K (upd H a (.frz o (.tup xs))) a xs := .inl ⟨o, upd_same, ho⟩
/-- a new tuple goes on -/
def TupN (H : Hp) (Q : VK) (xs : List V) : Prop := ∀ (p : Addr) (o : Obj), H p = none → o.dict = none → Q (.ref p) (upd H p (.frz o (.tup xs)))
theorem tuple_mul1 (l : Addr) (items : Array Value) (n : Nat) (dd : Option Addr) (sl : Array (Option Value)) (x : Int) (u : Tok) (c0 : (decide (x < -(2 ^ 63)) || decide (x ≥ 2 ^ 63)) = false) (c1 : (items.isEmpty || x == 1) = true) :
    Meets (Builtin.«tuple.__mul__» ⟨[.ref l, .int x u], []⟩) (fun _ R s => s.heap.get? l = some { cls := .type "tuple", dict := dd, data := .seq items n, slots := sl } ∧
      R (.ok (.ret (Value.ref l))) s) :=
  .of_wp fun prog w A R s h => by
    obtain ⟨hp, g, d, tk, os⟩ := s
    obtain ⟨hl, h⟩ := h
    have f1 := AutoSeq1.idx_int
    wp_walk using wpAny_loadPart' hl
    repeat (first
      | (refine wpAny_ite_false (decide_eq_false (by rw [c0]; exact Bool.false_ne_true)) ?_; wp_walk using wpAny_loadPart' hl)
      | (refine wpAny_ite_true (decide_eq_true c1) ?_; wp_walk using wpAny_loadPart' hl))
    exact ⟨_, rfl, h⟩
theorem tuple_mul0 (l : Addr) (items : Array Value) (n : Nat) (dd : Option Addr) (sl : Array (Option Value)) (x : Int) (u : Tok) (c0 : (decide (x < -(2 ^ 63)) || decide (x ≥ 2 ^ 63)) = false) (c1 : (items.isEmpty || x == 1) = false) (c2 : (decide (x ≤ 0) || items.isEmpty) = true) :
    Meets (Builtin.«tuple.__mul__» ⟨[.ref l, .int x u], []⟩) (fun _ R s => s.heap.get? l = some { cls := .type "tuple", dict := dd, data := .seq items n, slots := sl } ∧
      R (.ok (.ret (Value.ref s.heap.objs.size))) { s with heap := s.heap.push { cls := Value.type "tuple", data := Data.seq #[] }, toks := s.toks }) :=
  .of_wp fun prog w A R s h => by
    obtain ⟨hp, g, d, tk, os⟩ := s
    obtain ⟨hl, h⟩ := h
    have f1 := AutoSeq1.idx_int
    wp_walk using wpAny_loadPart' hl
    repeat (first
      | (refine wpAny_ite_false (decide_eq_false (by rw [c0]; exact Bool.false_ne_true)) ?_; wp_walk using wpAny_loadPart' hl)
      | (refine wpAny_ite_false (decide_eq_false (by rw [c1]; exact Bool.false_ne_true)) ?_; wp_walk using wpAny_loadPart' hl)
      | (refine wpAny_ite_true (decide_eq_true c2) ?_; wp_walk using wpAny_loadPart' hl))
    exact ⟨_, rfl, h⟩
section
variable {X : Cx}
theorem newN {pins : List (Addr × Obj)} {σ : L2.St} {H : Hp} {s : Shared} {Q : VK} {xs : List V} {its : List Value} (I : Inv X pins σ H s) (r : Vals xs its) (z : xs.length ≤ sizeLine) (q : TupN H Q xs) :
    EP X pins σ Q (.ref s.heap.objs.size) { s with heap := s.heap.push { cls := .type "tuple", data := .seq its.toArray } } :=
  ⟨.ref s.heap.objs.size, upd H s.heap.objs.size (.frz { cls := .type "tuple", data := .seq its.toArray } (.tup xs)),
    I.laid (t' := s.toks) (fun _ _ e => Heap.get?_push_of_some _ e) (Nat.le_refl _) ⟨Heap.get?_push_size _ rfl, z, its, r, _, Heap.get?_push_size _ rfl, rfl, _, rfl⟩, rfl, q _ _ (I.hok.fresh (Nat.le_refl _)) rfl⟩
/-- a display -/
def tTupN (t : TA) : TE := fun σ H Q => t σ H fun xs H1 => xs.length ≤ sizeLine ∧ TupN H1 Q xs
theorem pe_tupN {es : List Expr} {t : TA} {j : Nat} {pos : Pos} (h : PA X es t) : PE X (.Tuple es j pos) (tTupN t) :=
  ⟨fun pins s σ H Q I hq => wpAny_Tuple_spliced (thn (h.run pos pins s σ H _ I hq) fun _ _ ⟨_, _, I1, r, z, q⟩ => ⟨r.length ▸ z, newN I1 r z q⟩)⟩
/-- tuple(x) -/
def kTupN (K : PySem.W.Frag) (xs : List V) (H : Hp) (Q : VK) : Prop := ∃ p ys, xs = [.ref p] ∧ ((SqL K H p ys ∧ TupN H Q ys) ∨ (SqT K H p ys ∧ Q (.ref p) H))
theorem call_tupleN : CallR X (.type "tuple") (kTupN X.K) := by
  rintro pins s σ H xs us Q I r ⟨p, ys, rfl, h⟩
  obtain ⟨u, rfl, ru⟩ := vals1 r
  cases ru
  rcases h with ⟨hs, q⟩ | ⟨hs, q⟩
  · obtain ⟨its, rv, pl, z⟩ := I.list hs
    have len := rv.length
    exact call_tuple_list pl.isList (fun g kp => newN (s := { s with heap := g }) (I.kept (t' := s.toks) kp) rv z q) (by simp only [List.size_toArray]; omega)
  · obtain ⟨its, rv, pl, z⟩ := I.tuple hs
    exact call_tuple_tup pl ⟨.ref p, H, I, rfl, q⟩
/-- t + u -/
def rCatN (K : PySem.W.Frag) : R2 := fun x y H Q => ∃ a b xs ys, x = .ref a ∧ y = .ref b ∧ SqT K H a xs ∧ SqT K H b ys ∧ xs.length + ys.length ≤ sizeLine ∧ (xs = [] → Q (.ref b) H) ∧ (xs ≠ [] → ys = [] → Q (.ref a) H) ∧ (xs ≠ [] → ys ≠ [] → TupN H Q (xs ++ ys))
theorem op_catN : OpR X (binaryOp .Add) (rCatN X.K) := by
  rintro pins s σ H x y v u Q I rx ry ⟨a, b, xs, ys, rfl, rfl, ha, hb, z, q0, q1, q2⟩
  cases rx
  cases ry
  obtain ⟨i1, r1, p1, _⟩ := I.tuple ha
  obtain ⟨i2, r2, p2, _⟩ := I.tuple hb
  by_cases hx : xs = []
  · subst hx
    cases r1
    exact cat_tup0 p1 p2 ⟨.ref b, H, I, rfl, q0 rfl⟩
  · have n1 : i1 ≠ [] := fun e => hx (r1.nil_iff.mp e)
    have zl : i1.length + i2.length ≤ sizeLine := by rw [← r1.length, ← r2.length]; exact z
    refine HT.cat_tup p1 p2 n1 (fun e => ⟨.ref a, H, I, rfl, q1 hx (r2.nil_iff.mp e)⟩) (fun e => ?_) zl
    exact newN I (r1.append r2) (by rw [List.length_append]; exact z) (q2 hx fun e2 => e (r2.nil_iff.mpr e2))
/-- t[lo:hi] -/
def rSlN (K : PySem.W.Frag) : V → Option Int → Option Int → Hp → VK → Prop := fun x lo hi H Q => ∃ a xs, x = .ref a ∧ SqT K H a xs ∧
  (HT.sIx xs.length 0 lo = 0 ∧ HT.sIx xs.length xs.length hi = xs.length → Q (.ref a) H) ∧ (¬ (HT.sIx xs.length 0 lo = 0 ∧ HT.sIx xs.length xs.length hi = xs.length) → TupN H Q (cutV xs lo hi))
theorem sl_tupN : SlR X (rSlN X.K) := by
  rintro pins s σ H x v vl vu lo hi sl Q I rx hs pl pu ⟨a, xs, rfl, hx, q1, q2⟩
  cases rx
  obtain ⟨its, r, ht, z⟩ := I.tuple hx
  have len : its.toArray.size = xs.length := by rw [List.size_toArray, r.length]
  refine ⟨"tuple", _, PyProof.Rows.slot_tuple_getitem.lookup, ht.typeIs, ?_⟩
  by_cases hw : HT.sIx xs.length 0 lo = 0 ∧ HT.sIx xs.length xs.length hi = xs.length
  · exact getItem_tuple_whole ht hs pl pu (len ▸ hw) ⟨.ref a, H, I, rfl, q1 hw⟩
  · refine HT.getItem_tuple_cut ht hs pl pu (len ▸ hw) ?_ (len ▸ z)
    rw [len]
    exact newN I ((r.drop _).take _) (Nat.le_trans (cutV_length xs lo hi) z) (q2 hw)
/-- tuple(range(..)) -/
def tTupRgN (te : L2.St → Hp → (Int → Int → Hp → Prop) → Prop) : TE := fun σ H Q => te σ H fun a b H1 => RgOk a b ∧ TupN H1 Q (rgV a b)
theorem pe_tupRgN {e : Expr} {te : L2.St → Hp → (Int → Int → Hp → Prop) → Prop} {p pos : Pos} (calm : X.calm = true) (gl : Gl X "tuple") (un : X.mg "tuple" = none) (he : PRg X e te) (na : starEach [e] X.env = (false, eval e X.env) :: starEach [] X.env := by rfl) :
    PE X (.Call (.Name "tuple" p) [e] [] pos) (tTupRgN te) := by
  constructor
  intro pins s σ H Q I h
  refine Call_ (ld_blt I gl un boot_tuple (PyProof.Rows.callWith_type1 (args_cons (thn (he pins s σ H _ I h) ?_) na) na))
  rintro x z ⟨r, a, b, t, u, v, G, rfl, hr, J, ⟨k1, k2, k3, k4, k5⟩, q⟩
  refine args_nil (call_tuple_range (n := (b - a).toNat) (J.ok.hd calm) hr (small_one k1 k2 k3 k4) (rangeSize_nat a b) k5 fun g tk acc kp hi => ?_)
  have e := newN (s := { z with heap := g, toks := tk }) (its := acc.toList) (J.kept kp) (vals_rg hi) (by rw [rgV_length, sizeLine_eq]; omega) q
  rw [Array.toArray_toList] at e
  exact e
/-- t * k -/
def rRepN (K : PySem.W.Frag) : R2 := fun x y H Q => ∃ l k xs, x = .ref l ∧ y = .int k ∧ SqT K H l xs ∧ -1000 ≤ k ∧ k ≤ 1000 ∧ xs.length ≤ 1000 ∧ (xs = [] ∨ k = 1 → Q (.ref l) H) ∧ (¬ (xs = [] ∨ k = 1) → TupN H Q (List.replicate k.toNat xs).flatten)
theorem op_repN : OpR X (binaryOp .Mult) (rRepN X.K) := by
  rintro pins s σ H x y v u Q I rx ry ⟨l, k, xs, rfl, rfl, hT, k0, k1000, z, q1, q⟩
  cases rx
  obtain ⟨tk, rfl⟩ := ry
  obtain ⟨its, r, ⟨⟨oc, od, dt, os⟩, at_, isT, n, isD⟩, _⟩ := I.tuple hT
  have isT2 : oc = .type "tuple" := isT
  have isD2 : dt = .seq its.toArray n := isD
  rw [isT2, isD2] at at_
  have len : its.toArray.size = xs.length := by rw [List.size_toArray, r.length]
  have fl : (List.replicate k.toNat its).flatten.length ≤ sizeLine := by
    rw [PyProof.Rows.lm_len_rep_flat, show its.length = xs.length from r.length.symm, sizeLine_eq]
    have : k.toNat * xs.length ≤ 1000 * 1000 := Nat.mul_le_mul (by omega) z
    omega
  have fl2 : (List.replicate k.toNat xs).flatten.length ≤ sizeLine := by
    rw [PyProof.Rows.lm_len_rep_flat] at fl ⊢
    rw [r.length]; exact fl
  have w1 : (decide (k < -(2 ^ 63)) || decide (k ≥ 2 ^ 63)) = false := by simp; omega
  have tyT : s.TypeIs (.ref l) "tuple" := ⟨_, at_, rfl⟩
  by_cases c : xs = [] ∨ k = 1
  · have c1 : (its.toArray.isEmpty || k == 1) = true := by
      rcases c with c | c
      · have : its.toArray.size = 0 := by rw [len, c]; rfl
        rw [show its.toArray.isEmpty = true from by rw [Array.isEmpty_iff_size_eq_zero]; exact this, Bool.true_or]
      · rw [c]; simp
    refine wpAny_binaryOp_repeat_ref (T := "tuple") (U := "int") (by decide) tyT (fun g => typeIs_int g k tk) noFill_tuple_mul F.fills_int_mul F.slot_int_rmul repeat_tuple F.slot_int_index.lookup ?_
    refine call_meets F.slot_int_rmul (typeIs_int s k tk) F.entry_int_rmul (F.args_int_rmul_2 _ _) (int_rmul_tuple k tk l its.toArray n od os) ⟨at_, rfl, tyT, ?_⟩
    refine call_meets F.slot_tuple_mul tyT F.entry_tuple_mul (F.args_tuple_mul_2 _ _) (tuple_mul1 l its.toArray n od os k tk w1 c1) ⟨at_, ?_⟩
    exact ⟨.ref l, H, I, rfl, q1 c⟩
  · have ne : xs ≠ [] := fun e => c (.inl e)
    have k1 : k ≠ 1 := fun e => c (.inr e)
    have l0 : xs.length ≠ 0 := fun e => ne (List.eq_nil_of_length_eq_zero e)
    have notE : its.toArray.isEmpty = false := by rw [Array.isEmpty_eq_false_iff]; intro e; rw [e] at len; exact l0 len.symm
    have w2 : (its.toArray.isEmpty || k == 1) = false := by rw [notE]; simp; omega
    have rep : ∀ m, Vals (List.replicate m xs).flatten (List.replicate m its).flatten := fun m => by
      induction m with
      | zero => exact .nil
      | succ m ih => rw [List.replicate_succ, List.replicate_succ, List.flatten_cons, List.flatten_cons]; exact r.append ih
    by_cases kp : k ≤ 0
    · have w3 : (decide (k ≤ 0) || its.toArray.isEmpty) = true := by rw [decide_eq_true kp, Bool.true_or]
      have kz : k.toNat = 0 := by omega
      refine wpAny_binaryOp_repeat_ref (T := "tuple") (U := "int") (by decide) tyT (fun g => typeIs_int g k tk) noFill_tuple_mul F.fills_int_mul F.slot_int_rmul repeat_tuple F.slot_int_index.lookup ?_
      refine call_meets F.slot_int_rmul (typeIs_int s k tk) F.entry_int_rmul (F.args_int_rmul_2 _ _) (int_rmul_tuple k tk l its.toArray n od os) ⟨at_, rfl, tyT, ?_⟩
      refine call_meets F.slot_tuple_mul tyT F.entry_tuple_mul (F.args_tuple_mul_2 _ _) (tuple_mul0 l its.toArray n od os k tk w1 w2 w3) ⟨at_, ?_⟩
      have := newN I (rep 0) (by simp) (by have := q c; rw [kz] at this; exact this)
      exact this
    · have few : ((its.toArray.size : Nat) : Int) * k ≤ 1000000 := by
        rw [len]
        have : ((xs.length : Nat) : Int) * k ≤ 1000 * k := Int.mul_le_mul_of_nonneg_right (by omega) (by omega)
        omega
      have w3 : (decide (k ≤ 0) || its.toArray.isEmpty) = false := by rw [notE]; simp; omega
      have w4 : Builtin.Tuple.tupleTooMany (((its.toArray.size : Nat) : Int) * k) = false := by
        unfold Builtin.Tuple.tupleTooMany
        rw [sizeLine_eq]
        exact decide_eq_false (by omega)
      have body := tuple_mulW l its.toArray n od os k tk w1 w2 w3 (by omega) w4 (by rw [size_rep, List.size_toArray]; exact fl)
      refine wpAny_binaryOp_repeat_ref (T := "tuple") (U := "int") (by decide) tyT (fun g => typeIs_int g k tk) noFill_tuple_mul F.fills_int_mul F.slot_int_rmul repeat_tuple F.slot_int_index.lookup ?_
      refine call_meets F.slot_int_rmul (typeIs_int s k tk) F.entry_int_rmul (F.args_int_rmul_2 _ _) (int_rmul_tuple k tk l its.toArray n od os) ⟨at_, rfl, tyT, ?_⟩
      refine call_meets F.slot_tuple_mul tyT F.entry_tuple_mul (F.args_tuple_mul_2 _ _) body ⟨at_, ?_⟩
      rw [size_rep]
      exact newN I (rep _) fl2 (q c)
end
end MP

set_option Elab.async false
set_option linter.all false
set_option maxRecDepth 100000
set_option maxHeartbeats 4000000
/-! t[::-1] of a tuple. -/
namespace MP
open PySem PySem.Spec PyProof.Rows L2 HT
section
variable {prog : Program} {w : World} {A : Around} {E : Value → Shared → Prop} {s : Shared}
theorem places_rev (n : Nat) : Builtin.Slice.slicePlaces ((n : Int) - 1) (-1) (-1) = n := by
  unfold Builtin.Slice.slicePlaces
  have h1 : ¬ ((-1 : Int) > 0) := by omega
  simp only [h1, if_false]
  rw [show (-(-1) : Int) = 1 by decide, Int.ediv_one]
  split <;> omega
theorem sliceApplied_rev {sl : Addr} {vl vu vs : Value} {n : Nat} {Q : Int × Int × Nat → Shared → Prop} (hs : s.heap.IsSliceOf sl vl vu vs) (pl : IsPart vl none) (pu : IsPart vu none) (ps : IsPart vs (some (-1)))
    (h : Q ((n : Int) - 1, -1, n) s) : wpAny (model prog w) A (Builtin.Slice.sliceApplied (.ref sl) (pure (n : Int))) Q E s := by
  obtain ⟨os, hos, hcs, hds⟩ := id hs
  unfold Builtin.Slice.sliceApplied Builtin.Slice.sliceFields
  refine wpAny_bind (wpAny_bind (wpAny_field hos hds (x := vl) rfl (wpAny_bind (wpAny_field hos hds (x := vu) rfl (wpAny_bind (wpAny_field hos hds (x := vs) rfl (wpAny_pure ?_)))))))
  refine wpAny_bind (slicePart_ ps ?_)
  show wpAny _ _ (if ((-1 : Int) == 0) = true then _ else _) _ _ s
  rw [if_neg (by decide)]
  refine wpAny_bind (slicePart_ pl (wpAny_bind (slicePart_ pu (wpAny_bind (wpAny_pure ?_)))))
  show wpAny _ _ (pure ((n : Int) - 1, (-1 : Int), Builtin.Slice.slicePlaces ((n : Int) - 1) (-1) (-1))) _ _ s
  rw [places_rev]
  exact wpAny_pure h
theorem fm_congr {α β : Type} {f g : α → Option β} : ∀ l : List α, (∀ x ∈ l, f x = g x) → l.filterMap f = l.filterMap g
  | [], _ => rfl
  | a :: l, h => by rw [List.filterMap_cons, List.filterMap_cons, h a List.mem_cons_self, fm_congr l fun x hx => h x (List.mem_cons_of_mem _ hx)]
theorem pick_rev (xs : Array Value) : ((List.range xs.size).filterMap fun (m : Nat) => xs[((xs.size : Int) - 1 + (m : Int) * (-1)).toNat]?).toArray = xs.toList.reverse.toArray := by
  rw [← PySem.W.krv_pick]
  unfold slicePick
  rw [PySem.W.krv_bounds]
  show _ = ((sliceRange ((xs.size : Int) - 1) (-1) (-1)).filterMap (xs[·]?)).toArray
  rw [PySem.W.krv_sliceRange, List.filterMap_map]
  congr 1
  apply fm_congr
  intro m hm
  have := List.mem_range.mp hm
  have e : ((xs.size : Int) - 1 + (m : Int) * (-1)).toNat = xs.size - 1 - m := by omega
  rw [e]
  rfl
theorem getItem_tuple_rev {t sl : Addr} {items : Array Value} {vl vu vs : Value} {Q : Value → Shared → Prop} (ht : IsTup s.heap t items) (hs : s.heap.IsSliceOf sl vl vu vs) (pl : IsPart vl none) (pu : IsPart vu none) (ps : IsPart vs (some (-1)))
    (h : Q (.ref s.heap.objs.size) { s with heap := s.heap.push { cls := .type "tuple", data := .seq items.toList.reverse.toArray } }) (hsz : items.size ≤ sizeLine) : wpAny (model prog w) A (getItem (.ref t) (.ref sl)) Q E s := by
  have hdrop : sizeOk (.seq items.toList.reverse.toArray) := by
    show items.toList.reverse.toArray.size ≤ sizeLine
    rw [List.size_toArray, List.length_reverse, Array.length_toList]
    omega
  obtain ⟨os, hos, hcs, hds⟩ := id hs
  have hTs : s.TypeIs (.ref sl) "slice" := ⟨os, hos, hcs⟩
  unfold getItem
  try with_reducible refine wpAny_holding ?_
  first | refine wpAny_bind (wpAny_pure ?_) | skip
  refine wpAny_bind (wpAny_sequenceKey ht.typeIs (by decide) ?_)
  refine wpAny_bind (wpAny_callSpecial?_slot (name := Str.ofString "__getitem__") ht.typeIs PyProof.Rows.slot_tuple_getitem
    (wpAny_call_entry PyProof.Rows.slot_tuple_getitem ht.typeIs entry_tuple_getitem ?_ (args_tuple_getitem _ _)))
  show wpAny _ _ (Builtin.Tuple.tupleItemsOf (.ref t) >>= _) _ _ s
  refine wpAny_bind (tupleItemsOf_ ht ?_)
  refine wpAny_bind (wpAny_typeOf hTs ?_)
  rw [if_pos (by decide)]
  refine wpAny_bind (sliceApplied_rev hs pl pu ps ?_)
  have hno : ¬ (((items.size : Int) - 1 == 0 && (-1 : Int) == 1 && items.size == items.size) = true) := by
    have : ((-1 : Int) == 1) = false := by decide
    rw [this]; simp
  show wpAny _ _ (if ((items.size : Int) - 1 == 0 && (-1 : Int) == 1 && items.size == items.size) = true then _ else _) _ _ s
  rw [if_neg hno, pick_rev items]
  first
    | exact wpAny_bind (m := Builtin.Tuple.tupleExact _) (wpAny_newObj_type (wpAny_pure ⟨_, rfl, wpAny_pure h⟩) hdrop)
    | exact wpAny_bind (m := Builtin.Tuple.tupleExact _) (wpAny_newObj_type (wpAny_bind (wpAny_pure (wpAny_pure ⟨_, rfl, wpAny_pure h⟩))) hdrop)
    | exact wpAny_bind (wpAny_bind (m := Builtin.Tuple.tupleExact _) (wpAny_newObj_type (wpAny_pure (wpAny_pure ⟨_, rfl, wpAny_pure h⟩)) hdrop))
    | exact wpAny_bind (wpAny_bind (m := Builtin.Tuple.tupleExact _) (wpAny_newObj_type (wpAny_pure ⟨_, rfl, wpAny_pure h⟩) hdrop))
end
section
variable {X : Cx}
/-- xs[::-1], a list or a tuple -/
def tRevA (K : PySem.W.Frag) (te : TE) : TE := fun σ H Q => te σ H fun x H1 => ∃ a xs, x = .ref a ∧ ((SqL K H1 a xs ∧ ∀ p, H1 p = none → Q (.ref p) (upd H1 p (.lst xs.reverse))) ∨ (SqT K H1 a xs ∧ TupN H1 Q xs.reverse))
theorem pe_revA {e : Expr} {te : TE} {k : Nat} {p1 p2 p3 pos : Pos} (he : PE X e te) : PE X (.Subscript e (.Slice none none (some (.UnaryOp .USub (.Constant (.int 1) k p1) p2)) p3) pos) (tRevA X.K te) := by
  refine ⟨fun pins s σ H Q I h => ?_⟩
  refine Subscript_ (thn (he.run pins s σ H _ I h) fun v s1 ⟨x, H1, I1, r1, q1⟩ => ?_)
  obtain ⟨a, xs, ex, hx⟩ := q1
  subst ex
  cases r1
  have hst : PO X (some (.UnaryOp .USub (.Constant (.int 1) k p1) p2)) (tPart (tUn (rU fun i => .int (-i)) (tC (.int 1)))) := po_some (pe_un un_neg pe_int)
  refine wpAny_Slice (thn (po_none.run pins s1 σ H1 (fun o H2 => o = none ∧ H2 = H1) I1 ⟨rfl, rfl⟩) fun vl s2 ⟨l, H2, I2, pl, el, e2⟩ => ?_)
  subst el e2
  refine thn (po_none.run pins s2 σ H2 (fun o H3 => o = none ∧ H3 = H2) I2 ⟨rfl, rfl⟩) fun vu s3 ⟨u, H3, I3, pu, eu, e3⟩ => ?_
  subst eu e3
  refine thn (hst.run pins s3 σ H3 (fun o H4 => o = some (-1) ∧ H4 = H3) I3 ⟨1, rfl, -1, rfl, rfl, rfl⟩) fun vs s4 ⟨o, H4, I4, ps, eo, e4⟩ => ?_
  subst eo e4
  have I5 : Inv X pins σ H4 { s4 with heap := s4.heap.push { cls := .type "slice", data := .fields #[vl, vu, vs] } } := I4.kept (t' := s4.toks) fun b ob q => Heap.get?_push_of_some _ q
  show wpAny (model X.prog X.w) X.A (subscriptTail e (.Slice none none (some (.UnaryOp .USub (.Constant (.int 1) k p1) p2)) p3) (.ref a) (.ref s4.heap.objs.size)) (EP X pins σ Q) X.xe { s4 with heap := s4.heap.push { cls := .type "slice", data := .fields #[vl, vu, vs] } }
  rcases hx with ⟨hx, q⟩ | ⟨hx, q⟩
  · obtain ⟨its, r, ht, hz⟩ := I5.list hx
    have hlen := r.length
    refine tail_any (ops := [.ref a, .ref s4.heap.objs.size]) ht.isList.typeIs (PySem.slot_list_getitem.lookup) ?_ (by with_unfolding_all rfl)
    refine wpAny_getItem_list_slice ht.isList (Heap.IsSliceOf.new _ vl vu vs) pl pu ps (by decide) ?_ (by rw [List.size_toArray]; omega)
    rw [PySem.W.krv_pick]
    refine ⟨.ref _, _, I5.laid (t' := s4.toks) (o := .lst xs.reverse) (fun b ob q => Heap.get?_push_of_some _ q) (Nat.le_refl _) ?_, rfl, q _ (I5.hok.fresh (Nat.le_refl _))⟩
    exact ⟨by rw [List.length_reverse]; exact hz, _, 0, r.reverse, Heap.get?_push_size _ rfl⟩
  · obtain ⟨its, r, ht, hz⟩ := I5.tuple hx
    have hlen := r.length
    refine tail_any (ops := [.ref a, .ref s4.heap.objs.size]) ht.typeIs (PyProof.Rows.slot_tuple_getitem.lookup) ?_ (by with_unfolding_all rfl)
    refine getItem_tuple_rev ht (Heap.IsSliceOf.new _ vl vu vs) pl pu ps ?_ (by rw [List.size_toArray]; omega)
    exact newN I5 r.reverse (by rw [List.length_reverse]; exact hz) q
end
end MP

set_option Elab.async false
set_option linter.all false
set_option maxRecDepth 100000
namespace MP
open PySem PySem.Spec PyProof.Rows L2

/-! ### how trees lie in the heap -/
/-- where defs and classes stand -/
structure Wd where
  K : PySem.W.Frag
  w : World
  fa : Nat → Option Addr
  ca : Nat → Option Addr
  xc : Nat → Option (Addr × List Nat)
  xs : Nat → Bool

/-- keys that are ints or texts -/
def keyS : PV → Option Key
  | .int i => some (.inl i)
  | .str x => some (.inr x)
  | _ => none
def keysS : List PV → Option (List Key)
  | [] => some []
  | k :: ks => match keyS k, keysS ks with
    | some a, some b => some (a :: b)
    | _, _ => none

mutual
def nk : PV → Option NestedKey
  | .int i => some (.num i)
  | .str x => some (.text x)
  | .tup xs => (nks xs).map .tup
  | _ => none
def nks : List PV → Option (List NestedKey)
  | [] => some []
  | x :: xs => match nk x, nks xs with
    | some a, some b => some (a :: b)
    | _, _ => none
end
/-- the object of a dict with such entries -/
def dphi (w : World) (a : Addr) (es : List (NestedKey × Addr × Value)) : Heap → Prop := fun h =>
  ∃ o arr ep, h.get? a = some o ∧ o.ExactDict ∧ o.data = .dict arr ep ∧ arr.toList = es.map fun e => (⟨e.1.hash w, .ref e.2.1, e.2.2⟩ : DictEntry)
/-- a dict of these keys, values: keys that are ints or texts; or tuples -/
def DictAt (W : Wd) (H : Hp) (a : Addr) (ks : List PV) (bs xs : List V) : Prop :=
  (∃ kk, keysS ks = some kk ∧ kk.length = xs.length ∧ H a = some (.dK (kk.zip xs))) ∨
  (∃ es : List (NestedKey × Addr × Value), H a = some (.ext (dphi W.w a es)) ∧ nks ks = some (es.map (·.1)) ∧ bs = es.map (fun e => V.ref e.2.1) ∧ Vals xs (es.map (·.2.2)) ∧
    es.length ≤ sizeLine ∧ (a == sysModules) = false ∧ (es.map (·.1)).Nodup ∧ (∀ e ∈ es, e.1.depth ≤ 8) ∧ ks.all isTup = true)
theorem DictAt.hp {W : Wd} {H H' : Hp} {a : Addr} {ks : List PV} {bs xs : List V} (h : DictAt W H a ks bs xs) (e : ∀ o, H a = some o → H' a = some o) : DictAt W H' a ks bs xs := by
  rcases h with ⟨kk, h1, h2, h3⟩ | ⟨es, h1, h2⟩
  · exact .inl ⟨kk, h1, h2, e _ h3⟩
  · exact .inr ⟨es, e _ h1, h2⟩
theorem DictAt.tracked {W : Wd} {H : Hp} {a : Addr} {ks : List PV} {bs xs : List V} (h : DictAt W H a ks bs xs) : ∃ o, H a = some o ∧ Mut (some o) ∧ (∀ ys, o ≠ .lst ys) := by
  rcases h with ⟨kk, _, _, h3⟩ | ⟨es, h1, _⟩
  · exact ⟨_, h3, trivial, fun _ z => nomatch z⟩
  · exact ⟨_, h1, trivial, fun _ z => nomatch z⟩
abbrev AS := Addr → Prop
/-- a list that is never written: locked, or of the written part -/
def Scr (K : PySem.W.Frag) (H : Hp) (a : Addr) (xs : List V) : Prop :=
  (∃ o, H a = some (.frz o (.lst xs))) ∨
    ∃ (o : Obj) (its : Array Value) (n : Nat), K.lookup a = some o ∧ o.cls = .type "list" ∧ o.dict = none ∧ o.data = .seq its n ∧ its.size ≤ sizeLine ∧ Vals xs its.toList
theorem Scr.sq {K : PySem.W.Frag} {H : Hp} {a : Addr} {xs : List V} (h : Scr K H a xs) : SqL K H a xs := by
  rcases h with h | h
  · exact .inl (.inr h)
  · exact .inr h
section
variable (W : Wd) (F : AS) (ρ : List Addr) (H : Hp)
mutual
def Rep : PV → V → Prop
  | .non, v => v = .non
  | .bl b, v => v = .bl b
  | .int i, v => v = .int i
  | .str x, v => v = .str x
  | .tup ts, v => ∃ a xs, v = .ref a ∧ SqN W.K H a xs ∧ Reps ts xs
  | .lst ts, v => ∃ a xs, v = .ref a ∧ F a ∧ H a = some (.lst xs) ∧ Reps ts xs
  | .scr ts, v => ∃ a xs, v = .ref a ∧ Scr W.K H a xs ∧ Reps ts xs
  | .dct ks ts, v => ∃ a bs xs, v = .ref a ∧ F a ∧ DictAt W H a ks bs xs ∧ Reps ks bs ∧ Reps ts xs
  | .ref n, v => ∃ a, v = .ref a ∧ ρ[n]? = some a
  | .fn f, v => ∃ a, v = .ref a ∧ W.fa f = some a
  | .cls c, v => ∃ a, v = .ref a ∧ W.ca c = some a
def Reps : List PV → List V → Prop
  | [], xs => xs = []
  | t :: ts, xs => ∃ y ys, xs = y :: ys ∧ Rep t y ∧ Reps ts ys
end
/-- a list or a dict that one name alone holds, or anything else -/
def Own : PV → V → Prop
  | .lst ts, v => ∃ a xs, v = .ref a ∧ H a = some (.lst xs) ∧ ¬ F a ∧ a ∉ ρ ∧ Reps W F ρ H ts xs
  | .dct ks ts, v => ∃ a bs xs, v = .ref a ∧ DictAt W H a ks bs xs ∧ ¬ F a ∧ a ∉ ρ ∧ Reps W F ρ H ks bs ∧ Reps W F ρ H ts xs
  | t, v => Rep W F ρ H t v
/-- what may be read now -/
def RepB : PV → V → Prop
  | .lst ts, v => ∃ a xs, v = .ref a ∧ H a = some (.lst xs) ∧ Reps W F ρ H ts xs
  | .dct ks ts, v => ∃ a bs xs, v = .ref a ∧ DictAt W H a ks bs xs ∧ Reps W F ρ H ks bs ∧ Reps W F ρ H ts xs
  | t, v => Rep W F ρ H t v
/-- shared things -/
def ObjR : HV → Addr → Prop
  | .lst ts, a => ∃ xs, H a = some (.lst xs) ∧ Reps W F ρ H ts xs
  | .ins _ _, _ => False
end

/-- what goes on: more is frozen, more is shared, all else stays -/
structure Ext (F : AS) (ρ : List Addr) (H : Hp) (F' : AS) (ρ' : List Addr) (H' : Hp) : Prop where
  fF : ∀ a, F a → F' a
  new : ∀ a, F' a → F a ∨ H a = none
  pre : ∃ m, ρ' = ρ ++ m ∧ ∀ a ∈ m, H a = none
  keep : ∀ a o, H a = some o → a ∉ ρ → H' a = some o
  thr : ∀ a o, H a = some o → ∃ o', H' a = some o'
  tup : ∀ a xs, H a = some (.tup xs) → H' a = some (.tup xs)
  frz : ∀ a o u, H a = some (.frz o u) → H' a = some (.frz o u)
  sep : ∀ a, F a → a ∉ ρ
  tr : ∀ a, F a → ∃ o, H a = some o

section
variable {W : Wd} {F F' F'' : AS} {ρ ρ' ρ'' : List Addr} {H H' H'' : Hp}
theorem Ext.refl (sep : ∀ a, F a → a ∉ ρ) (tr : ∀ a, F a → ∃ o, H a = some o) : Ext F ρ H F ρ H :=
  ⟨fun _ h => h, fun _ h => .inl h, ⟨[], by simp, by simp⟩, fun _ _ h _ => h, fun _ o h => ⟨o, h⟩, fun _ _ h => h, fun _ _ _ h => h, sep, tr⟩
theorem Ext.some_of (e : Ext F ρ H F' ρ' H') {a : Addr} {o : HO} (h : H a = some o) (hn : a ∉ ρ) : H' a = some o := e.keep a o h hn
theorem Ext.notin (e : Ext F ρ H F' ρ' H') {a : Addr} {o : HO} (h : H a = some o) (hn : a ∉ ρ) : a ∉ ρ' := by
  obtain ⟨m, rfl, hm⟩ := e.pre
  intro z
  rcases List.mem_append.mp z with z | z
  · exact hn z
  · rw [hm a z] at h; cases h
theorem Ext.notF (e : Ext F ρ H F' ρ' H') {a : Addr} {o : HO} (h : H a = some o) (hn : ¬ F a) : ¬ F' a := by
  intro z
  rcases e.new a z with z | z
  · exact hn z
  · rw [z] at h; cases h
theorem Ext.nn (e : Ext F ρ H F' ρ' H') {a : Addr} (h : H' a = none) : H a = none := by
  cases q : H a with
  | none => rfl
  | some o => obtain ⟨o', h'⟩ := e.thr a o q; rw [h] at h'; cases h'
theorem Ext.trans (e : Ext F ρ H F' ρ' H') (e' : Ext F' ρ' H' F'' ρ'' H'') : Ext F ρ H F'' ρ'' H'' where
  fF := fun a h => e'.fF a (e.fF a h)
  new := fun a h => by
    rcases e'.new a h with h | h
    · exact e.new a h
    · exact .inr (e.nn h)
  pre := by
    obtain ⟨m, rfl, hm⟩ := e.pre
    obtain ⟨m', rfl, hm'⟩ := e'.pre
    exact ⟨m ++ m', by simp, fun a h => by
      rcases List.mem_append.mp h with h | h
      · exact hm a h
      · exact e.nn (hm' a h)⟩
  keep := fun a o h hn => e'.keep a o (e.keep a o h hn) (e.notin h hn)
  thr := fun a o h => let ⟨o', h'⟩ := e.thr a o h; e'.thr a o' h'
  tup := fun a xs h => e'.tup a xs (e.tup a xs h)
  frz := fun a o u h => e'.frz a o u (e.frz a o u h)
  sep := e.sep
  tr := e.tr

theorem SqT.ext (e : Ext F ρ H F' ρ' H') {K : PySem.W.Frag} {a : Addr} {xs : List V} (h : SqT K H a xs) : SqT K H' a xs := by
  rcases h with (h | ⟨o, h⟩) | h
  · exact .inl (.inl (e.tup _ _ h))
  · exact .inl (.inr ⟨o, e.frz _ _ _ h⟩)
  · exact .inr h
theorem SqL.ext (e : Ext F ρ H F' ρ' H') {K : PySem.W.Frag} {a : Addr} {xs : List V} (h : SqL K H a xs) (hf : H a = some (.lst xs) → a ∉ ρ) : SqL K H' a xs := by
  rcases h with (h | ⟨o, h⟩) | h
  · exact .inl (.inl (e.keep _ _ h (hf h)))
  · exact .inl (.inr ⟨o, e.frz _ _ _ h⟩)
  · exact .inr h
theorem Reps.length : ∀ {ts : List PV} {xs : List V}, Reps W F ρ H ts xs → ts.length = xs.length
  | [], xs, h => by simp only [Reps] at h; subst h; rfl
  | t :: ts, xs, h => by
    simp only [Reps] at h
    obtain ⟨y, ys, rfl, _, h2⟩ := h
    simp [Reps.length h2]
/-- the state is such that trees stay -/
structure Stay (W : Wd) (F : AS) (ρ : List Addr) (H : Hp) (F' : AS) (ρ' : List Addr) (H' : Hp) : Prop where
  fF : ∀ a, F a → F' a
  pre : ∃ m, ρ' = ρ ++ m
  kF : ∀ a o, F a → H a = some o → H' a = some o
  tup : ∀ a xs, H a = some (.tup xs) → H' a = some (.tup xs)
  frz : ∀ a o u, H a = some (.frz o u) → H' a = some (.frz o u)
theorem Ext.stay (e : Ext F ρ H F' ρ' H') : Stay W F ρ H F' ρ' H' :=
  ⟨e.fF, let ⟨m, h, _⟩ := e.pre; ⟨m, h⟩, fun a o hf h => e.keep a o h (e.sep a hf), e.tup, e.frz⟩
theorem Scr.stay (e : Stay W F ρ H F' ρ' H') {K : PySem.W.Frag} {a : Addr} {xs : List V} (h : Scr K H a xs) : Scr K H' a xs := by
  rcases h with ⟨o, h⟩ | h
  · exact .inl ⟨o, e.frz _ _ _ h⟩
  · exact .inr h
mutual
theorem Rep.stay (e : Stay W F ρ H F' ρ' H') : ∀ {t : PV} {v : V}, Rep W F ρ H t v → Rep W F' ρ' H' t v
  | .non, _, h => h
  | .bl _, _, h => h
  | .int _, _, h => h
  | .str _, _, h => h
  | .tup ts, v, h => by
    simp only [Rep] at h ⊢
    obtain ⟨a, xs, rfl, hs, hr⟩ := h
    refine ⟨a, xs, rfl, ?_, Reps.stay e hr⟩
    rcases hs with ⟨o, h, ho⟩ | h
    · exact .inl ⟨o, e.frz _ _ _ h, ho⟩
    · exact .inr h
  | .lst ts, v, h => by
    simp only [Rep] at h ⊢
    obtain ⟨a, xs, rfl, hf, hs, hr⟩ := h
    exact ⟨a, xs, rfl, e.fF _ hf, e.kF _ _ hf hs, Reps.stay e hr⟩
  | .scr ts, v, h => by
    simp only [Rep] at h ⊢
    obtain ⟨a, xs, rfl, hs, hr⟩ := h
    exact ⟨a, xs, rfl, hs.stay e, Reps.stay e hr⟩
  | .dct ks ts, v, h => by
    simp only [Rep] at h ⊢
    obtain ⟨a, bs, xs, rfl, hf, hd, hk, hr⟩ := h
    exact ⟨a, bs, xs, rfl, e.fF _ hf, hd.hp fun o => e.kF _ o hf, Reps.stay e hk, Reps.stay e hr⟩
  | .ref n, v, h => by
    simp only [Rep] at h ⊢
    obtain ⟨a, rfl, hr⟩ := h
    obtain ⟨m, rfl⟩ := e.pre
    refine ⟨a, rfl, ?_⟩
    rw [List.getElem?_append_left (List.getElem?_eq_some_iff.mp hr).1]
    exact hr
  | .fn _, _, h => h
  | .cls _, _, h => h
theorem Reps.stay (e : Stay W F ρ H F' ρ' H') : ∀ {ts : List PV} {xs : List V}, Reps W F ρ H ts xs → Reps W F' ρ' H' ts xs
  | [], _, h => h
  | t :: ts, xs, h => by
    simp only [Reps] at h ⊢
    obtain ⟨y, ys, rfl, h1, h2⟩ := h
    exact ⟨y, ys, rfl, Rep.stay e h1, Reps.stay e h2⟩
end
theorem Rep.b : ∀ {t : PV} {v : V}, Rep W F ρ H t v → RepB W F ρ H t v := by
  intro t v h
  cases t with
  | lst ts =>
    simp only [Rep, RepB] at h ⊢
    obtain ⟨a, xs, e, _, hs, hr⟩ := h
    exact ⟨a, xs, e, hs, hr⟩
  | dct ks ts =>
    simp only [Rep, RepB] at h ⊢
    obtain ⟨a, bs, xs, e, _, hd, hk, hr⟩ := h
    exact ⟨a, bs, xs, e, hd, hk, hr⟩
  | _ => exact h
theorem Own.b : ∀ {t : PV} {v : V}, Own W F ρ H t v → RepB W F ρ H t v := by
  intro t v h
  cases t with
  | lst ts =>
    simp only [Own, RepB] at h ⊢
    obtain ⟨a, xs, e, hs, _, _, hr⟩ := h
    exact ⟨a, xs, e, hs, hr⟩
  | dct ks ts =>
    simp only [Own, RepB] at h ⊢
    obtain ⟨a, bs, xs, e, hd, _, _, hk, hr⟩ := h
    exact ⟨a, bs, xs, e, hd, hk, hr⟩
  | _ => exact h
theorem Reps.app : ∀ {ts us : List PV} {xs ys : List V}, Reps W F ρ H ts xs → Reps W F ρ H us ys → Reps W F ρ H (ts ++ us) (xs ++ ys)
  | [], _, _, _, h, h' => by simp only [Reps] at h; subst h; exact h'
  | t :: ts, us, xs, ys, h, h' => by
    simp only [Reps] at h
    obtain ⟨y, zs, rfl, h1, h2⟩ := h
    simp only [List.cons_append, Reps]
    exact ⟨y, zs ++ ys, rfl, h1, Reps.app h2 h'⟩
theorem Reps.get : ∀ {ts : List PV} {xs : List V} {i : Nat} {t : PV}, Reps W F ρ H ts xs → ts[i]? = some t → ∃ v, xs[i]? = some v ∧ Rep W F ρ H t v
  | [], _, _, _, _, e => by simp at e
  | t :: ts, xs, 0, u, h, e => by
    simp only [Reps] at h
    obtain ⟨y, ys, rfl, h1, h2⟩ := h
    simp at e; subst e
    exact ⟨y, rfl, h1⟩
  | t :: ts, xs, i + 1, u, h, e => by
    simp only [Reps] at h
    obtain ⟨y, ys, rfl, h1, h2⟩ := h
    obtain ⟨v, a, b⟩ := Reps.get (i := i) h2 (by simpa using e)
    exact ⟨v, by simpa using a, b⟩
theorem Reps.get' : ∀ {ts : List PV} {xs : List V} {i : Nat} {v : V}, Reps W F ρ H ts xs → xs[i]? = some v → ∃ t, ts[i]? = some t ∧ Rep W F ρ H t v := by
  intro ts xs i v h e
  have hl := h.length
  have hi := (List.getElem?_eq_some_iff.mp e).1
  obtain ⟨v', e', r⟩ := h.get (i := i) (List.getElem?_eq_getElem (by omega))
  rw [e] at e'
  cases e'
  exact ⟨_, List.getElem?_eq_getElem (by omega), r⟩
theorem Reps.drop : ∀ {ts : List PV} {xs : List V} (n : Nat), Reps W F ρ H ts xs → Reps W F ρ H (ts.drop n) (xs.drop n)
  | _, _, 0, h => h
  | [], _, n + 1, h => by simp only [Reps] at h; subst h; simp [Reps]
  | t :: ts, xs, n + 1, h => by
    simp only [Reps] at h
    obtain ⟨y, ys, rfl, h1, h2⟩ := h
    exact Reps.drop n h2
theorem Reps.take : ∀ {ts : List PV} {xs : List V} (n : Nat), Reps W F ρ H ts xs → Reps W F ρ H (ts.take n) (xs.take n)
  | _, _, 0, _ => by simp [Reps]
  | [], _, n + 1, h => by simp only [Reps] at h; subst h; simp [Reps]
  | t :: ts, xs, n + 1, h => by
    simp only [Reps] at h
    obtain ⟨y, ys, rfl, h1, h2⟩ := h
    simp only [List.take_succ_cons, Reps]
    exact ⟨y, _, rfl, h1, Reps.take n h2⟩
theorem Reps.rev : ∀ {ts : List PV} {xs : List V}, Reps W F ρ H ts xs → Reps W F ρ H ts.reverse xs.reverse
  | [], _, h => by simp only [Reps] at h; subst h; simp [Reps]
  | t :: ts, xs, h => by
    simp only [Reps] at h
    obtain ⟨y, ys, rfl, h1, h2⟩ := h
    simp only [List.reverse_cons]
    exact Reps.app (Reps.rev h2) (by simp only [Reps]; exact ⟨y, [], rfl, h1, rfl⟩)
theorem Reps.set : ∀ {ts : List PV} {xs : List V} {t : PV} {v : V} (i : Nat), Reps W F ρ H ts xs → Rep W F ρ H t v → Reps W F ρ H (ts.set i t) (xs.set i v)
  | [], _, _, _, _, h, _ => by simp only [Reps] at h; subst h; simp [Reps]
  | t :: ts, xs, u, v, 0, h, r => by
    simp only [Reps] at h
    obtain ⟨y, ys, rfl, h1, h2⟩ := h
    simp only [List.set_cons_zero, Reps]
    exact ⟨v, ys, rfl, r, h2⟩
  | t :: ts, xs, u, v, i + 1, h, r => by
    simp only [Reps] at h
    obtain ⟨y, ys, rfl, h1, h2⟩ := h
    simp only [List.set_cons_succ, Reps]
    exact ⟨y, _, rfl, h1, Reps.set i h2 r⟩
theorem Reps.ints : ∀ {ts : List PV} {xs : List V} {is : List Int}, Reps W F ρ H ts xs → intsOf ts = some is → xs = is.map V.int
  | [], _, is, h, e => by simp only [Reps] at h; simp only [intsOf] at e; cases e; subst h; rfl
  | t :: ts, xs, is, h, e => by
    simp only [Reps] at h
    obtain ⟨y, ys, rfl, h1, h2⟩ := h
    cases t <;> simp only [intsOf] at e <;> first | cases e | skip
    rename_i i
    cases q : intsOf ts with
    | none => rw [q] at e; cases e
    | some js =>
      rw [q] at e
      cases e
      simp only [Rep] at h1
      rw [h1, Reps.ints h2 q]
      rfl
theorem Reps.bools : ∀ {ts : List PV} {xs : List V} {is : List Bool}, Reps W F ρ H ts xs → boolsOf ts = some is → xs = is.map V.bl
  | [], _, is, h, e => by simp only [Reps] at h; simp only [boolsOf] at e; cases e; subst h; rfl
  | t :: ts, xs, is, h, e => by
    simp only [Reps] at h
    obtain ⟨y, ys, rfl, h1, h2⟩ := h
    cases t <;> simp only [boolsOf] at e <;> first | cases e | skip
    rename_i i
    cases q : boolsOf ts with
    | none => rw [q] at e; cases e
    | some js =>
      rw [q] at e
      cases e
      simp only [Rep] at h1
      rw [h1, Reps.bools h2 q]
      rfl
/-- plain data, for == and repr -/
theorem Rep.dp : ∀ {d : Nat} {t : PV} {v : V}, plain d t = true → Rep W F ρ H t v → Dp W.K H v (toD t) := by
  intro d t
  suffices h : (∀ d v, plain d t = true → Rep W F ρ H t v → Dp W.K H v (toD t)) from fun {v} => h d v
  refine PV.rec (motive_1 := fun t => ∀ d v, plain d t = true → Rep W F ρ H t v → Dp W.K H v (toD t))
    (motive_2 := fun ts => ∀ d xs, plains d ts = true → Reps W F ρ H ts xs → DpAll W.K H xs (toDs ts)) ?_ ?_ ?_ ?_ ?_ ?_ ?_ ?_ ?_ ?_ ?_ ?_ ?_ t
  · intro d v _ r; simp only [Rep] at r; subst r; simp only [toD]; exact .non
  · intro b d v _ r; simp only [Rep] at r; subst r; simp only [toD]; exact .bl b
  · intro i d v _ r; simp only [Rep] at r; subst r; simp only [toD]; exact .int i
  · intro x d v _ r; simp only [Rep] at r; subst r; simp only [toD]; exact .str x
  · intro xs ih d v p r
    simp only [Rep] at r
    obtain ⟨a, ys, rfl, hs, hr⟩ := r
    simp only [toD]
    cases d with
    | zero => simp [plain] at p
    | succ d => simp only [plain] at p; exact .tup hs.t (ih d ys p hr)
  · intro xs ih d v p r
    simp only [Rep] at r
    obtain ⟨a, ys, rfl, _, hs, hr⟩ := r
    simp only [toD]
    cases d with
    | zero => simp [plain] at p
    | succ d => simp only [plain] at p; exact .lst (SqL.of hs) (ih d ys p hr)
  · intro ks vs _ _ d v p _; simp [plain] at p
  · intro xs _ d v p _; simp [plain] at p
  · intro n d v p _; simp [plain] at p
  · intro n d v p _; simp [plain] at p
  · intro n d v p _; simp [plain] at p
  · intro d xs _ r; simp only [Reps] at r; subst r; simp only [toDs]; exact .nil
  · intro t ts ih1 ih2 d xs p r
    simp only [Reps] at r
    obtain ⟨y, ys, rfl, h1, h2⟩ := r
    simp only [plains, Bool.and_eq_true] at p
    simp only [toDs]
    exact .cons (ih1 d y p.1 h1) (ih2 d ys p.2 h2)
end

/-! ### states -/
structure Hps (W : Wd) (F : AS) (ρ : List Addr) (H : Hp) (h : Hs) : Prop where
  len : ρ.length = h.length
  obj : ∀ (n : Nat) (o : HV) (a : Addr), h[n]? = some o → ρ[n]? = some a → ObjR W F ρ H o a
  nd : ρ.Nodup
  sep : ∀ a, F a → a ∉ ρ
  tr : ∀ a, F a → ∃ o, H a = some o
def isMut : PV → Bool
  | .lst _ => true
  | .dct _ _ => true
  | _ => false
structure Rel (W : Wd) (F : AS) (ρ : List Addr) (fl : List Nat) (τ : Sl) (σ : L2.St) (H : Hp) : Prop where
  len : τ.length = σ.length
  slot : ∀ (i : Nat) (t : PV), getS τ i = some t → ∃ v, σ[i]? = some (some v) ∧ (i ∉ fl → Rep W F ρ H t v) ∧ (i ∈ fl → Own W F ρ H t v)
  dis : ∀ (i j : Nat) (t u : PV), i ≠ j → i ∈ fl → j ∈ fl → getS τ i = some t → getS τ j = some u → isMut t = true → isMut u = true → σ[i]? ≠ σ[j]?
section
variable {W : Wd} {F F' F'' : AS} {ρ ρ' ρ'' : List Addr} {H H' H'' : Hp} {h h' : Hs} {fl : List Nat} {τ : Sl} {σ : L2.St}
theorem Hps.ext0 (p : Hps W F ρ H h) : Ext F ρ H F ρ H := Ext.refl p.sep p.tr
theorem Own.stay (e : Ext F ρ H F' ρ' H') (p : Hps W F' ρ' H' h') {t : PV} {v : V} (o : Own W F ρ H t v) : Own W F' ρ' H' t v := by
  have st : Stay W F ρ H F' ρ' H' := e.stay
  cases t with
  | lst ts =>
    simp only [Own] at o ⊢
    obtain ⟨a, xs, e1, hs, hf, hn, hr⟩ := o
    exact ⟨a, xs, e1, e.keep _ _ hs hn, e.notF hs hf, e.notin hs hn, hr.stay st⟩
  | dct ks ts =>
    simp only [Own] at o ⊢
    obtain ⟨a, bs, xs, e1, hs, hf, hn, hk, hr⟩ := o
    obtain ⟨ob, ho, _⟩ := hs.tracked
    exact ⟨a, bs, xs, e1, hs.hp fun o h => e.keep _ _ h hn, e.notF ho hf, e.notin ho hn, hk.stay st, hr.stay st⟩
  | _ => exact Rep.stay st o
theorem RepB.stay' (e : Ext F ρ H F' ρ' H') (p : Hps W F' ρ' H' h') {t : PV} {v : V} (o : Own W F ρ H t v ∨ Rep W F ρ H t v) : RepB W F' ρ' H' t v := by
  rcases o with o | o
  · exact (o.stay e p).b
  · exact (Rep.stay e.stay o).b
theorem Rel.ext (r : Rel W F ρ fl τ σ H) (e : Ext F ρ H F' ρ' H') (p : Hps W F' ρ' H' h') : Rel W F' ρ' fl τ σ H' := by
  refine ⟨r.len, fun i t q => ?_, r.dis⟩
  obtain ⟨v, hv, h1, h2⟩ := r.slot i t q
  exact ⟨v, hv, fun hi => Rep.stay e.stay (h1 hi), fun hi => (h2 hi).stay e p⟩
theorem Own.addr {t : PV} {v : V} (o : Own W F ρ H t v) (m : isMut t = true) : ∃ a ob, v = .ref a ∧ H a = some ob ∧ ¬ F a ∧ a ∉ ρ ∧ Mut (some ob) := by
  cases t with
  | lst ts =>
    simp only [Own] at o
    obtain ⟨a, xs, e1, hs, hf, hn, _⟩ := o
    exact ⟨a, _, e1, hs, hf, hn, trivial⟩
  | dct ks ts =>
    simp only [Own] at o
    obtain ⟨a, bs, xs, e1, hs, hf, hn, _⟩ := o
    obtain ⟨ob, ho, hm, _⟩ := hs.tracked
    exact ⟨a, ob, e1, ho, hf, hn, hm⟩
  | _ => simp [isMut] at m
theorem Own.rep {t : PV} {v : V} (o : Own W F ρ H t v) (m : isMut t = false) : Rep W F ρ H t v := by
  cases t with
  | lst ts => simp [isMut] at m
  | dct ks ts => simp [isMut] at m
  | _ => exact o
/-- one more address is frozen -/
def more (F : AS) (a : Addr) : AS := fun b => F b ∨ b = a
theorem Hps.more (p : Hps W F ρ H h) {a : Addr} {o : HO} (ha : H a = some o) (hn : a ∉ ρ) : Hps W (more F a) ρ H h ∧ Stay W F ρ H (MP.more F a) ρ H := by
  have st : Stay W F ρ H (MP.more F a) ρ H := ⟨fun b hb => .inl hb, ⟨[], by simp⟩, fun _ _ _ h => h, fun _ _ h => h, fun _ _ _ h => h⟩
  refine ⟨⟨p.len, fun n o a h1 h2 => ?_, p.nd, fun b hb => ?_, fun b hb => ?_⟩, st⟩
  · have q := p.obj n o a h1 h2
    cases o with
    | lst ts =>
      simp only [ObjR] at q ⊢
      obtain ⟨xs, e, r⟩ := q
      exact ⟨xs, e, r.stay st⟩
    | ins _ _ => exact q
  · rcases hb with hb | rfl
    · exact p.sep b hb
    · exact hn
  · rcases hb with hb | rfl
    · exact p.tr b hb
    · exact ⟨o, ha⟩
theorem Own.frozen {t : PV} {a : Addr} (o : Own W F ρ H t (.ref a)) (m : isMut t = true) (st : Stay W F ρ H (MP.more F a) ρ H) : Rep W (MP.more F a) ρ H t (.ref a) := by
  cases t with
  | lst ts =>
    simp only [Own] at o
    obtain ⟨b, xs, e1, hs, hf, hn, hr⟩ := o
    cases e1
    simp only [Rep]
    exact ⟨a, xs, rfl, .inr rfl, hs, hr.stay st⟩
  | dct ks ts =>
    simp only [Own] at o
    obtain ⟨b, bs, xs, e1, hs, hf, hn, hk, hr⟩ := o
    cases e1
    simp only [Rep]
    exact ⟨a, bs, xs, rfl, .inr rfl, hs, hk.stay st, hr.stay st⟩
  | _ => simp [isMut] at m
theorem Own.more {t : PV} {v : V} {a : Addr} (o : Own W F ρ H t v) (st : Stay W F ρ H (MP.more F a) ρ H) (hne : v ≠ .ref a) : Own W (MP.more F a) ρ H t v := by
  cases t with
  | lst ts =>
    simp only [Own] at o ⊢
    obtain ⟨b, xs, rfl, hs, hf, hn, hr⟩ := o
    exact ⟨b, xs, rfl, hs, fun z => z.elim hf fun z => hne (by rw [z]), hn, hr.stay st⟩
  | dct ks ts =>
    simp only [Own] at o ⊢
    obtain ⟨b, bs, xs, rfl, hs, hf, hn, hk, hr⟩ := o
    exact ⟨b, bs, xs, rfl, hs, fun z => z.elim hf fun z => hne (by rw [z]), hn, hk.stay st, hr.stay st⟩
  | _ => exact Rep.stay st o
theorem mem_without {i j : Nat} {fl : List Nat} : j ∈ fl.filter (· != i) ↔ j ∈ fl ∧ j ≠ i := by simp [List.mem_filter]
end
/-- within a def: F₀ ρ₀ H₀ stood at its entry -/
structure StR (W : Wd) (F₀ : AS) (ρ₀ : List Addr) (H₀ : Hp) (fl : List Nat) (τ : Sl) (h : Hs) (F : AS) (ρ : List Addr) (σ : L2.St) (H : Hp) : Prop where
  rel : Rel W F ρ fl τ σ H
  hps : Hps W F ρ H h
  ext : Ext F₀ ρ₀ H₀ F ρ H
  own : ∀ (i : Nat) (t : PV) (a : Addr), i ∈ fl → getS τ i = some t → isMut t = true → σ[i]? = some (some (.ref a)) → H₀ a = none
section
variable {W : Wd} {F₀ F F' : AS} {ρ₀ ρ ρ' : List Addr} {H₀ H H' : Hp} {h h' : Hs} {fl : List Nat} {τ : Sl} {σ : L2.St}
/-- an expression has run -/
theorem StR.expr (r : StR W F₀ ρ₀ H₀ fl τ h F ρ σ H) (e : Ext F ρ H F' ρ' H') (p : Hps W F' ρ' H' h') : StR W F₀ ρ₀ H₀ fl τ h' F' ρ' σ H' :=
  ⟨r.rel.ext e p, p, r.ext.trans e, r.own⟩
/-- a name's list is frozen -/
theorem StR.freeze (r : StR W F₀ ρ₀ H₀ fl τ h F ρ σ H) (i : Nat) : ∃ F', (∀ a, F a → F' a) ∧ StR W F₀ ρ₀ H₀ (fl.filter (· != i)) τ h F' ρ σ H := by
  have same : (i ∈ fl → ∀ t, getS τ i = some t → isMut t = true → False) → StR W F₀ ρ₀ H₀ (fl.filter (· != i)) τ h F ρ σ H := fun hno => by
    refine ⟨⟨r.rel.len, fun j t q => ?_, fun j k t u hn hj hk => r.rel.dis j k t u hn (mem_without.mp hj).1 (mem_without.mp hk).1⟩, r.hps, r.ext, fun j t a hj => r.own j t a (mem_without.mp hj).1⟩
    obtain ⟨v, hv, h1, h2⟩ := r.rel.slot j t q
    refine ⟨v, hv, fun hj => ?_, fun hj => h2 (mem_without.mp hj).1⟩
    by_cases hm : j ∈ fl
    · have e : j = i := Classical.byContradiction fun z => hj (mem_without.mpr ⟨hm, z⟩)
      subst e
      refine (h2 hm).rep ?_
      cases z : isMut t with
      | false => rfl
      | true => exact (hno hm t q z).elim
    · exact h1 hm
  by_cases hi : i ∈ fl
  · cases q : getS τ i with
    | none => exact ⟨F, fun _ z => z, same fun _ t z => by rw [q] at z; cases z⟩
    | some t =>
      cases m : isMut t with
      | false => exact ⟨F, fun _ z => z, same fun _ t' z => by rw [q] at z; cases z; rw [m]; intro z; cases z⟩
      | true =>
        obtain ⟨v, hv, _, h2⟩ := r.rel.slot i t q
        have o := h2 hi
        obtain ⟨a, ob, rfl, ha, hf, hn, _⟩ := o.addr m
        obtain ⟨p', st⟩ := r.hps.more ha hn
        have h0 : H₀ a = none := r.own i t a hi q m hv
        refine ⟨more F a, fun _ z => .inl z, ⟨r.rel.len, fun j u qj => ?_, fun j k t u hn hj hk => r.rel.dis j k t u hn (mem_without.mp hj).1 (mem_without.mp hk).1⟩, p', ?_, fun j t a hj => r.own j t a (mem_without.mp hj).1⟩
        · obtain ⟨w, hw, g1, g2⟩ := r.rel.slot j u qj
          by_cases hji : j = i
          · subst hji
            rw [q] at qj; cases qj
            rw [hv] at hw; cases hw
            exact ⟨_, hv, fun _ => o.frozen m st, fun hj => absurd rfl (mem_without.mp hj).2⟩
          · refine ⟨w, hw, fun hj => Rep.stay st (g1 fun z => hj (mem_without.mpr ⟨z, hji⟩)), fun hj => ?_⟩
            have hjf := (mem_without.mp hj).1
            cases mu : isMut u with
            | false => exact (show Own W (more F a) ρ H u w by cases u <;> first | exact Rep.stay st ((g2 hjf).rep mu) | simp [isMut] at mu)
            | true =>
              refine (g2 hjf).more st fun e => ?_
              subst e
              exact r.rel.dis j i u t hji hjf hi qj q mu m (hw.trans hv.symm)
        · refine ⟨fun b hb => .inl (r.ext.fF b hb), fun b hb => ?_, r.ext.pre, r.ext.keep, r.ext.thr, r.ext.tup, r.ext.frz, r.ext.sep, r.ext.tr⟩
          rcases hb with hb | rfl
          · exact r.ext.new b hb
          · exact .inr h0
  · exact ⟨F, fun _ z => z, same fun z => absurd z hi⟩
def without : List Nat → List Nat → List Nat
  | fl, [] => fl
  | fl, i :: r => without (fl.filter (· != i)) r
theorem StR.freezes : ∀ (is : List Nat) {fl : List Nat} {F : AS}, StR W F₀ ρ₀ H₀ fl τ h F ρ σ H → ∃ F', (∀ a, F a → F' a) ∧ StR W F₀ ρ₀ H₀ (without fl is) τ h F' ρ σ H
  | [], _, F, r => ⟨F, fun _ z => z, r⟩
  | i :: is, _, _, r => by
    obtain ⟨F', k, r'⟩ := r.freeze i
    obtain ⟨F2, k2, r2⟩ := StR.freezes is r'
    exact ⟨F2, fun a z => k2 a (k a z), r2⟩
theorem mem_withouts : ∀ {is fl : List Nat} {j : Nat}, j ∈ without fl is ↔ j ∈ fl ∧ j ∉ is
  | [], _, _ => by simp [without]
  | i :: is, fl, j => by
    rw [without, mem_withouts, mem_without]
    simp only [List.mem_cons, not_or]
    constructor
    · rintro ⟨⟨a, b⟩, c⟩; exact ⟨a, b, c⟩
    · rintro ⟨a, b, c⟩; exact ⟨⟨a, b⟩, c⟩
end
end MP

set_option Elab.async false
set_option linter.all false
set_option maxRecDepth 100000
namespace MP
open PySem PySem.Spec PyProof.Rows L2

/-! ### readings of terms -/
inductive Md where
  | e | b | f
def Rm (m : Md) (W : Wd) (F : AS) (ρ : List Addr) (H₁ H : Hp) (t : PV) (v : V) : Prop := match m with
  | .e => Rep W F ρ H t v
  | .b => Own W F ρ H t v ∨ Rep W F ρ H t v
  | .f => Own W F ρ H t v ∧ ∀ a, isMut t = true → v = .ref a → H₁ a = none
abbrev CL := Nat → List PV → Hs → Out PV
section
variable (W : Wd) (cl : CL) (fl : List Nat)
def tE (m : Md) (i : E) : TE := fun σ H Q => ∃ F ρ τ h t h', Rel W F ρ fl τ σ H ∧ Hps W F ρ H h ∧ evE cl i τ h = .ok t h' ∧
  ∀ v F' ρ' H', Ext F ρ H F' ρ' H' → Hps W F' ρ' H' h' → Rm m W F' ρ' H H' t v → Q v H'
def tT (i : E) : TT := fun σ H Q => ∃ F ρ τ h b h', Rel W F ρ fl τ σ H ∧ Hps W F ρ H h ∧ evE cl i τ h = .ok (.bl b) h' ∧
  ∀ F' ρ' H', Ext F ρ H F' ρ' H' → Hps W F' ρ' H' h' → Q b H'
/-- items in mode e or b -/
def RepsB (F : AS) (ρ : List Addr) (H : Hp) : List PV → List V → Prop
  | [], xs => xs = []
  | t :: ts, xs => ∃ y ys, xs = y :: ys ∧ (Own W F ρ H t y ∨ Rep W F ρ H t y) ∧ RepsB F ρ H ts ys
def Rms (m : Md) (F : AS) (ρ : List Addr) (H : Hp) (ts : List PV) (xs : List V) : Prop := match m with
  | .b => RepsB W F ρ H ts xs
  | _ => Reps W F ρ H ts xs
def tEs (m : Md) (i : Es) : TA := fun σ H Q => ∃ F ρ τ h ts h', Rel W F ρ fl τ σ H ∧ Hps W F ρ H h ∧ evEs cl i τ h = .ok ts h' ∧
  ∀ vs F' ρ' H', Ext F ρ H F' ρ' H' → Hps W F' ρ' H' h' → Rms W m F' ρ' H' ts vs → Q vs H'
end

/-! ### weaker readings -/
section
variable {X : Cx}
theorem pe_mono {e : Expr} {t t' : TE} (p : PE X e t) (h : ∀ σ H Q, t' σ H Q → t σ H Q) : PE X e t' := ⟨fun pins s σ H Q I q => p.run pins s σ H Q I (h σ H Q q)⟩
theorem pt_mono {e : Expr} {t t' : TT} (p : PT X e t) (h : ∀ σ H Q, t' σ H Q → t σ H Q) : PT X e t' := ⟨fun pins s σ H Q I q => p.run pins s σ H Q I (h σ H Q q)⟩
theorem pw_mono {e : Expr} {t t' : TT} (p : PW X e t) (h : ∀ σ H Q, t' σ H Q → t σ H Q) : PW X e t' := ⟨fun wh pins s σ H Q I q => p.run wh pins s σ H Q I (h σ H Q q)⟩
theorem pa_mono {e : List Expr} {t t' : TA} (p : PA X e t) (h : ∀ σ H Q, t' σ H Q → t σ H Q) : PA X e t' := ⟨fun pos pins s σ H Q I q => p.run pos pins s σ H Q I (h σ H Q q)⟩
end
section
variable {W : Wd} {cl : CL} {fl : List Nat} {F F' : AS} {ρ ρ' : List Addr} {H H' H₁ H₀ : Hp} {h h' : Hs} {τ : Sl} {σ : L2.St}
theorem RepsB.stay' (e : Ext F ρ H F' ρ' H') (p : Hps W F' ρ' H' h') : ∀ {ts : List PV} {xs : List V}, RepsB W F ρ H ts xs → RepsB W F' ρ' H' ts xs
  | [], _, r => r
  | t :: ts, xs, r => by
    simp only [RepsB] at r ⊢
    obtain ⟨y, ys, e1, r1, r2⟩ := r
    exact ⟨y, ys, e1, r1.imp (fun o => o.stay e p) (Rep.stay e.stay), RepsB.stay' e p r2⟩
theorem Reps.toB : ∀ {ts : List PV} {xs : List V}, Reps W F ρ H ts xs → RepsB W F ρ H ts xs
  | [], _, r => by simp only [Reps] at r; exact r
  | t :: ts, xs, r => by
    simp only [Reps] at r
    obtain ⟨y, ys, e1, r1, r2⟩ := r
    exact ⟨y, ys, e1, .inr r1, Reps.toB r2⟩
theorem bind_ok {α β : Type} {x : Out α} {f : α → Hs → Out β} {b : β} {h' : Hs} (e : x.bind f = .ok b h') : ∃ a h, x = .ok a h ∧ f a h = .ok b h' := by
  cases x with
  | ok a h => exact ⟨a, h, rfl, e⟩
  | exc c p h => simp at e
  | bad => simp at e
theorem of_ok {α : Type} {x : Option α} {a : α} {h h' : Hs} (e : Out.of x h = .ok a h') : x = some a ∧ h' = h := by
  cases x with
  | none => simp at e
  | some b => simp at e; exact ⟨by rw [e.1], e.2.symm⟩
/-- a fresh value is frozen -/
theorem Rm.freeze {t : PV} {v : V} (e : Ext F ρ H F' ρ' H') (p : Hps W F' ρ' H' h') (r : Rm .f W F' ρ' H H' t v) : ∃ F'', Ext F ρ H F'' ρ' H' ∧ Hps W F'' ρ' H' h' ∧ Rep W F'' ρ' H' t v := by
  obtain ⟨o, hn⟩ := r
  cases m : isMut t with
  | false => exact ⟨F', e, p, o.rep m⟩
  | true =>
    obtain ⟨a, ob, rfl, ha, hf, hr, _⟩ := o.addr m
    obtain ⟨p', st⟩ := p.more ha hr
    exact ⟨more F' a, ⟨fun b hb => .inl (e.fF b hb), fun b hb => hb.elim (e.new b) fun z => .inr (by rw [z]; exact hn a m rfl), e.pre, e.keep, e.thr, e.tup, e.frz, e.sep, e.tr⟩, p', o.frozen m st⟩
theorem tE_fe {i : E} {Q : VK} (q : tE W cl fl .e i σ H Q) : tE W cl fl .f i σ H Q := by
  obtain ⟨F, ρ, τ, h, t, h', r, p, ev, k⟩ := q
  refine ⟨F, ρ, τ, h, t, h', r, p, ev, fun v F' ρ' H' e p' rm => ?_⟩
  obtain ⟨F'', e2, p2, r2⟩ := rm.freeze e p'
  exact k v F'' ρ' H' e2 p2 r2
theorem tE_be {i : E} {Q : VK} (q : tE W cl fl .b i σ H Q) : tE W cl fl .e i σ H Q := by
  obtain ⟨F, ρ, τ, h, t, h', r, p, ev, k⟩ := q
  exact ⟨F, ρ, τ, h, t, h', r, p, ev, fun v F' ρ' H' e p' rm => k v F' ρ' H' e p' (.inr rm)⟩
theorem tE_bf {i : E} {Q : VK} (q : tE W cl fl .b i σ H Q) : tE W cl fl .f i σ H Q := by
  obtain ⟨F, ρ, τ, h, t, h', r, p, ev, k⟩ := q
  exact ⟨F, ρ, τ, h, t, h', r, p, ev, fun v F' ρ' H' e p' rm => k v F' ρ' H' e p' (.inl rm.1)⟩
theorem tEs_be {i : Es} {Q : List V → Hp → Prop} (q : tEs W cl fl .b i σ H Q) : tEs W cl fl .e i σ H Q := by
  obtain ⟨F, ρ, τ, h, t, h', r, p, ev, k⟩ := q
  exact ⟨F, ρ, τ, h, t, h', r, p, ev, fun v F' ρ' H' e p' rm => k v F' ρ' H' e p' rm.toB⟩

/-! ### new things in the heap -/
theorem Ext.new' (p : Hps W F ρ H h) {a : Addr} {o : HO} (hn : H a = none) : Ext F ρ H F ρ (upd H a o) ∧ Hps W F ρ (upd H a o) h := by
  have ne : ∀ b u, H b = some u → b ≠ a := fun b u q z => by rw [z, hn] at q; cases q
  have e : Ext F ρ H F ρ (upd H a o) := ⟨fun _ h => h, fun _ h => .inl h, ⟨[], by simp, by simp⟩, fun b u q _ => by rw [upd_ne (ne b u q)]; exact q,
    fun b u q => ⟨u, by rw [upd_ne (ne b u q)]; exact q⟩, fun b u q => by rw [upd_ne (ne b _ q)]; exact q, fun b u x q => by rw [upd_ne (ne b _ q)]; exact q, p.sep, p.tr⟩
  refine ⟨e, p.len, fun n u b h1 h2 => ?_, p.nd, p.sep, fun b hb => ?_⟩
  · have q := p.obj n u b h1 h2
    cases u with
    | lst ts =>
      simp only [ObjR] at q ⊢
      obtain ⟨xs, e1, r⟩ := q
      exact ⟨xs, by rw [upd_ne (ne b _ e1)]; exact e1, r.stay e.stay⟩
    | ins _ _ => exact q
  · obtain ⟨u, q⟩ := p.tr b hb
    exact ⟨u, by rw [upd_ne (ne b u q)]; exact q⟩
end
end MP

set_option Elab.async false
set_option linter.all false
set_option maxRecDepth 100000
namespace MP
open PySem PySem.Spec PyProof.Rows L2

/-! ### which term stands for which expression -/
inductive GV where
  | fn (f : Nat) | con (v : PV) | cls (c : Nat) (sup : List Nat)
structure TC where
  N : List Str
  gl : List (Str × GV)
def glook : List (Str × GV) → Str → Option GV
  | [], _ => none
  | (y, g) :: r, x => if y = x then some g else glook r x
mutual
def same : PV → PV → Bool
  | .non, .non => true
  | .bl a, .bl b => a == b
  | .int i, .int j => i == j
  | .str x, .str y => decide (x = y)
  | .tup xs, .tup ys => sames xs ys
  | .lst xs, .lst ys => sames xs ys
  | .fn a, .fn b => a == b
  | .cls a, .cls b => a == b
  | _, _ => false
def sames : List PV → List PV → Bool
  | [], [] => true
  | x :: xs, y :: ys => same x y && sames xs ys
  | _, _ => false
end
mutual
theorem same_eq : ∀ {a b : PV}, same a b = true → a = b := by
  intro a b h
  cases a <;> cases b <;> simp [same] at h <;> first | rfl | (rw [h]; done) | skip
  · rw [sames_eq h]
  · rw [sames_eq h]
theorem sames_eq : ∀ {a b : List PV}, sames a b = true → a = b := by
  intro a b h
  cases a <;> cases b <;> simp [sames] at h <;> first | rfl | skip
  rw [same_eq h.1, sames_eq h.2]
end
def notStar : Expr → Bool
  | .Starred .. => false
  | _ => true
def noStar (es : List Expr) : Bool := es.all notStar
def same1 : E → Bool
  | .con (.bl true) => true
  | _ => false
def same1n : E → Bool
  | .con .non => true
  | _ => false
def conOk : PV → Const → Bool
  | .non, .none => true
  | .bl a, .bool b => a == b
  | .int i, .int j => i == j
  | .str x, .str y => decide (x = y)
  | _, _ => false
def vis (sc : Scope) (x : Str) : Bool := match sc.names.lookup x with
  | some .local => true
  | some .cell => true
  | some .free => true
  | _ => false
def isLoc (sc : Scope) (x : Str) : Bool := match sc.names.lookup x with
  | some .local => true
  | _ => false
def isLC (sc : Scope) (x : Str) : Bool := match sc.names.lookup x with
  | some .local => true
  | some .cell => true
  | _ => false
def isGl (sc : Scope) (x : Str) : Bool := match sc.names.lookup x with
  | some .globalImplicit => true
  | _ => false
def notDbg (x : Str) : Bool := !(decide (x = ("__debug__" : Str))) && !(decide (x = ("__classdict__" : Str))) && !(decide (x = ("__name__" : Str)))
def biName : BI → Str
  | .len => "len" | .abs => "abs" | .int => "int" | .tuple => "tuple" | .list => "list" | .sorted => "sorted" | .setSorted => "sorted" | .sum => "sum" | .all => "all" | .any => "any"
  | .min => "min" | .max => "max" | .repr => "repr" | .dict => "dict"
def miName : MI → Str
  | .index => "index" | .get => "get" | .count => "count" | .upper => "upper"
def muName : Mu → Str
  | .append => "append" | .insert => "insert" | .extend => "extend" | .reverse => "reverse"
def tyName : Ty → Option Str
  | .int => some "int" | .bool => some "bool" | .tuple => some "tuple" | .str => some "str" | .list => some "list" | _ => none
def baseOk : Expr → Bool
  | .Call (.Name ..) [] [] _ => false
  | _ => true
section
variable (C : TC)
/-- a name of the def, in slot i -/
def nmOk (sc : Scope) (i : Nat) (x : Str) : Bool := decide (C.N[i]? = some x) && vis sc x && notDbg x
/-- a built-in's name -/
def blt (sc : Scope) (x y : Str) : Bool := decide (x = y) && isGl sc x && (glook C.gl x).isNone && notDbg x
mutual
def mTg (sc : Scope) : Tg → Expr → Bool
  | .v i, e => (match e with
    | .Name x _ => decide (C.N[i]? = some x) && isLC sc x && notDbg x
    | _ => false)
  | .t ts, e => (match e with
    | .Tuple es _ _ => mTgs sc ts es
    | _ => false)
def mTgs (sc : Scope) : Tgs → List Expr → Bool
  | .nil, es => es.isEmpty
  | .cons t ts, es => (match es with
    | e :: r => mTg sc t e && mTgs sc ts r
    | [] => false)
end
def owned (own : List Nat) : List (Str × Nat) := own.map fun i => ((C.N[i]?).getD "", i)
def plainIxE : Expr → Bool
  | .Slice .. => false
  | _ => true
def blkOk (sc s2 : Scope) (own : List Nat) : Bool := blkC C.N sc s2 (owned C own)
mutual
def mE : E → Scope → Expr → Bool
  | .var i, sc, e => (match e with
    | .Name x _ => nmOk C sc i x
    | _ => false)
  | .con v, sc, e => (match e with
    | .Constant c _ _ => conOk v c
    | .Name x _ => isGl sc x && notDbg x && (match glook C.gl x with
      | some (.con w) => same v w
      | _ => false)
    | _ => false)
  | .bin op a b, sc, e => (match e with
    | .BinOp l o r _ => decide (o = op) && mE a sc l && mE b sc r
    | _ => false)
  | .neg a, sc, e => (match e with
    | .UnaryOp .USub x _ => mE a sc x
    | _ => false)
  | .not a, sc, e => (match e with
    | .UnaryOp .Not x _ => mE a sc x
    | _ => false)
  | .cmp op a b, sc, e => (match e with
    | .Compare l [o] [r] _ => decide (o = op) && mE a sc l && mE b sc r && !behindInMarks o r
    | _ => false)
  | .chain o1 o2 a b c, sc, e => (match e with
    | .Compare l [o, p] [r, q] _ => decide (o = o1) && decide (p = o2) && mE a sc l && mE b sc r && mE c sc q && !lastMarks [o, p] [r, q]
    | _ => false)
  | .and a b, sc, e => (match e with
    | .BoolOp .And [x, y] _ => mE a sc x && mE b sc y
    | .BoolOp .And (x :: y :: z :: r) _ => mE a sc x && mAnd b sc y z r
    | _ => false)
  | .or a b, sc, e => (match e with
    | .BoolOp .Or [x, y] _ => mE a sc x && mE b sc y
    | .BoolOp .Or (x :: y :: z :: r) _ => mE a sc x && mOr b sc y z r
    | _ => false)
  | .ite c a b, sc, e => (match e with
    | .IfExp t x y _ => mE c sc t && mE a sc x && mE b sc y
    | _ => false)
  | .tup es, sc, e => (match e with
    | .Tuple xs _ _ => mEs es sc xs
    | _ => false)
  | .lst es, sc, e => (match e with
    | .List xs _ => mEs es sc xs
    | _ => false)
  | .shr es, sc, e => (match e with
    | .List xs _ => mEs es sc xs
    | _ => false)
  | .dnew, _, e => (match e with
    | .Dict [] [] _ => true
    | _ => false)
  | .idx a b, sc, e => (match e with
    | .Subscript x y _ => mE a sc x && mE b sc y && plainIxE y
    | _ => false)
  | .slc a lo hi, sc, e => (match e with
    | .Subscript x (.Slice l u none _) _ => mE a sc x && (match l with
      | none => same1n lo
      | some e => mE lo sc e) && (match u with
      | none => same1n hi
      | some e => mE hi sc e)
    | _ => false)
  | .rev a, sc, e => (match e with
    | .Subscript x (.Slice none none (some (.UnaryOp .USub (.Constant (.int 1) _ _) _)) _) _ => mE a sc x
    | _ => false)
  | .bi .setSorted es, sc, e => (match e with
    | .Call (.Name x _) [.Call (.Name y _) ys [] _] [] _ => blt C sc x "sorted" && blt C sc y "set" && mEs es sc ys && decide (ys.length = 1)
    | _ => false)
  | .bi f es, sc, e => (match e with
    | .Call (.Name x _) xs [] _ => blt C sc x (biName f) && mEs es sc xs && noStar xs && !xs.isEmpty
    | _ => false)
  | .call f es, sc, e => (match e with
    | .Call (.Name x _) xs [] _ => isGl sc x && notDbg x && (match glook C.gl x with
      | some (.fn g) => g == f
      | _ => false) && mEs es sc xs && noStar xs
    | _ => false)
  | .callv _ _, _, _ => false
  | .meth m a es, sc, e => (match e with
    | .Call (.Attribute o n ap) xs [] p => decide (n = miName m) && mE a sc o && mEs es sc xs && noStar xs && !xs.isEmpty && (ap.endLine == p.line) && baseOk o && decide (xs.length < 20)
    | _ => false)
  | .isin a t, sc, e => (match e with
    | .Call (.Name x _) [o, .Name y _] [] _ => blt C sc x "isinstance" && mE a sc o && (match tyName t with
      | some n => blt C sc y n
      | none => false) && noStar [o]
    | _ => false)
  | .listOf i, sc, e => (match e with
    | .Call (.Name x _) [y] [] _ => blt C sc x "list" && mI i sc y
    | _ => false)
  | .tupOf i, sc, e => (match e with
    | .Call (.Name x _) [y] [] _ => blt C sc x "tuple" && mI i sc y
    | _ => false)
  | .fld _ _, _, _ => false
  | .comp own elt t i c, sc, e => (match e with
    | .ListComp x [⟨tg, it, ifs, a⟩] s2 _ => decide (a = 0) && blkOk C sc s2 own && mI i sc it && mTg C s2 t tg && mE elt s2 x && (tgS t).all (own.contains ·) && (match ifs with
      | [] => same1 c
      | [y] => mE c s2 y
      | _ => false)
    | _ => false)
  | .comp2 own elt t i t2 i2, sc, e => (match e with
    | .ListComp x [⟨tg, it, [], a⟩, ⟨tg2, it2, [], a2⟩] s2 _ => decide (a = 0) && decide (a2 = 0) && blkOk C sc s2 own && mI i sc it && mTg C s2 t tg && mE elt s2 x && mI i2 s2 it2 && mTg C s2 t2 tg2 &&
        (tgS t).all (own.contains ·) && (tgS t2).all (own.contains ·)
    | _ => false)
  | .dcomp own k v t i, sc, e => (match e with
    | .DictComp x y [⟨tg, it, [], a⟩] s2 _ => decide (a = 0) && blkOk C sc s2 own && mI i sc it && mTg C s2 t tg && mE k s2 x && mE v s2 y && (tgS t).all (own.contains ·)
    | _ => false)
/-- the rest of a chain of and, or -/
def mAnd : E → Scope → Expr → Expr → List Expr → Bool
  | .and a b, sc, y, z, r => mE a sc y && (match r with
    | [] => mE b sc z
    | w :: r => mAnd b sc z w r)
  | _, _, _, _, _ => false
def mOr : E → Scope → Expr → Expr → List Expr → Bool
  | .or a b, sc, y, z, r => mE a sc y && (match r with
    | [] => mE b sc z
    | w :: r => mOr b sc z w r)
  | _, _, _, _, _ => false
def mEs : Es → Scope → List Expr → Bool
  | .nil, _, es => es.isEmpty
  | .cons i is, sc, es => (match es with
    | e :: r => mE i sc e && mEs is sc r && notStar e
    | [] => false)
  | .star i is, sc, es => (match es with
    | .Starred e _ :: r => mE i sc e && mEs is sc r
    | _ => false)
def mI : I → Scope → Expr → Bool
  | .it i, sc, e => mE i sc e
  | .range es, sc, e => (match e with
    | .Call (.Name x _) xs [] _ => blt C sc x "range" && mEs es sc xs && noStar xs
    | _ => false)
  | .enum i, sc, e => (match e with
    | .Call (.Name x _) [y] [] _ => blt C sc x "enumerate" && mE i sc y && notStar y
    | _ => false)
  | .zip es, sc, e => (match e with
    | .Call (.Name x _) xs [] _ => blt C sc x "zip" && mEs es sc xs && noStar xs
    | _ => false)
  | .rev i, sc, e => (match e with
    | .Call (.Name x _) [y] [] _ => blt C sc x "reversed" && mE i sc y && notStar y
    | _ => false)
end
end
end MP

set_option Elab.async false
set_option linter.all false
set_option maxRecDepth 100000
namespace MP
open PySem PySem.Spec PyProof.Rows L2

section
variable {W : Wd} {cl : CL} {fl : List Nat} {X : Cx}

/-! ### names, constants -/
theorem L_var {i : Nat} {x : Str} {pos : Pos} (hN : X.N[i]? = some x) (hv : Vis X.env.scope x) (hd : (x == ("__debug__" : Str)) = false) (hc : (x == ("__classdict__" : Str)) = false) :
    PE X (.Name x pos) (tE W cl fl .b (.var i)) := by
  refine pe_mono (pe_var (i := i) hN hv hd hc) fun σ H Q q => ?_
  obtain ⟨F, ρ, τ, h, t, h', r, p, ev, k⟩ := q
  simp only [evE] at ev
  obtain ⟨e1, rfl⟩ := of_ok ev
  obtain ⟨v, hv, h1, h2⟩ := r.slot i t e1
  refine ⟨v, hv, k v F ρ H p.ext0 p ?_⟩
  by_cases hi : i ∈ fl
  · exact .inl (h2 hi)
  · exact .inr (h1 hi)
theorem L_varE {i : Nat} {x : Str} {pos : Pos} (hN : X.N[i]? = some x) (hv : Vis X.env.scope x) (hd : (x == ("__debug__" : Str)) = false) (hc : (x == ("__classdict__" : Str)) = false) (hi : i ∉ fl) :
    PE X (.Name x pos) (tE W cl fl .e (.var i)) := by
  refine pe_mono (pe_var (i := i) hN hv hd hc) fun σ H Q q => ?_
  obtain ⟨F, ρ, τ, h, t, h', r, p, ev, k⟩ := q
  simp only [evE] at ev
  obtain ⟨e1, rfl⟩ := of_ok ev
  obtain ⟨v, hv, h1, h2⟩ := r.slot i t e1
  exact ⟨v, hv, k v F ρ H p.ext0 p (h1 hi)⟩
theorem tE_con {v : PV} {vv : V} (hr : ∀ F ρ H, Rep W F ρ H v vv) {σ : L2.St} {H : Hp} {Q : VK} (q : tE W cl fl .e (.con v) σ H Q) : tC vv σ H Q := by
  obtain ⟨F, ρ, τ, h, t, h', r, p, ev, k⟩ := q
  simp only [evE, Out.ok.injEq] at ev
  obtain ⟨rfl, rfl⟩ := ev
  exact k vv F ρ H p.ext0 p (hr F ρ H)
theorem L_const {v : PV} {c : Const} {j : Nat} {pos : Pos} (h : conOk v c = true) : PE X (.Constant c j pos) (tE W cl fl .e (.con v)) := by
  cases v <;> cases c <;> simp [conOk] at h
  · exact pe_mono pe_non fun σ H Q q => tE_con (fun _ _ _ => by simp only [Rep]) q
  · subst h; exact pe_mono pe_bl fun σ H Q q => tE_con (fun _ _ _ => by simp only [Rep]) q
  · subst h; exact pe_mono pe_int fun σ H Q q => tE_con (fun _ _ _ => by simp only [Rep]) q
  · subst h; exact pe_mono pe_str fun σ H Q q => tE_con (fun _ _ _ => by simp only [Rep]) q
theorem L_glob {v : PV} {vv : V} {u : Value} {x : Str} {pos : Pos} (hg : Gl X x) (hm : X.mg x = some u) (r : RelV vv u) (hr : ∀ F ρ H, Rep W F ρ H v vv) (hd : (x == ("__debug__" : Str)) = false) :
    PE X (.Name x pos) (tE W cl fl .e (.con v)) := pe_mono (pe_glob hg hm r hd) fun σ H Q q => tE_con hr q

/-! ### two operands -/
/-- both operands run, the first in mode m, the second in mode n -/
theorem two_ {m n : Md} {a b : E} {F : AS} {ρ : List Addr} {τ : Sl} {h h' : Hs} {σ : L2.St} {H : Hp} {R : V → V → Hp → Prop} {B : Type} {g : PV → PV → Hs → Out B} {r : B}
    (hm : m ≠ .f) (rel : Rel W F ρ fl τ σ H) (hps : Hps W F ρ H h)
    (ev : ((evE cl a τ h).bind fun x h => (evE cl b τ h).bind fun y h => g x y h) = .ok r h')
    (k : ∀ x y h2, g x y h2 = .ok r h' → ∀ v w F' ρ' H', Ext F ρ H F' ρ' H' → Hps W F' ρ' H' h2 → Rm m W F' ρ' H H' x v → (∃ H1, Rm n W F' ρ' H1 H' y w ∧ ∀ b, H1 b = none → H b = none) → R v w H') :
    tE W cl fl m a σ H fun x H1 => tE W cl fl n b σ H1 fun y H2 => R x y H2 := by
  obtain ⟨x, h1, e1, ev⟩ := bind_ok ev
  obtain ⟨y, h2, e2, ev⟩ := bind_ok ev
  refine ⟨F, ρ, τ, h, x, h1, rel, hps, e1, fun v F1 ρ1 H1 x1 p1 r1 => ⟨F1, ρ1, τ, h1, y, h2, rel.ext x1 p1, p1, e2, fun w F2 ρ2 H2 x2 p2 r2 => ?_⟩⟩
  refine k x y h2 ev v w F2 ρ2 H2 (x1.trans x2) p2 ?_ ⟨H1, r2, fun b hb => x1.nn hb⟩
  cases m with
  | e => exact Rep.stay x2.stay r1
  | b => exact r1.imp (fun o => o.stay x2 p2) (Rep.stay x2.stay)
  | f => exact absurd rfl hm
theorem Rm.int {m : Md} {F : AS} {ρ : List Addr} {H₁ H : Hp} {i : Int} {v : V} (r : Rm m W F ρ H₁ H (.int i) v) : v = .int i := by
  cases m with
  | e => simpa only [Rm, Rep] using r
  | b => rcases r with r | r <;> simpa only [Own, Rep] using r
  | f => simpa only [Own, Rep] using r.1
theorem Rm.bl {m : Md} {F : AS} {ρ : List Addr} {H₁ H : Hp} {i : Bool} {v : V} (r : Rm m W F ρ H₁ H (.bl i) v) : v = .bl i := by
  cases m with
  | e => simpa only [Rm, Rep] using r
  | b => rcases r with r | r <;> simpa only [Own, Rep] using r
  | f => simpa only [Own, Rep] using r.1
theorem Rm.str {m : Md} {F : AS} {ρ : List Addr} {H₁ H : Hp} {i : Str} {v : V} (r : Rm m W F ρ H₁ H (.str i) v) : v = .str i := by
  cases m with
  | e => simpa only [Rm, Rep] using r
  | b => rcases r with r | r <;> simpa only [Own, Rep] using r
  | f => simpa only [Own, Rep] using r.1
theorem Rm.non {m : Md} {F : AS} {ρ : List Addr} {H₁ H : Hp} {v : V} (r : Rm m W F ρ H₁ H .non v) : v = .non := by
  cases m with
  | e => simpa only [Rm, Rep] using r
  | b => rcases r with r | r <;> simpa only [Own, Rep] using r
  | f => simpa only [Own, Rep] using r.1
theorem Rm.lst {m : Md} {F : AS} {ρ : List Addr} {H₁ H : Hp} {ts : List PV} {v : V} (r : Rm m W F ρ H₁ H (.lst ts) v) : ∃ a xs, v = .ref a ∧ H a = some (.lst xs) ∧ Reps W F ρ H ts xs := by
  have o : ∀ {v : V}, Own W F ρ H (.lst ts) v → ∃ a xs, v = .ref a ∧ H a = some (.lst xs) ∧ Reps W F ρ H ts xs := fun r => by
    simp only [Own] at r
    obtain ⟨a, xs, e, h, _, _, rr⟩ := r
    exact ⟨a, xs, e, h, rr⟩
  have e : ∀ {v : V}, Rep W F ρ H (.lst ts) v → ∃ a xs, v = .ref a ∧ H a = some (.lst xs) ∧ Reps W F ρ H ts xs := fun r => by
    simp only [Rep] at r
    obtain ⟨a, xs, e, _, h, rr⟩ := r
    exact ⟨a, xs, e, h, rr⟩
  cases m with
  | e => exact e r
  | b => exact r.elim o e
  | f => exact o r.1
theorem Rm.tupN {m : Md} {F : AS} {ρ : List Addr} {H₁ H : Hp} {ts : List PV} {v : V} (r : Rm m W F ρ H₁ H (.tup ts) v) : ∃ a xs, v = .ref a ∧ SqN W.K H a xs ∧ Reps W F ρ H ts xs := by
  cases m with
  | e => simpa only [Rm, Rep] using r
  | b => rcases r with r | r <;> simpa only [Own, Rep] using r
  | f => simpa only [Own, Rep] using r.1
theorem Rm.tup {m : Md} {F : AS} {ρ : List Addr} {H₁ H : Hp} {ts : List PV} {v : V} (r : Rm m W F ρ H₁ H (.tup ts) v) : ∃ a xs, v = .ref a ∧ SqT W.K H a xs ∧ Reps W F ρ H ts xs := by
  obtain ⟨a, xs, e, h, rr⟩ := r.tupN
  exact ⟨a, xs, e, h.t, rr⟩
/-- a new list, tuple -/
theorem Hps.notin {F : AS} {ρ : List Addr} {H : Hp} {h : Hs} (p : Hps W F ρ H h) {a : Addr} (hn : H a = none) : a ∉ ρ ∧ ¬ F a := by
  refine ⟨fun z => ?_, fun z => ?_⟩
  · obtain ⟨n, hn', e⟩ := List.getElem_of_mem z
    have hl : n < h.length := by rw [← p.len]; exact hn'
    have q := p.obj n h[n] a (List.getElem?_eq_getElem hl) (by rw [List.getElem?_eq_getElem hn', e])
    cases ho : h[n] with
    | lst ts => rw [ho] at q; simp only [ObjR] at q; obtain ⟨xs, e, _⟩ := q; rw [hn] at e; cases e
    | ins _ _ => rw [ho] at q; exact q
  · obtain ⟨o, e⟩ := p.tr a z
    rw [hn] at e; cases e
theorem new_lst {F F₁ : AS} {ρ ρ₁ : List Addr} {H H₁ : Hp} {h : Hs} {ts : List PV} {xs : List V} {a : Addr} (x : Ext F₁ ρ₁ H₁ F ρ H) (p : Hps W F ρ H h) (hn : H a = none) (r : Reps W F ρ H ts xs) :
    Ext F₁ ρ₁ H₁ F ρ (upd H a (.lst xs)) ∧ Hps W F ρ (upd H a (.lst xs)) h ∧ Rm .f W F ρ H₁ (upd H a (.lst xs)) (.lst ts) (.ref a) := by
  obtain ⟨e, p'⟩ := Ext.new' (o := .lst xs) p hn
  obtain ⟨n1, n2⟩ := p.notin hn
  refine ⟨x.trans e, p', ?_, fun b _ eb => ?_⟩
  · simp only [Own]
    exact ⟨a, xs, rfl, upd_same, n2, n1, r.stay e.stay⟩
  · cases eb; exact x.nn hn
theorem new_tup {F F₁ : AS} {ρ ρ₁ : List Addr} {H H₁ : Hp} {h : Hs} {ts : List PV} {xs : List V} {a : Addr} (x : Ext F₁ ρ₁ H₁ F ρ H) (p : Hps W F ρ H h) {o : Obj} (hn : H a = none) (ho : o.dict = none) (r : Reps W F ρ H ts xs) :
    Ext F₁ ρ₁ H₁ F ρ (upd H a (.frz o (.tup xs))) ∧ Hps W F ρ (upd H a (.frz o (.tup xs))) h ∧ Rep W F ρ (upd H a (.frz o (.tup xs))) (.tup ts) (.ref a) := by
  obtain ⟨e, p'⟩ := Ext.new' (o := .frz o (.tup xs)) p hn
  refine ⟨x.trans e, p', ?_⟩
  simp only [Rep]
  exact ⟨a, xs, rfl, .new ho, r.stay e.stay⟩

/-! ### operators -/
theorem szOk_le {n : Nat} (h : szOk n = true) : n ≤ sizeLine := by
  have := Nat.le_of_ble_eq_true h
  rw [sizeLine_eq]; omega
theorem mul_okk {i j : Int} (h : mulOk i j = true) : IntMulOk i j := by
  have h0 : i.natAbs.log2 + j.natAbs.log2 < 134000000 := by
    have := Nat.le_of_ble_eq_true h
    omega
  have b : ∀ x : Int, Builtin.Int.intBits x ≤ x.natAbs.log2 + 1 := fun x => by
    unfold Builtin.Int.intBits
    split <;> omega
  have h1 := b i
  have h2 := b j
  have e : bitsLine = 134217728 := by decide
  unfold IntMulOk
  intro z
  rw [Bool.and_eq_true] at z
  have z2 := z.2
  unfold Builtin.Int.intTooBig at z2
  have z3 := of_decide_eq_true z2
  rw [e] at z3
  omega
theorem op_mulG : OpR X (binaryOp .Mult) (rI (fun i j => mulOk i j = true) fun i j => .int (i * j)) := opI fun _ _ _ _ _ _ _ hc q => mul_int q (mul_okk hc)
theorem op_fdivG : OpR X (binaryOp .FloorDiv) (rI (fun _ j => divOk j = true) fun i j => .int (i.fdiv j)) := opI fun i j _ _ _ _ _ hc q => by
  simp only [divOk, Bool.and_eq_true, Bool.not_eq_true', beq_eq_false_iff_ne] at hc
  exact floordiv_int hc.1 q (.inl (PyProof.noPylong_of_log2 (Nat.le_of_ble_eq_true hc.2)))
theorem rep_len (xs : List PV) : ∀ k, (repL xs k).length = k * xs.length
  | 0 => by simp [repL]
  | k + 1 => by simp [repL, rep_len xs k, Nat.succ_mul, Nat.add_comm]
theorem Reps.rep {F : AS} {ρ : List Addr} {H : Hp} {ts : List PV} {xs : List V} (r : Reps W F ρ H ts xs) : ∀ k, Reps W F ρ H (repL ts k) (List.replicate k xs).flatten
  | 0 => by simp [repL, Reps]
  | k + 1 => by
    rw [List.replicate_succ, List.flatten_cons]
    exact r.app (Reps.rep r k)
def rAddG (K : PySem.W.Frag) : R2 := fun x y H Q => rI0 (fun i j => .int (i + j)) x y H Q ∨ rCat x y H Q ∨ rCatN K x y H Q ∨ (∃ i j, x = .str i ∧ y = .str j ∧ i.length + j.length ≤ sizeLine ∧ Q (.str (i ++ j)) H)
theorem op_addG : OpR X (binaryOp .Add) (rAddG X.K) := (op_add).or ((op_cat).or ((op_catN).or op_add_str))
def rMulG (K : PySem.W.Frag) : R2 := fun x y H Q => rI (fun i j => mulOk i j = true) (fun i j => .int (i * j)) x y H Q ∨ rRep x y H Q ∨ rRepN K x y H Q
theorem op_mulA : OpR X (binaryOp .Mult) (rMulG X.K) := (op_mulG).or ((op_rep).or op_repN)
end
end MP

set_option Elab.async false
set_option linter.all false
set_option maxRecDepth 100000
namespace MP
open PySem PySem.Spec PyProof.Rows L2

section
variable {W : Wd} {cl : CL} {fl : List Nat} {X : Cx}
theorem Rm.val {F : AS} {ρ : List Addr} {H₁ H : Hp} {t : PV} {v : V} (m : Md) (hm : isMut t = false) (r : Rep W F ρ H t v) : Rm m W F ρ H₁ H t v := by
  have o : Own W F ρ H t v := by cases t <;> first | exact r | simp [isMut] at hm
  cases m with
  | e => exact r
  | b => exact .inr r
  | f => exact ⟨o, fun a h => by rw [hm] at h; cases h⟩
theorem Rep.tupNI {F : AS} {ρ : List Addr} {H : Hp} {ts : List PV} {v : V} (r : Rep W F ρ H (.tup ts) v) : ∃ a xs, v = .ref a ∧ SqN W.K H a xs ∧ Reps W F ρ H ts xs := by simpa only [Rep] using r
theorem Rep.tupI {F : AS} {ρ : List Addr} {H : Hp} {ts : List PV} {v : V} (r : Rep W F ρ H (.tup ts) v) : ∃ a xs, v = .ref a ∧ SqT W.K H a xs ∧ Reps W F ρ H ts xs := by
  obtain ⟨a, xs, e, h, rr⟩ := r.tupNI
  exact ⟨a, xs, e, h.t, rr⟩
theorem Rep.tupO {F : AS} {ρ : List Addr} {H : Hp} {ts : List PV} {a : Addr} {xs : List V} (h : SqN W.K H a xs) (r : Reps W F ρ H ts xs) : Rep W F ρ H (.tup ts) (.ref a) := by
  simp only [Rep]; exact ⟨a, xs, rfl, h, r⟩
theorem Reps.nil_iff {F : AS} {ρ : List Addr} {H : Hp} {ts : List PV} {xs : List V} (r : Reps W F ρ H ts xs) : xs = [] ↔ ts = [] := by
  have := r.length
  constructor <;> (intro e; subst e; simp at this; first | exact this | exact List.eq_nil_of_length_eq_zero (by first | exact this | exact this.symm))
theorem int2 {x y : PV} {op : Operator} {r : PV} (f : Int → Int → Option PV) (h : ∀ x y, binV op x y = match x, y with
    | .int i, .int j => f i j
    | _, _ => none) (e : binV op x y = some r) : ∃ i j, x = .int i ∧ y = .int j ∧ f i j = some r := by
  rw [h] at e
  split at e
  · exact ⟨_, _, rfl, rfl, e⟩
  · cases e
theorem L_int2 {a b : E} {ea eb : Expr} {pos : Pos} {op : Operator} {rr : R2} (ho : OpR X (binaryOp op) rr) (f : Int → Int → Option PV) (hf : ∀ x y, binV op x y = match x, y with
    | .int i, .int j => f i j
    | _, _ => none) (g : Int → Int → Int) (hg : ∀ i j r, f i j = some r → r = .int (g i j) ∧ ∀ H (Q : VK), Q (.int (g i j)) H → rr (.int i) (.int j) H Q)
    (ha : PE X ea (tE W cl fl .e a)) (hb : PE X eb (tE W cl fl .e b)) : PE X (.BinOp ea op eb pos) (tE W cl fl .f (.bin op a b)) := by
  refine pe_mono (pe_op ho ha hb) fun σ H Q q => ?_
  obtain ⟨F, ρ, τ, h, t, h', rel, p, ev, k⟩ := q
  simp only [evE] at ev
  refine two_ (n := .e) (by intro z; cases z) rel p ev fun x y h2 g0 v w F' ρ' H' ex p' r1 ⟨H1, r2, _⟩ => ?_
  obtain ⟨e1, rfl⟩ := of_ok g0
  obtain ⟨i, j, rfl, rfl, e2⟩ := int2 f hf e1
  obtain ⟨rfl, h3⟩ := hg i j t e2
  rw [r1.int, r2.int]
  exact h3 H' Q (k _ F' ρ' H' ex p' (Rm.val _ rfl (by simp only [Rep])))
theorem L_sub {a b : E} {ea eb : Expr} {pos : Pos} (ha : PE X ea (tE W cl fl .e a)) (hb : PE X eb (tE W cl fl .e b)) : PE X (.BinOp ea .Sub eb pos) (tE W cl fl .f (.bin .Sub a b)) :=
  L_int2 op_sub (fun i j => some (.int (i - j))) (fun x y => by cases x <;> cases y <;> rfl) (fun i j => i - j) (fun i j r e => ⟨by cases e; rfl, fun H Q q => ⟨i, j, rfl, rfl, q⟩⟩) ha hb
theorem L_fdiv {a b : E} {ea eb : Expr} {pos : Pos} (ha : PE X ea (tE W cl fl .e a)) (hb : PE X eb (tE W cl fl .e b)) : PE X (.BinOp ea .FloorDiv eb pos) (tE W cl fl .f (.bin .FloorDiv a b)) :=
  L_int2 op_fdivG (fun i j => if divOk j then some (.int (i.fdiv j)) else none) (fun x y => by cases x <;> cases y <;> rfl) (fun i j => i.fdiv j) (fun i j r e => by
    split at e
    · rename_i h; exact ⟨by cases e; rfl, fun H Q q => ⟨i, j, rfl, rfl, h, q⟩⟩
    · cases e) ha hb
theorem L_mod {a b : E} {ea eb : Expr} {pos : Pos} (ha : PE X ea (tE W cl fl .e a)) (hb : PE X eb (tE W cl fl .e b)) : PE X (.BinOp ea .Mod eb pos) (tE W cl fl .f (.bin .Mod a b)) :=
  L_int2 op_modN (fun i j => if j == 0 then none else some (.int (i.fmod j))) (fun x y => by cases x <;> cases y <;> rfl) (fun i j => i.fmod j) (fun i j r e => by
    split at e
    · cases e
    · rename_i h; exact ⟨by cases e; rfl, fun H Q q => ⟨i, j, rfl, rfl, by simpa using h, q⟩⟩) ha hb
theorem L_pow {a b : E} {ea eb : Expr} {pos : Pos} (ha : PE X ea (tE W cl fl .e a)) (hb : PE X eb (tE W cl fl .e b)) : PE X (.BinOp ea .Pow eb pos) (tE W cl fl .f (.bin .Pow a b)) :=
  L_int2 op_pow (fun i j => if 0 ≤ j ∧ j ≤ 1000 ∧ i.natAbs < 18446744073709551616 then some (.int (i ^ j.toNat)) else none) (fun x y => by cases x <;> cases y <;> rfl) (fun i j => i ^ j.toNat) (fun i j r e => by
    split at e
    · rename_i h; exact ⟨by cases e; rfl, fun H Q q => ⟨i, j, rfl, rfl, ⟨h.1, by omega, by omega⟩, q⟩⟩
    · cases e) ha hb
theorem L_add {a b : E} {ea eb : Expr} {pos : Pos} (ha : PE X ea (tE W cl fl .b a)) (hb : PE X eb (tE W cl fl .b b)) (hK : X.K = W.K) : PE X (.BinOp ea .Add eb pos) (tE W cl fl .f (.bin .Add a b)) := by
  refine pe_mono (pe_op op_addG ha hb) fun σ H Q q => ?_
  obtain ⟨F, ρ, τ, h, t, h', rel, p, ev, k⟩ := q
  simp only [evE] at ev
  refine two_ (n := .b) (by intro z; cases z) rel p ev fun x y h2 g0 v w F' ρ' H' ex p' r1 ⟨H1, r2, _⟩ => ?_
  obtain ⟨e1, rfl⟩ := of_ok g0
  unfold binV at e1
  split at e1
  · cases e1
    rw [r1.int, r2.int]
    exact .inl ⟨_, _, rfl, rfl, k _ F' ρ' H' ex p' (Rm.val _ rfl (by simp only [Rep]))⟩
  · split at e1
    · rename_i hz
      cases e1
      obtain ⟨a1, xs, rfl, h1, s1⟩ := r1.lst
      obtain ⟨a2, ys, rfl, h2, s2⟩ := r2.lst
      have l1 := s1.length
      have l2 := s2.length
      refine .inr (.inl ⟨a1, a2, xs, ys, rfl, rfl, h1, h2, by have := szOk_le hz; omega, fun p0 hp0 => ?_⟩)
      obtain ⟨x2, p2, r⟩ := new_lst ex p' hp0 (s1.app s2)
      exact k _ F' ρ' _ x2 p2 r
    · cases e1
  · split at e1
    · rename_i hz
      cases e1
      obtain ⟨a1, xs, rfl, h1, s1⟩ := r1.tupN
      obtain ⟨a2, ys, rfl, h2, s2⟩ := r2.tupN
      have l1 := s1.length
      have l2 := s2.length
      refine .inr (.inr (.inl ⟨a1, a2, xs, ys, rfl, rfl, by rw [hK]; exact h1.t, by rw [hK]; exact h2.t, by have := szOk_le hz; omega, fun e => ?_, fun _ e => ?_, fun _ _ p0 o0 hp0 ho0 => ?_⟩))
      · have := s1.nil_iff.mp e
        subst this
        exact k _ F' ρ' H' ex p' (Rm.val _ rfl (Rep.tupO h2 s2))
      · have := s2.nil_iff.mp e
        subst this
        rw [List.append_nil] at k
        exact k _ F' ρ' H' ex p' (Rm.val _ rfl (Rep.tupO h1 s1))
      · obtain ⟨x2, p2, r⟩ := new_tup ex p' hp0 ho0 (s1.app s2)
        exact k _ F' ρ' _ x2 p2 (Rm.val _ rfl r)
    · cases e1
  · split at e1
    · rename_i hz
      cases e1
      rw [r1.str, r2.str]
      exact .inr (.inr (.inr ⟨_, _, rfl, rfl, by have := szOk_le hz; omega, k _ F' ρ' H' ex p' (Rm.val _ rfl (by simp only [Rep]))⟩))
    · cases e1
  all_goals (first | contradiction | cases e1 | (exfalso; revert e1; simp))
theorem L_mul {a b : E} {ea eb : Expr} {pos : Pos} (ha : PE X ea (tE W cl fl .b a)) (hb : PE X eb (tE W cl fl .b b)) (hK : X.K = W.K) : PE X (.BinOp ea .Mult eb pos) (tE W cl fl .f (.bin .Mult a b)) := by
  refine pe_mono (pe_op op_mulA ha hb) fun σ H Q q => ?_
  obtain ⟨F, ρ, τ, h, t, h', rel, p, ev, k⟩ := q
  simp only [evE] at ev
  refine two_ (n := .b) (by intro z; cases z) rel p ev fun x y h2 g0 v w F' ρ' H' ex p' r1 hr2 => ?_
  obtain ⟨H1, r2, hH1⟩ := hr2
  obtain ⟨e1, rfl⟩ := of_ok g0
  unfold binV at e1
  split at e1
  case h_6 =>
    split at e1
    · rename_i hz
      cases e1
      rw [r1.int, r2.int]
      exact .inl ⟨_, _, rfl, rfl, hz, k _ F' ρ' H' ex p' (Rm.val _ rfl (by simp only [Rep]))⟩
    · cases e1
  case h_7 =>
    split at e1
    · rename_i j hop hz
      cases e1
      obtain ⟨a1, xs, rfl, h1, s1⟩ := r1.lst
      rw [r2.int]
      have l1 := s1.length
      refine .inr (.inl ⟨a1, _, xs, rfl, rfl, h1, by omega, by omega, ?_, fun p0 hp0 => ?_⟩)
      · have h4 : xs.length * j.toNat ≤ 1024 * 4096 := Nat.mul_le_mul (by omega) (by omega)
        rw [sizeLine_eq]; omega
      · obtain ⟨x2, p2, r⟩ := new_lst ex p' hp0 (s1.rep j.toNat)
        exact k _ F' ρ' _ x2 p2 r
    · cases e1
  case h_8 =>
    split at e1
    · rename_i j hop hz
      cases e1
      obtain ⟨a1, xs, rfl, h1, s1⟩ := r1.tupN
      rw [r2.int]
      have l1 := s1.length
      refine .inr (.inr ⟨a1, _, xs, rfl, rfl, by rw [hK]; exact h1.t, by omega, by omega, by omega, fun e => ?_, fun _ p0 o0 hp0 ho0 => ?_⟩)
      · have same : ∀ n : Nat, n = 1 ∨ xs = [] → Reps W F' ρ' H' (repL _ n) xs := fun n hn => by
          rcases hn with rfl | hn
          · have := s1.rep 1
            rw [List.replicate_one, List.flatten_singleton] at this
            exact this
          · have := s1.rep n
            rw [hn] at this ⊢
            have z : ∀ k : Nat, (List.replicate k ([] : List V)).flatten = [] := fun k => by induction k with
              | zero => rfl
              | succ k ih => rw [List.replicate_succ, List.flatten_cons, ih]; rfl
            rw [z] at this
            exact this
        exact k _ F' ρ' H' ex p' (Rm.val _ rfl (Rep.tupO h1 (same _ (e.elim .inr (fun e => .inl (by rw [e]; rfl))))))
      · obtain ⟨x2, p2, r⟩ := new_tup ex p' hp0 ho0 (s1.rep j.toNat)
        exact k _ F' ρ' _ x2 p2 (Rm.val _ rfl r)
    · cases e1
  all_goals (first | contradiction | cases e1 | (exfalso; revert e1; simp))
end
end MP

set_option Elab.async false
set_option linter.all false
set_option maxRecDepth 100000
namespace MP
open PySem PySem.Spec PyProof.Rows L2

section
variable {W : Wd} {cl : CL} {fl : List Nat} {X : Cx}
theorem toD_plain : ∀ {t : PV} {d : Nat}, plain d t = true → (toD t).canLay0 = true ∧ (toD t).depth ≤ d := by
  intro t d
  suffices h : ∀ d, plain d t = true → (toD t).canLay0 = true ∧ (toD t).depth ≤ d from h d
  refine PV.rec (motive_1 := fun t => ∀ d, plain d t = true → (toD t).canLay0 = true ∧ (toD t).depth ≤ d)
    (motive_2 := fun ts => ∀ d, plains d ts = true → PyData.canLayAll0 (toDs ts) = true ∧ PyData.depthAll (toDs ts) ≤ d) ?_ ?_ ?_ ?_ ?_ ?_ ?_ ?_ ?_ ?_ ?_ ?_ ?_ t
  · intro d _; simp [toD, PyData.canLay0, PyData.depth]
  · intro b d _; simp [toD, PyData.canLay0, PyData.depth]
  · intro i d _; simp [toD, PyData.canLay0, PyData.depth]
  · intro x d p; simp [plain] at p; simp [toD, PyData.canLay0, PyData.depth, p]
  · intro xs ih d p
    cases d with
    | zero => simp [plain] at p
    | succ d =>
      simp only [plain] at p
      obtain ⟨a, b⟩ := ih d p
      simp only [toD, PyData.canLay0, PyData.depth]
      exact ⟨a, by omega⟩
  · intro xs ih d p
    cases d with
    | zero => simp [plain] at p
    | succ d =>
      simp only [plain] at p
      obtain ⟨a, b⟩ := ih d p
      simp only [toD, PyData.canLay0, PyData.depth]
      exact ⟨a, by omega⟩
  · intro _ _ _ _ d p; simp [plain] at p
  · intro _ _ d p; simp [plain] at p
  · intro _ d p; simp [plain] at p
  · intro _ d p; simp [plain] at p
  · intro _ d p; simp [plain] at p
  · intro d _; simp [toDs, PyData.canLayAll0, PyData.depthAll]
  · intro t ts h1 h2 d p
    simp only [plains, Bool.and_eq_true] at p
    obtain ⟨a1, b1⟩ := h1 d p.1
    obtain ⟨a2, b2⟩ := h2 d p.2
    simp only [toDs, PyData.canLayAll0, PyData.depthAll, a1, a2, Bool.and_self]
    exact ⟨trivial, by omega⟩
theorem toDs_plain : ∀ {ts : List PV} {d : Nat}, plains d ts = true → PyData.canLayAll0 (toDs ts) = true ∧ PyData.depthAll (toDs ts) ≤ d
  | [], d, _ => by simp [toDs, PyData.canLayAll0, PyData.depthAll]
  | t :: ts, d, p => by
    simp only [plains, Bool.and_eq_true] at p
    obtain ⟨a1, b1⟩ := toD_plain p.1
    obtain ⟨a2, b2⟩ := toDs_plain p.2
    simp only [toDs, PyData.canLayAll0, PyData.depthAll, a1, a2, Bool.and_self]
    exact ⟨trivial, by omega⟩
theorem shaped_of {t : PV} (p : plain depthLine t = true) : SeqAt.shaped (toD t) = true := by
  obtain ⟨a, b⟩ := toD_plain p
  unfold SeqAt.shaped
  rw [a, Bool.true_and]
  exact decide_eq_true (Nat.le_trans b (by decide))
theorem eqv_toD : ∀ {a b : PV} {d : Nat}, plain d a = true → plain d b = true → PyData.eqv (toD a) (toD b) = eqv a b := by
  intro a b d
  suffices h : ∀ d b, plain d a = true → plain d b = true → PyData.eqv (toD a) (toD b) = eqv a b from h d b
  refine PV.rec (motive_1 := fun a => ∀ d b, plain d a = true → plain d b = true → PyData.eqv (toD a) (toD b) = eqv a b)
    (motive_2 := fun as => ∀ d bs, plains d as = true → plains d bs = true → PyData.eqvAll (toDs as) (toDs bs) = eqvs as bs) ?_ ?_ ?_ ?_ ?_ ?_ ?_ ?_ ?_ ?_ ?_ ?_ ?_ a
  · intro d b _ p; cases b <;> first | (simp [plain] at p; done) | simp [toD, PyData.eqv, eqv]
  · intro x d b _ p; cases b <;> first | (simp [plain] at p; done) | simp [toD, PyData.eqv, eqv]
  · intro x d b _ p; cases b <;> first | (simp [plain] at p; done) | simp [toD, PyData.eqv, eqv]
  · intro x d b _ p; cases b <;> first | (simp [plain] at p; done) | simp [toD, PyData.eqv, eqv]
  · intro xs ih d b p q
    cases d with
    | zero => simp [plain] at p
    | succ d => cases b <;> first | (simp [plain] at q; done) | (simp only [toD, PyData.eqv, eqv]; first | done | (simp only [plain] at p q; exact ih d _ p q))
  · intro xs ih d b p q
    cases d with
    | zero => simp [plain] at p
    | succ d => cases b <;> first | (simp [plain] at q; done) | (simp only [toD, PyData.eqv, eqv]; first | done | (simp only [plain] at p q; exact ih d _ p q))
  · intro _ _ _ _ d b p; simp [plain] at p
  · intro _ _ d b p; simp [plain] at p
  · intro _ d b p; simp [plain] at p
  · intro _ d b p; simp [plain] at p
  · intro _ d b p; simp [plain] at p
  · intro d bs _ _; cases bs <;> simp [toDs, PyData.eqvAll, eqvs]
  · intro t ts h1 h2 d bs p q
    simp only [plains, Bool.and_eq_true] at p
    cases bs with
    | nil => simp [toDs, PyData.eqvAll, eqvs]
    | cons b bs =>
      simp only [plains, Bool.and_eq_true] at q
      simp only [toDs, PyData.eqvAll, eqvs, h1 d b p.1 q.1, h2 d bs p.2 q.2]
theorem isIn_toD {x : PV} (px : plain depthLine x = true) : ∀ {ys : List PV}, plains depthLine ys = true → ((toDs ys).any fun z => PyData.eqv z (toD x)) = isIn x ys
  | [], _ => by simp [toDs, isIn]
  | y :: ys, p => by
    simp only [plains, Bool.and_eq_true] at p
    simp only [toDs, List.any_cons, isIn, eqv_toD p.1 px, isIn_toD px p.2]
theorem Reps.dps {F : AS} {ρ : List Addr} {H : Hp} : ∀ {ts : List PV} {d : Nat} {xs : List V}, plains d ts = true → Reps W F ρ H ts xs → DpAll W.K H xs (toDs ts)
  | [], _, _, _, r => by simp only [Reps] at r; subst r; simp only [toDs]; exact .nil
  | t :: ts, d, xs, p, r => by
    simp only [Reps] at r
    obtain ⟨y, ys, rfl, r1, r2⟩ := r
    simp only [plains, Bool.and_eq_true] at p
    simp only [toDs]
    exact .cons (Rep.dp p.1 r1) (Reps.dps p.2 r2)
theorem Rm.dp {m : Md} {F : AS} {ρ : List Addr} {H₁ H : Hp} {t : PV} {v : V} {d : Nat} (p : plain d t = true) (r : Rm m W F ρ H₁ H t v) : Dp W.K H v (toD t) := by
  have o : Own W F ρ H t v → Dp W.K H v (toD t) := fun o => by
    cases t with
    | lst ts =>
      simp only [Own] at o
      obtain ⟨a, xs, rfl, ha, _, _, rr⟩ := o
      simp only [toD]
      cases d with
      | zero => simp [plain] at p
      | succ d => simp only [plain] at p; exact .lst (SqL.of ha) (rr.dps p)
    | dct ks vs => simp [plain] at p
    | _ => exact Rep.dp (F := F) (ρ := ρ) p o
  cases m with
  | e => exact Rep.dp p r
  | b => exact r.elim o (Rep.dp p)
  | f => exact o r.1

/-! ### comparisons -/
def rBools : R2 := fun x y H Q => ∃ a b : Bool, x = .bl a ∧ y = .bl b ∧ Q (.bl (decide (a = b))) H
theorem inV_ints {i : Int} : ∀ {js : List Int}, inV (.int i) (js.map V.int) = js.any (· == i)
  | [] => rfl
  | j :: js => by
    have ih := inV_ints (i := i) (js := js)
    unfold inV at ih ⊢
    simp only [List.map_cons, List.any_cons, ih]
    rfl
theorem look_keys {F : AS} {ρ : List Addr} {H : Hp} {k : PV} {kk : Key} (hk : keyS k = some kk) : ∀ {ks vs : List PV} {kks : List Key} {xs : List V}, keysS ks = some kks → kks.length = xs.length → Reps W F ρ H vs xs →
    (∃ v, look k ks vs = some v ∧ ∃ x, valV (kks.zip xs) kk = some x ∧ Rep W F ρ H v x) ∨ (look k ks vs = none ∧ valV (kks.zip xs) kk = none)
  | [], vs, kks, xs, h1, h2, r => by
    simp only [keysS, Option.some.injEq] at h1
    subst h1
    exact .inr ⟨by simp [look], by simp [valV]⟩
  | a :: ks, vs, kks, xs, h1, h2, r => by
    simp only [keysS] at h1
    cases ha : keyS a with
    | none => rw [ha] at h1; cases h1
    | some aa =>
      cases hks : keysS ks with
      | none => rw [ha, hks] at h1; cases h1
      | some kr =>
        rw [ha, hks] at h1
        cases h1
        cases xs with
        | nil => simp at h2
        | cons x xs =>
          cases vs with
          | nil => simp only [Reps] at r; cases r
          | cons v vs =>
            simp only [Reps] at r
            obtain ⟨y, ys, e, r1, r2⟩ := r
            cases e
            have ek : eqv a k = decide (aa = kk) := by
              cases a <;> simp only [keyS, Option.some.injEq, reduceCtorEq] at ha
              all_goals (cases k <;> simp only [keyS, Option.some.injEq, reduceCtorEq] at hk)
              all_goals (subst ha; subst hk; simp only [eqv])
              · rw [key_ll]
              · exact key_lr _ _ |>.symm
              · exact key_rl _ _ |>.symm
              · rw [key_rr]; rfl
            by_cases e : aa = kk
            · refine .inl ⟨v, ?_, x, ?_, r1⟩
              · simp [look, ek, e]
              · rw [List.zip_cons_cons, valV_pos e]
            · have := look_keys hk (vs := vs) hks (by simpa using h2) r2
              rw [List.zip_cons_cons, valV_neg e]
              simp only [look, ek, decide_eq_false e, Bool.false_eq_true, if_false]
              exact this
theorem Rm.dct {m : Md} {F : AS} {ρ : List Addr} {H₁ H : Hp} {ks ts : List PV} {v : V} (r : Rm m W F ρ H₁ H (.dct ks ts) v) :
    ∃ a bs xs, v = .ref a ∧ DictAt W H a ks bs xs ∧ Reps W F ρ H ks bs ∧ Reps W F ρ H ts xs := by
  have o : ∀ {v : V}, Own W F ρ H (.dct ks ts) v → ∃ a bs xs, v = .ref a ∧ DictAt W H a ks bs xs ∧ Reps W F ρ H ks bs ∧ Reps W F ρ H ts xs := fun r => by
    simp only [Own] at r
    obtain ⟨a, bs, xs, e, h, _, _, h2, rr⟩ := r
    exact ⟨a, bs, xs, e, h, h2, rr⟩
  have e : ∀ {v : V}, Rep W F ρ H (.dct ks ts) v → ∃ a bs xs, v = .ref a ∧ DictAt W H a ks bs xs ∧ Reps W F ρ H ks bs ∧ Reps W F ρ H ts xs := fun r => by
    simp only [Rep] at r
    obtain ⟨a, bs, xs, e, _, h, h2, rr⟩ := r
    exact ⟨a, bs, xs, e, h, h2, rr⟩
  cases m with
  | e => exact e r
  | b => exact r.elim o e
  | f => exact o r.1
end
end MP

set_option Elab.async false
set_option linter.all false
set_option maxRecDepth 100000
namespace MP
open PySem PySem.Spec PyProof.Rows L2

mutual
theorem eqv_nk : ∀ {a b : PV} {n m : NestedKey}, nk a = some n → nk b = some m → eqv a b = decide (n = m) := by
  intro a b n m h1 h2
  cases a <;> simp only [nk, Option.some.injEq, reduceCtorEq] at h1
  · cases b <;> simp only [nk, Option.some.injEq, reduceCtorEq] at h2
    · subst h1; subst h2; simp only [eqv, NestedKey.decide_eq, NestedKey.beq, Bool.beq_eq_decide_eq]
    · subst h1; subst h2; simp only [eqv, NestedKey.decide_eq, NestedKey.beq]
    · cases q : nks _ <;> rw [q] at h2 <;> cases h2
      subst h1; simp only [eqv, NestedKey.decide_eq, NestedKey.beq]
  · cases b <;> simp only [nk, Option.some.injEq, reduceCtorEq] at h2
    · subst h1; subst h2; simp only [eqv, NestedKey.decide_eq, NestedKey.beq]
    · subst h1; subst h2; simp only [eqv, NestedKey.decide_eq, NestedKey.beq]; rfl
    · cases q : nks _ <;> rw [q] at h2 <;> cases h2
      subst h1; simp only [eqv, NestedKey.decide_eq, NestedKey.beq]
  · rename_i xs
    cases qa : nks xs <;> rw [qa] at h1 <;> cases h1
    cases b <;> simp only [nk, Option.some.injEq, reduceCtorEq] at h2
    · subst h2; simp only [eqv, NestedKey.decide_eq, NestedKey.beq]
    · subst h2; simp only [eqv, NestedKey.decide_eq, NestedKey.beq]
    · rename_i ys
      cases q : nks ys <;> rw [q] at h2 <;> cases h2
      simp only [eqv, NestedKey.decide_eq, NestedKey.beq]
      exact eqvs_nk qa q
theorem eqvs_nk : ∀ {a b : List PV} {n m : List NestedKey}, nks a = some n → nks b = some m → eqvs a b = NestedKey.beqAll n m := by
  intro a b n m h1 h2
  cases a with
  | nil =>
    simp only [nks, Option.some.injEq] at h1; subst h1
    cases b with
    | nil => simp only [nks, Option.some.injEq] at h2; subst h2; simp only [eqvs, NestedKey.beqAll]
    | cons y ys =>
      simp only [nks] at h2
      split at h2 <;> cases h2
      simp only [eqvs, NestedKey.beqAll]
  | cons x xs =>
    simp only [nks] at h1
    split at h1 <;> cases h1
    rename_i n1 n2 e1 e2
    cases b with
    | nil => simp only [nks, Option.some.injEq] at h2; subst h2; simp only [eqvs, NestedKey.beqAll]
    | cons y ys =>
      simp only [nks] at h2
      split at h2 <;> cases h2
      rename_i m1 m2 g1 g2
      simp only [eqvs, NestedKey.beqAll, eqv_nk e1 g1, eqvs_nk e2 g2, NestedKey.decide_eq]
end
mutual
theorem keyD_nk' : ∀ (a : PV) (d : Nat), keyD d a = true → ∃ n, nk a = some n ∧ n.depth ≤ d
  | .int i, d, _ => ⟨_, rfl, by simp [NestedKey.depth]⟩
  | .str x, d, _ => ⟨_, rfl, by simp [NestedKey.depth]⟩
  | .tup xs, 0, h => by simp [keyD] at h
  | .tup xs, d + 1, h => by
    simp only [keyD] at h
    obtain ⟨ns, e, hd⟩ := keysD_nk' xs d h
    exact ⟨.tup ns, by simp only [nk, e, Option.map_some], by simp only [NestedKey.depth]; omega⟩
  | .non, d, h => by simp [keyD] at h
  | .bl _, d, h => by simp [keyD] at h
  | .lst _, d, h => by simp [keyD] at h
  | .dct _ _, d, h => by simp [keyD] at h
  | .scr _, d, h => by simp [keyD] at h
  | .ref _, d, h => by simp [keyD] at h
  | .fn _, d, h => by simp [keyD] at h
  | .cls _, d, h => by simp [keyD] at h
theorem keysD_nk' : ∀ (a : List PV) (d : Nat), keysD d a = true → ∃ n, nks a = some n ∧ NestedKey.depthAll n ≤ d
  | [], d, _ => ⟨[], rfl, by simp [NestedKey.depthAll]⟩
  | x :: xs, d, h => by
    simp only [keysD, Bool.and_eq_true] at h
    obtain ⟨n, e1, h1⟩ := keyD_nk' x d h.1
    obtain ⟨m, e2, h2⟩ := keysD_nk' xs d h.2
    exact ⟨n :: m, by simp only [nks, e1, e2], by simp only [NestedKey.depthAll]; omega⟩
end
theorem keyD_nk {d : Nat} {a : PV} (h : keyD d a = true) : ∃ n, nk a = some n ∧ n.depth ≤ d := keyD_nk' a d h
section
variable {W : Wd} {X : Cx} {pins : List (Addr × Obj)} {σ : L2.St} {F : AS} {ρ : List Addr} {H : Hp} {s : Shared}
/-- a key as it lies in the heap -/
theorem Rep.nested (I : Inv X pins σ H s) (hK : X.K = W.K) : ∀ {a : PV} {n : NestedKey} {v : V} {u : Value}, nk a = some n → Rep W F ρ H a v → RelV v u → NestedIs s.heap n u := by
  intro a
  refine PV.rec (motive_1 := fun a => ∀ {n : NestedKey} {v : V} {u : Value}, nk a = some n → Rep W F ρ H a v → RelV v u → NestedIs s.heap n u)
    (motive_2 := fun as => ∀ {n : List NestedKey} {v : List V} {u : List Value}, nks as = some n → Reps W F ρ H as v → Vals v u → NestedAll s.heap n u) ?_ ?_ ?_ ?_ ?_ ?_ ?_ ?_ ?_ ?_ ?_ ?_ ?_ a
  · intro n v u h; simp [nk] at h
  · intro b n v u h; simp [nk] at h
  · intro i n v u h r q
    simp only [nk, Option.some.injEq] at h; subst h
    simp only [Rep] at r; subst r
    obtain ⟨t, rfl⟩ := q
    exact .int i t
  · intro x n v u h r q
    simp only [nk, Option.some.injEq] at h; subst h
    simp only [Rep] at r; subst r
    obtain ⟨t, rfl⟩ := q
    exact .text x t
  · intro xs ih n v u h r q
    simp only [nk] at h
    cases e : nks xs with
    | none => rw [e] at h; cases h
    | some ns =>
      rw [e] at h; cases h
      simp only [Rep] at r
      obtain ⟨a, ys, rfl, hs, rr⟩ := r
      cases q
      rw [← hK] at hs
      obtain ⟨its, rv, ⟨o, ho, hc, m, hd⟩, _⟩ := I.tuple hs.t
      exact .tup ho hc hd (by simpa using ih e rr rv)
  · intro xs _ n v u h; simp [nk] at h
  · intro _ _ _ _ n v u h; simp [nk] at h
  · intro _ _ n v u h; simp [nk] at h
  · intro _ n v u h; simp [nk] at h
  · intro _ n v u h; simp [nk] at h
  · intro _ n v u h; simp [nk] at h
  · intro n v u h r q
    simp only [nks, Option.some.injEq] at h; subst h
    simp only [Reps] at r; subst r
    cases q
    exact .nil
  · intro t ts h1 h2 n v u h r q
    simp only [nks] at h
    split at h <;> cases h
    rename_i n1 n2 e1 e2
    simp only [Reps] at r
    obtain ⟨y, ys, rfl, r1, r2⟩ := r
    cases q with
    | cons q1 q2 => exact .cons (h1 e1 r1 q1) (h2 e2 r2 q2)

theorem keysS_of : ∀ {ks : List PV}, ks.all keyA = true → ∃ kk, keysS ks = some kk
  | [], _ => ⟨[], rfl⟩
  | k :: ks, h => by
    simp only [List.all_cons, Bool.and_eq_true] at h
    obtain ⟨kk, e⟩ := keysS_of h.2
    cases k <;> simp only [keyA, Bool.false_eq_true, false_and] at h
    · rename_i i; exact ⟨.inl i :: kk, by simp only [keysS, keyS, e]⟩
    · rename_i i; exact ⟨.inr i :: kk, by simp only [keysS, keyS, e]⟩
theorem keysS_len : ∀ {ks : List PV} {kk : List Key}, keysS ks = some kk → kk.length = ks.length
  | [], _, h => by simp only [keysS, Option.some.injEq] at h; subst h; rfl
  | k :: ks, kk, h => by
    simp only [keysS] at h
    split at h <;> cases h
    rename_i a b e1 e2
    simp [keysS_len e2]
theorem nks_len : ∀ {ks : List PV} {kk : List NestedKey}, nks ks = some kk → kk.length = ks.length
  | [], _, h => by simp only [nks, Option.some.injEq] at h; subst h; rfl
  | k :: ks, kk, h => by
    simp only [nks] at h
    split at h <;> cases h
    rename_i a b e1 e2
    simp [nks_len e2]
/-- the dict by keys that are ints and texts -/
theorem DictAt.viewS (I : Inv X pins σ H s) {a : Addr} {ks : List PV} {bs xs : List V} (D : DictAt W H a ks bs xs) (hk : ks.all keyA = true) :
    ∃ kk vs, keysS ks = some kk ∧ kk.length = xs.length ∧ (kk.zip xs).length ≤ sizeLine ∧ (a == sysModules) = false ∧ KV (kk.zip xs) vs ∧ s.heap.DictOf (mixKind X.prog X.w) a vs ∧ Mut (H a) := by
  rcases D with ⟨kk, h1, h2, h3⟩ | ⟨es, h1, h2, h3, h4, h5, h6, h7, h8, h9⟩
  · obtain ⟨z, hd, vs, r, d⟩ := dk_of I.hok h3
    exact ⟨kk, vs, h1, h2, z, hd, r, d, by rw [h3]; exact trivial⟩
  · cases ks with
    | nil =>
      simp only [nks, Option.some.injEq] at h2
      have e0 : es = [] := by simpa using h2.symm
      subst e0
      cases h4
      obtain ⟨⟨o, arr, ep, g1, g2, g3, g4⟩, _, _⟩ := I.hok a _ h1
      refine ⟨[], [], rfl, rfl, by simp, h6, .nil, ?_, by rw [h1]; exact trivial⟩
      have ea : arr = #[] := by simpa using g4
      subst ea
      exact ⟨o, #[], ep, g1, g2, g3, fun e he => absurd he (by simp), by first | exact .nil | trivial | simp [Pairs], by simp⟩
    | cons k ks =>
      simp only [List.all_cons, Bool.and_eq_true] at hk h9
      cases k <;> simp [keyA, isTup] at hk h9
/-- the dict by keys that are tuples -/
theorem DictAt.viewT (I : Inv X pins σ H s) (hK : X.K = W.K) (hw : X.w = W.w) {a : Addr} {ks : List PV} {bs xs : List V} (D : DictAt W H a ks bs xs) (R : Reps W F ρ H ks bs) (hk : ks.all isTup = true) :
    ∃ es : List (NestedKey × Addr × Value), nks ks = some (es.map (·.1)) ∧ (bs = es.map (fun e => V.ref e.2.1) ∨ ks = []) ∧ Vals xs (es.map (·.2.2)) ∧ es.length ≤ sizeLine ∧ (a == sysModules) = false ∧ (∀ e ∈ es, e.1.depth ≤ 8) ∧
      s.heap.DictOfH (nestedKind X.prog X.w) a es ∧ Mut (H a) := by
  rcases D with ⟨kk, h1, h2, h3⟩ | ⟨es, h1, h2, h3, h4, h5, h6, h7, h8, h9⟩
  · cases ks with
    | nil =>
      simp only [keysS, Option.some.injEq] at h1
      subst h1
      have e0 : xs = [] := by simpa using h2.symm
      subst e0
      obtain ⟨z, hd, vs, r, d⟩ := dk_of I.hok h3
      cases r
      obtain ⟨o, arr, ep, g1, g2, g3, g4, g5, g6⟩ := d
      have ea : arr = #[] := by
        have : arr.toList = [] := by cases q : arr.toList with | nil => rfl | cons x y => rw [q] at g5; cases g5
        simpa using this
      subst ea
      exact ⟨[], rfl, .inr rfl, .nil, by simp, hd, by simp, ⟨o, #[], ep, g1, g2, g3, by simp, by simp, by simp⟩, by rw [h3]; exact trivial⟩
    | cons k ks =>
      simp only [List.all_cons, Bool.and_eq_true] at hk
      cases k <;> simp [isTup] at hk
      simp [keysS, keyS] at h1
  · refine ⟨es, h2, .inl h3, h4, h5, h6, h8, ?_, by rw [h1]; exact trivial⟩
    obtain ⟨⟨o, arr, ep, g1, g2, g3, g4⟩, _, _⟩ := I.hok a _ h1
    refine ⟨o, arr, ep, g1, g2, g3, by rw [g4, hw]; rfl, fun e he => ?_, h7⟩
    refine ⟨?_, h8 e he⟩
    obtain ⟨i, hi, ei⟩ := List.getElem_of_mem he
    have hl := nks_len h2
    have hi2 : i < ks.length := by rw [← hl, List.length_map]; exact hi
    obtain ⟨v, hv, rv⟩ := R.get (i := i) (List.getElem?_eq_getElem hi2)
    subst h3
    have hv2 : v = .ref e.2.1 := by
      rw [List.getElem?_map, List.getElem?_eq_getElem hi, ei] at hv
      exact (Option.some.inj hv).symm
    subst hv2
    have hn : ∀ {ks : List PV} {ns : List NestedKey} {i : Nat} {k : PV} {n : NestedKey}, nks ks = some ns → ks[i]? = some k → ns[i]? = some n → nk k = some n := by
      intro ks
      induction ks with
      | nil => intro ns i k n _ e; simp at e
      | cons x xs ih =>
        intro ns i k n e e1 e2
        simp only [nks] at e
        split at e <;> cases e
        rename_i p q g1 g2
        cases i with
        | zero => simp at e1 e2; subst e1; subst e2; exact g1
        | succ i => exact ih g2 (by simpa using e1) (by simpa using e2)
    have := hn h2 (List.getElem?_eq_getElem hi2) (n := e.1) (by rw [List.getElem?_map, List.getElem?_eq_getElem hi, ei]; rfl)
    exact Rep.nested I hK this rv rfl

theorem look_nks {H : Hp} {k : PV} {n : NestedKey} (hn : nk k = some n) : ∀ {ks vs : List PV} {es : List (NestedKey × Addr × Value)} {xs : List V}, nks ks = some (es.map (·.1)) → Reps W F ρ H vs xs → Vals xs (es.map (·.2.2)) →
    (∃ v p x, look k ks vs = some v ∧ atKey es n = some p ∧ RelV x p.2 ∧ Rep W F ρ H v x) ∨ (look k ks vs = none ∧ atKey es n = none)
  | [], vs, es, xs, h, _, _ => by
    simp only [nks, Option.some.injEq] at h
    have : es = [] := by simpa using h.symm
    subst this
    exact .inr ⟨by simp [look], rfl⟩
  | a :: ks, vs, es, xs, h, r, q => by
    simp only [nks] at h
    split at h
    rotate_left
    · cases h
    rename_i b c e1 e2
    have z := Option.some.inj h
    cases es with
    | nil => simp at z
    | cons e es =>
      simp only [List.map_cons, List.cons.injEq] at z
      obtain ⟨z1, z2⟩ := z
      subst z1; subst z2
      cases vs with
      | nil =>
        simp only [Reps] at r; subst r
        cases q
      | cons v vs =>
        simp only [Reps] at r
        obtain ⟨y, ys, rfl, r1, r2⟩ := r
        cases q with
        | cons q1 q2 =>
          have ek := eqv_nk e1 hn
          by_cases hh : e.1 = n
          · refine .inl ⟨v, e.2, y, ?_, ?_, q1, r1⟩
            · simp [look, ek, hh]
            · simp [atKey, List.find?_cons, hh]
          · rcases look_nks hn (vs := vs) e2 r2 q2 with ⟨v', p, x, g1, g2, g3, g4⟩ | ⟨g1, g2⟩
            · refine .inl ⟨v', p, x, ?_, ?_, g3, g4⟩
              · simp only [look, ek, decide_eq_false hh, Bool.false_eq_true, if_false]; exact g1
              · unfold atKey at g2 ⊢
                rw [List.find?_cons, decide_eq_false hh]; exact g2
            · refine .inr ⟨?_, ?_⟩
              · simp only [look, ek, decide_eq_false hh, Bool.false_eq_true, if_false]; exact g1
              · unfold atKey at g2 ⊢
                rw [List.find?_cons, decide_eq_false hh]; exact g2
theorem keyA_S {k : PV} (h : keyA k = true) : ∃ kk, keyS k = some kk := by cases k <;> simp [keyA] at h <;> exact ⟨_, rfl⟩
theorem Rep.kV {k : PV} {kk : Key} {y : V} (h : keyS k = some kk) (r : Rep W F ρ H k y) : y = L2.kV kk := by
  cases k <;> simp only [keyS, Option.some.injEq, reduceCtorEq] at h
  · subst h; simp only [Rep] at r; exact r
  · subst h; simp only [Rep] at r; exact r
theorem Rep.tupRef {k : PV} {y : V} (h : isTup k = true) (r : Rep W F ρ H k y) : ∃ b, y = .ref b := by
  cases k <;> simp [isTup] at h
  simp only [Rep] at r
  obtain ⟨a, xs, rfl, _⟩ := r
  exact ⟨a, rfl⟩
theorem room8 {A : Around} (hu : A.units + 20 < cLine) : (nestedKind X.prog X.w).room A.in1 := by
  show A.in1.units + 8 < cLine
  show A.units + 1 + 8 < cLine
  omega
/-- k in d -/
theorem dm_look (I : Inv X pins σ H s) (hK : X.K = W.K) (hw : X.w = W.w) {a : Addr} {ks vs : List PV} {bs xs : List V} {k : PV} {y : V} {u : Value} (D : DictAt W H a ks bs xs) (R : Reps W F ρ H ks bs) (Rv : Reps W F ρ H vs xs)
    (ok : dkOk k ks = true) (r : Rep W F ρ H k y) (ry : RelV y u) :
    (∃ kk ws, y = L2.kV kk ∧ (mixKind X.prog X.w).is kk u = true ∧ (a == sysModules) = false ∧ s.heap.DictOf (mixKind X.prog X.w) a ws ∧
      ((∃ v x w', look k ks vs = some v ∧ valueAt ws kk = some w' ∧ RelV x w' ∧ Rep W F ρ H v x) ∨ (look k ks vs = none ∧ valueAt ws kk = none))) ∨
    (∃ n b es, y = .ref b ∧ u = .ref b ∧ (nestedKind X.prog X.w).is s.heap n b ∧ (a == sysModules) = false ∧ s.heap.DictOfH (nestedKind X.prog X.w) a es ∧
      ((∃ v p x, look k ks vs = some v ∧ atKey es n = some p ∧ RelV x p.2 ∧ Rep W F ρ H v x) ∨ (look k ks vs = none ∧ atKey es n = none))) := by
  unfold dkOk at ok
  split at ok
  · rename_i ht
    rw [Bool.and_eq_true] at ok
    obtain ⟨es, h1, _, h3, _, h5, h6, h7, _⟩ := D.viewT I hK hw R ok.2
    obtain ⟨n, hn, hd⟩ := keyD_nk ok.1
    obtain ⟨b, rfl⟩ := r.tupRef ht
    cases (show u = Value.ref b from ry)
    exact .inr ⟨n, b, es, rfl, rfl, ⟨Rep.nested I hK hn r rfl, hd⟩, h5, h7, look_nks hn h1 Rv h3⟩
  · rw [Bool.and_eq_true] at ok
    obtain ⟨kk, ws, h1, h2, _, h4, h5, h6, _⟩ := D.viewS I ok.2
    obtain ⟨kx, hkx⟩ := keyA_S ok.1
    have e := r.kV hkx
    subst e
    refine .inl ⟨kx, ws, rfl, kV_is ry, h4, h6, ?_⟩
    rcases look_keys hkx h1 h2 Rv with ⟨v, g1, x, g2, g3⟩ | ⟨g1, g2⟩
    · obtain ⟨w', hw', rw'⟩ := RelO.some_of (v := x) (o := valueAt ws kx) (by rw [← g2]; exact h5.val kx)
      exact .inl ⟨v, x, w', g1, hw', rw', g3⟩
    · refine .inr ⟨g1, ?_⟩
      have := h5.val kx
      rw [g2] at this
      exact RelO.none_of this
variable {A : Around} {E : Value → Shared → Prop}
theorem dm_getItem {Q : Value → Shared → Prop} (hu : A.units + 20 < cLine) (I : Inv X pins σ H s) (hK : X.K = W.K) (hw : X.w = W.w) {a : Addr} {ks vs : List PV} {bs xs : List V} {k v : PV} {y : V} {u : Value} (D : DictAt W H a ks bs xs)
    (R : Reps W F ρ H ks bs) (Rv : Reps W F ρ H vs xs) (ok : dkOk k ks = true) (r : Rep W F ρ H k y) (ry : RelV y u) (e : look k ks vs = some v) (q : ∀ x w' s', Inv X pins σ H s' → RelV x w' → Rep W F ρ H v x → Q w' s') :
    wpAny (model X.prog X.w) A (getItem (.ref a) u) Q E s := by
  rcases dm_look I hK hw D R Rv ok r ry with ⟨kk, ws, rfl, hk, _, dd, h | h⟩ | ⟨n, b, es, rfl, rfl, hk, _, dd, h | h⟩
  · obtain ⟨v', x, w', g1, g2, g3, g4⟩ := h
    rw [e] at g1; cases g1
    exact wpAny_getItem_of hk dd.mapOf g2 (q x w' _ (I.tok _) g3 g4)
  · rw [e] at h; cases h.1
  · obtain ⟨v', p, x, g1, g2, g3, g4⟩ := h
    rw [e] at g1; cases g1
    exact wpAny_getItem_heap (room8 hu) hk dd g2 (q x p.2 _ (I.tok _) g3 g4)
  · rw [e] at h; cases h.1
theorem dm_in {Q : Value → Shared → Prop} (hu : A.units + 20 < cLine) (I : Inv X pins σ H s) (hK : X.K = W.K) (hw : X.w = W.w) {a : Addr} {ks vs : List PV} {bs xs : List V} {k : PV} {y : V} {u : Value} (D : DictAt W H a ks bs xs)
    (R : Reps W F ρ H ks bs) (Rv : Reps W F ρ H vs xs) (ok : dkOk k ks = true) (r : Rep W F ρ H k y) (ry : RelV y u) (q : ∀ s', Inv X pins σ H s' → Q (.bool (look k ks vs).isSome) s') :
    wpAny (model X.prog X.w) A (compareOp .In u (.ref a)) Q E s := by
  rcases dm_look I hK hw D R Rv ok r ry with ⟨kk, ws, rfl, hk, hs, dd, h | h⟩ | ⟨n, b, es, rfl, rfl, hk, hs, dd, h | h⟩
  · obtain ⟨v', x, w', g1, g2, g3, g4⟩ := h
    rw [g1] at q
    exact wpAny_in_of hk hs dd.mapOf (by rw [g2]; exact q _ (I.tok _))
  · rw [h.1] at q
    exact wpAny_in_of hk hs dd.mapOf (by rw [h.2]; exact q _ (I.tok _))
  · obtain ⟨v', p, x, g1, g2, g3, g4⟩ := h
    rw [g1] at q
    exact wpAny_in_heap (room8 hu) hk hs dd (by rw [g2]; exact q _ (I.tok _))
  · rw [h.1] at q
    exact wpAny_in_heap (room8 hu) hk hs dd (by rw [h.2]; exact q _ (I.tok _))
theorem dm_notIn {Q : Value → Shared → Prop} (hu : A.units + 20 < cLine) (I : Inv X pins σ H s) (hK : X.K = W.K) (hw : X.w = W.w) {a : Addr} {ks vs : List PV} {bs xs : List V} {k : PV} {y : V} {u : Value} (D : DictAt W H a ks bs xs)
    (R : Reps W F ρ H ks bs) (Rv : Reps W F ρ H vs xs) (ok : dkOk k ks = true) (r : Rep W F ρ H k y) (ry : RelV y u) (q : ∀ s', Inv X pins σ H s' → Q (.bool (!(look k ks vs).isSome)) s') :
    wpAny (model X.prog X.w) A (compareOp .NotIn u (.ref a)) Q E s := by
  rcases dm_look I hK hw D R Rv ok r ry with ⟨kk, ws, rfl, hk, hs, dd, h | h⟩ | ⟨n, b, es, rfl, rfl, hk, hs, dd, h | h⟩
  · obtain ⟨v', x, w', g1, g2, g3, g4⟩ := h
    rw [g1] at q
    exact wpAny_notIn_of hk hs dd.mapOf (by rw [g2]; exact q _ (I.tok _))
  · rw [h.1] at q
    exact wpAny_notIn_of hk hs dd.mapOf (by rw [h.2]; exact q _ (I.tok _))
  · obtain ⟨v', p, x, g1, g2, g3, g4⟩ := h
    rw [g1] at q
    exact wpAny_notIn_heap (room8 hu) hk hs dd (by rw [g2]; exact q _ (I.tok _))
  · rw [h.1] at q
    exact wpAny_notIn_heap (room8 hu) hk hs dd (by rw [h.2]; exact q _ (I.tok _))
theorem dm_get2 {Q : Value → Shared → Prop} (hu : A.units + 20 < cLine) (I : Inv X pins σ H s) (hK : X.K = W.K) (hw : X.w = W.w) {a : Addr} {ks vs : List PV} {bs xs : List V} {k d : PV} {y z : V} {u r' : Value} (D : DictAt W H a ks bs xs)
    (R : Reps W F ρ H ks bs) (Rv : Reps W F ρ H vs xs) (ok : dkOk k ks = true) (r : Rep W F ρ H k y) (ry : RelV y u) (rd : Rep W F ρ H d z) (rz : RelV z r')
    (q : ∀ x w' s', Inv X pins σ H s' → RelV x w' → Rep W F ρ H ((look k ks vs).getD d) x → Q w' s') :
    wpAny (model X.prog X.w) A (call (.builtin "dict.get") [.ref a, u, r']) Q E s := by
  rcases dm_look I hK hw D R Rv ok r ry with ⟨kk, ws, rfl, hk, hs, dd, h | h⟩ | ⟨n, b, es, rfl, rfl, hk, hs, dd, h | h⟩
  · obtain ⟨v', x, w', g1, g2, g3, g4⟩ := h
    rw [g1] at q
    refine call_meetsIn PySem.F.slot_dict_get dd.typeIs PySem.F.entry_dict_get (PySem.F.args_dict_get_3 _ _ _) (meets_dict_get_default (mixKind X.prog X.w) a hk hs r') ⟨_, dd.mapOf, ?_⟩
    rw [g2]
    exact q x w' _ (I.tok _) g3 g4
  · rw [h.1] at q
    refine call_meetsIn PySem.F.slot_dict_get dd.typeIs PySem.F.entry_dict_get (PySem.F.args_dict_get_3 _ _ _) (meets_dict_get_default (mixKind X.prog X.w) a hk hs r') ⟨_, dd.mapOf, ?_⟩
    rw [h.2]
    exact q z r' _ (I.tok _) rz rd
  · obtain ⟨v', p, x, g1, g2, g3, g4⟩ := h
    rw [g1] at q
    refine call_meetsIn PySem.F.slot_dict_get dd.typeIs PySem.F.entry_dict_get (PySem.F.args_dict_get_3 _ _ _) (meetsH_dict_get_default (nestedKind X.prog X.w) a b hs r') ⟨room8 hu, n, es, hk, dd, ?_⟩
    rw [g2]
    exact q x p.2 _ (I.tok _) g3 g4
  · rw [h.1] at q
    refine call_meetsIn PySem.F.slot_dict_get dd.typeIs PySem.F.entry_dict_get (PySem.F.args_dict_get_3 _ _ _) (meetsH_dict_get_default (nestedKind X.prog X.w) a b hs r') ⟨room8 hu, n, es, hk, dd, ?_⟩
    rw [h.2]
    exact q z r' _ (I.tok _) rz rd
end
end MP

set_option Elab.async false
set_option linter.all false
set_option maxRecDepth 100000
namespace MP
open PySem PySem.Spec PyProof.Rows L2

section
variable {W : Wd} {X : Cx}
def rInM (W : Wd) (neg : Bool) : R2 := fun x y H Q => ∃ F ρ a ks vs bs xs k, y = .ref a ∧ DictAt W H a ks bs xs ∧ Reps W F ρ H ks bs ∧ Reps W F ρ H vs xs ∧ dkOk k ks = true ∧ Rep W F ρ H k x ∧
  Q (.bl (if neg then !(look k ks vs).isSome else (look k ks vs).isSome)) H
/-- one rule for each comparison -/
def rCmp (W : Wd) (op : CmpOp) : R2 := match op with
  | .Eq => rEqD W.K
  | .NotEq => rNeD W.K
  | .Lt => rI0 fun i j => .bl (decide (i < j))
  | .LtE => rI0 fun i j => .bl (decide (i ≤ j))
  | .Gt => rI0 fun i j => .bl (decide (j < i))
  | .GtE => rI0 fun i j => .bl (decide (j ≤ i))
  | .Is => fun x y H Q => (y = .non ∧ Q (.bl (decide (x = .non))) H) ∨ rIsB x y H Q
  | .IsNot => fun x y H Q => (y = .non ∧ Q (.bl (!decide (x = .non))) H) ∨ rNotB x y H Q
  | .In => fun x y H Q => rInD W.K x y H Q ∨ rIn W.K false x y H Q ∨ rInM W false x y H Q
  | .NotIn => fun x y H Q => rNotInD W.K x y H Q ∨ rIn W.K true x y H Q ∨ rInM W true x y H Q
theorem op_inM (hu : X.A.units + 20 < cLine) (hK : X.K = W.K) (hw : X.w = W.w) : OpR X (compareOp .In) (rInM W false) := by
  intro pins s σ H x y v u Q I rx ry h
  obtain ⟨F, ρ, a, ks, vs, bs, xs, k, rfl, D, R, Rv, ok, r, q⟩ := h
  cases ry
  exact dm_in hu I hK hw D R Rv ok r rx fun s' I' => ⟨.bl _, H, I', rfl, q⟩
theorem op_notInM (hu : X.A.units + 20 < cLine) (hK : X.K = W.K) (hw : X.w = W.w) : OpR X (compareOp .NotIn) (rInM W true) := by
  intro pins s σ H x y v u Q I rx ry h
  obtain ⟨F, ρ, a, ks, vs, bs, xs, k, rfl, D, R, Rv, ok, r, q⟩ := h
  cases ry
  exact dm_notIn hu I hK hw D R Rv ok r rx fun s' I' => ⟨.bl _, H, I', rfl, q⟩
theorem op_cmpG (hu : X.A.units + 100 < cLine) (hK : X.K = W.K) (hw : X.w = W.w) : ∀ op, OpR X (compareOp op) (rCmp W op)
  | .Eq => by have := op_eqD (X := X) (by omega); rw [hK] at this; exact this
  | .NotEq => by have := op_neD (X := X) (by omega); rw [hK] at this; exact this
  | .Lt => op_lt
  | .LtE => op_le
  | .Gt => op_gt
  | .GtE => op_ge
  | .Is => op_isN.or op_isBl
  | .IsNot => op_notN.or op_notBl
  | .In => by
    have h1 := op_inD (X := X) (by omega)
    have h2 := op_in_seq (X := X)
    rw [hK] at h1 h2
    exact h1.or (h2.or (op_inM (by omega) hK hw))
  | .NotIn => by
    have h1 := op_notInD (X := X) (by omega)
    have h2 := op_notIn_seq (X := X)
    rw [hK] at h1 h2
    exact h1.or (h2.or (op_notInM (by omega) hK hw))
end
section
variable {W : Wd} {cl : CL} {fl : List Nat} {X : Cx}
theorem Rm.ref {m : Md} {F : AS} {ρ : List Addr} {H₁ H : Hp} {n : Nat} {v : V} (r : Rm m W F ρ H₁ H (.ref n) v) : ∃ a, v = .ref a ∧ ρ[n]? = some a := by
  cases m with
  | e => simpa only [Rm, Rep] using r
  | b => rcases r with r | r <;> simpa only [Own, Rep] using r
  | f => simpa only [Own, Rep] using r.1
def isNon : PV → Bool
  | .non => true
  | _ => false
/-- None or not -/
theorem Rm.isnon {m : Md} {F : AS} {ρ : List Addr} {H₁ H : Hp} {t : PV} {v : V} (r : Rm m W F ρ H₁ H t v) : decide (v = .non) = isNon t := by
  have e : Rep W F ρ H t v → decide (v = .non) = isNon t := fun r => by
    cases t <;> simp only [Rep] at r
    · subst r; rfl
    · subst r; rfl
    · subst r; rfl
    · subst r; rfl
    · obtain ⟨a, xs, rfl, _⟩ := r; rfl
    · obtain ⟨a, xs, rfl, _⟩ := r; rfl
    · obtain ⟨a, kk, xs, rfl, _⟩ := r; rfl
    · obtain ⟨a, xs, rfl, _⟩ := r; rfl
    · obtain ⟨a, rfl, _⟩ := r; rfl
    · obtain ⟨a, rfl, _⟩ := r; rfl
    · obtain ⟨a, rfl, _⟩ := r; rfl
  have o : Own W F ρ H t v → decide (v = .non) = isNon t := fun r => by
    cases t with
    | lst ts => simp only [Own] at r; obtain ⟨a, xs, rfl, _⟩ := r; rfl
    | dct ks vs => simp only [Own] at r; obtain ⟨a, kk, xs, rfl, _⟩ := r; rfl
    | _ => exact e r
  cases m with
  | e => exact e r
  | b => exact r.elim o e
  | f => exact o r.1
theorem isV_imp {m : Md} {F : AS} {ρ : List Addr} {H₁ H₂ H : Hp} {x y : PV} {v w : V} {b : Bool} (e : isV x y = some b) (r1 : Rm m W F ρ H₁ H x v) (r2 : Rm m W F ρ H₂ H y w) :
    (w = .non ∧ decide (v = .non) = b) ∨ ∃ c d : Bool, v = .bl c ∧ w = .bl d ∧ decide (c = d) = b := by
  have h1 := r1.isnon
  unfold isV at e
  split at e
  · cases e
    exact .inl ⟨r2.non, h1⟩
  · rename_i hno
    cases e
    refine .inl ⟨r2.non, ?_⟩
    rw [h1]
    cases x <;> first | rfl | exact (hno rfl).elim
  · cases e
    exact .inr ⟨_, _, r1.bl, r2.bl, by rw [Bool.beq_eq_decide_eq]⟩
  · cases e
theorem keyS_ok {k : PV} (h : (keyS k).isSome = true) : ∃ kk, keyS k = some kk := Option.isSome_iff_exists.mp h
theorem kV_of {m : Md} {F : AS} {ρ : List Addr} {H₁ H : Hp} {k : PV} {kk : Key} {v : V} (hk : keyS k = some kk) (r : Rm m W F ρ H₁ H k v) : v = kV kk := by
  cases k <;> simp only [keyS, Option.some.injEq, reduceCtorEq] at hk
  · subst hk; exact r.int
  · subst hk; exact r.str
theorem Rm.imm {m : Md} {F : AS} {ρ : List Addr} {H₁ H : Hp} {t : PV} {v : V} (hm : isMut t = false) (r : Rm m W F ρ H₁ H t v) : Rep W F ρ H t v := by
  cases m with
  | e => exact r
  | b => exact r.elim (fun o => o.rep hm) id
  | f => exact r.1.rep hm
theorem key_rep {m : Md} {F : AS} {ρ : List Addr} {H₁ H : Hp} {k : PV} {ks : List PV} {v : V} (h : dkOk k ks = true) (r : Rm m W F ρ H₁ H k v) : Rep W F ρ H k v := by
  refine r.imm ?_
  cases k <;> first | rfl | (simp [dkOk, isTup, keyA] at h)
theorem cmp_imp {op : CmpOp} {F : AS} {ρ : List Addr} {H₁ H₂ H : Hp} {x y : PV} {v w : V} {b : Bool} (e : cmpV op x y = some b) (r1 : Rm .b W F ρ H₁ H x v) (r2 : Rm .b W F ρ H₂ H y w)
    {Q : VK} (q : Q (.bl b) H) : rCmp W op v w H Q := by
  have ii : ∀ o, (match x, y with
      | .int i, .int j => cmpI o i j
      | _, _ => none) = some b → ∃ i j, x = .int i ∧ y = .int j ∧ cmpI o i j = some b := fun o e => by
    split at e
    · exact ⟨_, _, rfl, rfl, e⟩
    · cases e
  cases op <;> simp only [cmpV] at e
  · split at e
    · rename_i h
      cases e
      rw [Bool.and_eq_true] at h
      refine ⟨_, _, r1.dp h.1, r2.dp h.2, shaped_of h.1, shaped_of h.2, ?_⟩
      rw [eqv_toD h.1 h.2]; exact q
    · cases e
  · split at e
    · rename_i h
      cases e
      rw [Bool.and_eq_true] at h
      refine ⟨_, _, r1.dp h.1, r2.dp h.2, shaped_of h.1, shaped_of h.2, ?_⟩
      rw [eqv_toD h.1 h.2]; exact q
    · cases e
  · obtain ⟨i, j, rfl, rfl, e⟩ := ii .Lt e
    simp only [cmpI, Option.some.injEq] at e
    subst e
    rw [r1.int, r2.int]
    exact ⟨i, j, rfl, rfl, q⟩
  · obtain ⟨i, j, rfl, rfl, e⟩ := ii .LtE e
    simp only [cmpI, Option.some.injEq] at e
    subst e
    rw [r1.int, r2.int]
    exact ⟨i, j, rfl, rfl, q⟩
  · obtain ⟨i, j, rfl, rfl, e⟩ := ii .Gt e
    simp only [cmpI, Option.some.injEq] at e
    subst e
    rw [r1.int, r2.int]
    exact ⟨i, j, rfl, rfl, q⟩
  · obtain ⟨i, j, rfl, rfl, e⟩ := ii .GtE e
    simp only [cmpI, Option.some.injEq] at e
    subst e
    rw [r1.int, r2.int]
    exact ⟨i, j, rfl, rfl, q⟩
  · rcases isV_imp e r1 r2 with ⟨h1, h2⟩ | ⟨c, d, h1, h2, h3⟩
    · exact .inl ⟨h1, by rw [h2]; exact q⟩
    · exact .inr ⟨c, d, h1, h2, by rw [h3]; exact q⟩
  · cases e1 : isV x y with
    | none => rw [e1] at e; cases e
    | some b' =>
      rw [e1] at e
      simp only [Option.map_some, Option.some.injEq] at e
      subst e
      rcases isV_imp e1 r1 r2 with ⟨h1, h2⟩ | ⟨c, d, h1, h2, h3⟩
      · exact .inl ⟨h1, by rw [h2]; exact q⟩
      · exact .inr ⟨c, d, h1, h2, by rw [h3]; exact q⟩
  · split at e
    · split at e
      · rename_i h
        cases e
        rw [Bool.and_eq_true] at h
        have py : plain (depthLine + 1) (.lst ‹_›) = true := by simp only [plain]; exact h.2
        obtain ⟨c1, c2⟩ := toDs_plain h.2
        refine .inl ⟨_, _, r1.dp h.1, by have := r2.dp py; simpa only [toD] using this, shaped_of h.1, ?_, by rw [isIn_toD h.1 h.2]; exact q⟩
        unfold SeqAt.shaped
        simp only [PyData.canLay0, PyData.depth, c1, Bool.true_and]
        exact decide_eq_true (by have : depthLine = 60 := rfl; omega)
      · cases e
    · split at e
      · rename_i js hjs
        cases e
        obtain ⟨a, xs, rfl, ha, rr⟩ := r2.tup
        have hx := rr.ints hjs
        subst hx
        rw [r1.int]
        refine .inr (.inl ⟨a, _, rfl, .inr ha, rfl, ?_, ?_⟩)
        · simp [flatV, List.all_eq_true]
        · rw [inV_ints]; exact q
      · cases e
    · split at e
      · rename_i hk
        cases e
        obtain ⟨a, bs, xs, rfl, D, R, Rv⟩ := r2.dct
        exact .inr (.inr ⟨F, ρ, a, _, _, bs, xs, x, rfl, D, R, Rv, hk, key_rep hk r1, q⟩)
      · cases e
    · cases e
  · split at e
    · split at e
      · rename_i h
        cases e
        rw [Bool.and_eq_true] at h
        have py : plain (depthLine + 1) (.lst ‹_›) = true := by simp only [plain]; exact h.2
        obtain ⟨c1, c2⟩ := toDs_plain h.2
        refine .inl ⟨_, _, r1.dp h.1, by have := r2.dp py; simpa only [toD] using this, shaped_of h.1, ?_, by rw [isIn_toD h.1 h.2]; exact q⟩
        unfold SeqAt.shaped
        simp only [PyData.canLay0, PyData.depth, c1, Bool.true_and]
        exact decide_eq_true (by have : depthLine = 60 := rfl; omega)
      · cases e
    · split at e
      · rename_i js hjs
        cases e
        obtain ⟨a, xs, rfl, ha, rr⟩ := r2.tup
        have hx := rr.ints hjs
        subst hx
        rw [r1.int]
        refine .inr (.inl ⟨a, _, rfl, .inr ha, rfl, ?_, ?_⟩)
        · simp [flatV, List.all_eq_true]
        · rw [inV_ints]; exact q
      · cases e
    · split at e
      · rename_i hk
        cases e
        obtain ⟨a, bs, xs, rfl, D, R, Rv⟩ := r2.dct
        exact .inr (.inr ⟨F, ρ, a, _, _, bs, xs, x, rfl, D, R, Rv, hk, key_rep hk r1, q⟩)
      · cases e
    · cases e

/-! ### comparisons, tests -/
theorem L_cmp {op : CmpOp} {a b : E} {ea eb : Expr} {pos : Pos} (hu : X.A.units + 100 < cLine) (hK : X.K = W.K) (hw : X.w = W.w) (ha : PE X ea (tE W cl fl .b a)) (hb : PE X eb (tE W cl fl .b b)) (hm : behindInMarks op eb = false) :
    PE X (.Compare ea [op] [eb] pos) (tE W cl fl .e (.cmp op a b)) := by
  refine pe_mono (pe_cmpR (op_cmpG hu hK hw op) ha hb hm) fun σ H Q q => ?_
  obtain ⟨F, ρ, τ, h, t, h', rel, p, ev, k⟩ := q
  simp only [evE] at ev
  refine two_ (n := .b) (by intro z; cases z) rel p ev fun x y h2 g0 v w F' ρ' H' ex p' r1 ⟨H1, r2, _⟩ => ?_
  obtain ⟨b', h3, g1, g2⟩ := bind_ok g0
  obtain ⟨e1, rfl⟩ := of_ok g1
  cases g2
  exact cmp_imp e1 r1 r2 (k _ F' ρ' H' ex p' (by simp only [Rm, Rep]))
theorem T_cmp {op : CmpOp} {a b : E} {ea eb : Expr} {pos : Pos} (hu : X.A.units + 100 < cLine) (hK : X.K = W.K) (hw : X.w = W.w) (ha : PE X ea (tE W cl fl .b a)) (hb : PE X eb (tE W cl fl .b b)) (hm : behindInMarks op eb = false) :
    PT X (.Compare ea [op] [eb] pos) (tT W cl fl (.cmp op a b)) := by
  refine pt_mono (pt_cmpR (op_cmpG hu hK hw op) ha hb hm) fun σ H Q q => ?_
  obtain ⟨F, ρ, τ, h, t, h', rel, p, ev, k⟩ := q
  simp only [evE] at ev
  refine two_ (n := .b) (by intro z; cases z) rel p ev fun x y h2 g0 v w F' ρ' H' ex p' r1 ⟨H1, r2, _⟩ => ?_
  obtain ⟨b', h3, g1, g2⟩ := bind_ok g0
  obtain ⟨e1, rfl⟩ := of_ok g1
  cases g2
  exact cmp_imp e1 r1 r2 ⟨_, rfl, k F' ρ' H' ex p'⟩
/-- a value that is a bool, as a test -/
theorem tB_of {i : E} {σ : L2.St} {H : Hp} {Q : Bool → Hp → Prop} (q : tT W cl fl i σ H Q) : tB (tE W cl fl .e i) σ H Q := by
  obtain ⟨F, ρ, τ, h, t, h', rel, p, ev, k⟩ := q
  refine ⟨F, ρ, τ, h, .bl t, h', rel, p, ev, fun v F' ρ' H' ex p' r => ?_⟩
  simp only [Rm, Rep] at r
  exact ⟨t, r, k F' ρ' H' ex p'⟩
theorem L_not {a : E} {ea : Expr} {pos : Pos} (ha : PE X ea (tE W cl fl .e a)) : PE X (.UnaryOp .Not ea pos) (tE W cl fl .e (.not a)) := by
  refine pe_mono (pe_not ha) fun σ H Q q => ?_
  obtain ⟨F, ρ, τ, h, t, h', rel, p, ev, k⟩ := q
  simp only [evE] at ev
  obtain ⟨x, h1, e1, g⟩ := bind_ok ev
  split at g <;> cases g
  refine ⟨F, ρ, τ, h, _, _, rel, p, e1, fun v F' ρ' H' ex p' r => ?_⟩
  simp only [Rm, Rep] at r
  exact ⟨_, r, k _ F' ρ' H' ex p' (by simp only [Rm, Rep])⟩
theorem T_not {a : E} {ea : Expr} {pos : Pos} (ha : PT X ea (tT W cl fl a)) : PT X (.UnaryOp .Not ea pos) (tT W cl fl (.not a)) := by
  refine pt_mono (pt_not ha) fun σ H Q q => ?_
  obtain ⟨F, ρ, τ, h, t, h', rel, p, ev, k⟩ := q
  simp only [evE] at ev
  obtain ⟨x, h1, e1, g⟩ := bind_ok ev
  split at g <;> cases g
  exact ⟨F, ρ, τ, h, _, _, rel, p, e1, fun F' ρ' H' ex p' => k F' ρ' H' ex p'⟩
theorem L_neg {a : E} {ea : Expr} {pos : Pos} (ha : PE X ea (tE W cl fl .e a)) : PE X (.UnaryOp .USub ea pos) (tE W cl fl .e (.neg a)) := by
  refine pe_mono (pe_un un_neg ha) fun σ H Q q => ?_
  obtain ⟨F, ρ, τ, h, t, h', rel, p, ev, k⟩ := q
  simp only [evE] at ev
  obtain ⟨x, h1, e1, g⟩ := bind_ok ev
  split at g <;> cases g
  refine ⟨F, ρ, τ, h, _, _, rel, p, e1, fun v F' ρ' H' ex p' r => ?_⟩
  simp only [Rm, Rep] at r
  exact ⟨_, r, k _ F' ρ' H' ex p' (by simp only [Rm, Rep])⟩
/-- and, or: the first has run -/
theorem and_go {a b : E} {F : AS} {ρ : List Addr} {τ : Sl} {h h' : Hs} {σ : L2.St} {H : Hp} {t : PV} (rel : Rel W F ρ fl τ σ H) (p : Hps W F ρ H h) (ev : evE cl (.and a b) τ h = .ok t h') :
    ∃ c h1, evE cl a τ h = .ok (.bl c) h1 ∧ if c = true then evE cl b τ h1 = .ok t h' else t = .bl false ∧ h' = h1 := by
  simp only [evE] at ev
  obtain ⟨x, h1, e1, g⟩ := bind_ok ev
  split at g
  · exact ⟨true, h1, e1, by rw [if_pos rfl]; exact g⟩
  · cases g; exact ⟨false, _, e1, by rw [if_neg Bool.false_ne_true]; exact ⟨rfl, rfl⟩⟩
  · cases g
theorem or_go {a b : E} {F : AS} {ρ : List Addr} {τ : Sl} {h h' : Hs} {σ : L2.St} {H : Hp} {t : PV} (rel : Rel W F ρ fl τ σ H) (p : Hps W F ρ H h) (ev : evE cl (.or a b) τ h = .ok t h') :
    ∃ c h1, evE cl a τ h = .ok (.bl c) h1 ∧ if c = true then t = .bl true ∧ h' = h1 else evE cl b τ h1 = .ok t h' := by
  simp only [evE] at ev
  obtain ⟨x, h1, e1, g⟩ := bind_ok ev
  split at g
  · exact ⟨false, h1, e1, by rw [if_neg Bool.false_ne_true]; exact g⟩
  · cases g; exact ⟨true, _, e1, by rw [if_pos rfl]; exact ⟨rfl, rfl⟩⟩
  · cases g
theorem L_and {a b : E} {x y : Expr} {r : List Expr} {pos : Pos} (ha : PE X x (tE W cl fl .e a)) (hb : PE X (.BoolOp .And (y :: r) pos) (tE W cl fl .e b)) : PE X (.BoolOp .And (x :: y :: r) pos) (tE W cl fl .e (.and a b)) := by
  refine pe_mono (pe_and ha hb) fun σ H Q q => ?_
  obtain ⟨F, ρ, τ, h, t, h', rel, p, ev, k⟩ := q
  obtain ⟨c, h1, e1, g⟩ := and_go rel p ev
  refine ⟨F, ρ, τ, h, _, _, rel, p, e1, fun v F' ρ' H' ex p' r => ⟨c, by simpa only [Rm, Rep] using r, ?_⟩⟩
  cases c with
  | true =>
    rw [if_pos rfl] at g ⊢
    exact ⟨F', ρ', τ, h1, t, h', rel.ext ex p', p', g, fun w F2 ρ2 H2 ex2 p2 r2 => k w F2 ρ2 H2 (ex.trans ex2) p2 r2⟩
  | false =>
    rw [if_neg Bool.false_ne_true] at g ⊢
    obtain ⟨rfl, rfl⟩ := g
    exact k _ F' ρ' H' ex p' (by simp only [Rm, Rep])
theorem L_or {a b : E} {x y : Expr} {r : List Expr} {pos : Pos} (ha : PE X x (tE W cl fl .e a)) (hb : PE X (.BoolOp .Or (y :: r) pos) (tE W cl fl .e b)) : PE X (.BoolOp .Or (x :: y :: r) pos) (tE W cl fl .e (.or a b)) := by
  refine pe_mono (pe_or ha hb) fun σ H Q q => ?_
  obtain ⟨F, ρ, τ, h, t, h', rel, p, ev, k⟩ := q
  obtain ⟨c, h1, e1, g⟩ := or_go rel p ev
  refine ⟨F, ρ, τ, h, _, _, rel, p, e1, fun v F' ρ' H' ex p' r => ⟨c, by simpa only [Rm, Rep] using r, ?_⟩⟩
  cases c with
  | false =>
    rw [if_neg Bool.false_ne_true] at g ⊢
    exact ⟨F', ρ', τ, h1, t, h', rel.ext ex p', p', g, fun w F2 ρ2 H2 ex2 p2 r2 => k w F2 ρ2 H2 (ex.trans ex2) p2 r2⟩
  | true =>
    rw [if_pos rfl] at g ⊢
    obtain ⟨rfl, rfl⟩ := g
    exact k _ F' ρ' H' ex p' (by simp only [Rm, Rep])
theorem T_and {a b : E} {x y : Expr} {r : List Expr} {pos : Pos} (ha : PT X x (tT W cl fl a)) (hb : PW X (.BoolOp .And (y :: r) pos) (tT W cl fl b)) : PW X (.BoolOp .And (x :: y :: r) pos) (tT W cl fl (.and a b)) := by
  refine pw_mono (pw_and ha hb) fun σ H Q q => ?_
  obtain ⟨F, ρ, τ, h, t, h', rel, p, ev, k⟩ := q
  obtain ⟨c, h1, e1, g⟩ := and_go rel p ev
  refine ⟨F, ρ, τ, h, _, _, rel, p, e1, fun F' ρ' H' ex p' => ?_⟩
  cases c with
  | true =>
    rw [if_pos rfl] at g ⊢
    exact ⟨F', ρ', τ, h1, t, h', rel.ext ex p', p', g, fun F2 ρ2 H2 ex2 p2 => k F2 ρ2 H2 (ex.trans ex2) p2⟩
  | false =>
    rw [if_neg Bool.false_ne_true] at g ⊢
    obtain ⟨e, rfl⟩ := g
    cases e
    exact k F' ρ' H' ex p'
theorem T_or {a b : E} {x y : Expr} {r : List Expr} {pos : Pos} (ha : PT X x (tT W cl fl a)) (hb : PW X (.BoolOp .Or (y :: r) pos) (tT W cl fl b)) : PW X (.BoolOp .Or (x :: y :: r) pos) (tT W cl fl (.or a b)) := by
  refine pw_mono (pw_or ha hb) fun σ H Q q => ?_
  obtain ⟨F, ρ, τ, h, t, h', rel, p, ev, k⟩ := q
  obtain ⟨c, h1, e1, g⟩ := or_go rel p ev
  refine ⟨F, ρ, τ, h, _, _, rel, p, e1, fun F' ρ' H' ex p' => ?_⟩
  cases c with
  | false =>
    rw [if_neg Bool.false_ne_true] at g ⊢
    exact ⟨F', ρ', τ, h1, t, h', rel.ext ex p', p', g, fun F2 ρ2 H2 ex2 p2 => k F2 ρ2 H2 (ex.trans ex2) p2⟩
  | true =>
    rw [if_pos rfl] at g ⊢
    obtain ⟨e, rfl⟩ := g
    cases e
    exact k F' ρ' H' ex p'
theorem L_ite {c a b : E} {ec ea eb : Expr} {pos : Pos} (hc : PT X ec (tT W cl fl c)) (ha : PE X ea (tE W cl fl .e a)) (hb : PE X eb (tE W cl fl .e b)) : PE X (.IfExp ec ea eb pos) (tE W cl fl .e (.ite c a b)) := by
  refine pe_mono (pe_ifExp hc ha hb) fun σ H Q q => ?_
  obtain ⟨F, ρ, τ, h, t, h', rel, p, ev, k⟩ := q
  simp only [evE] at ev
  obtain ⟨x, h1, e1, g⟩ := bind_ok ev
  split at g
  · refine ⟨F, ρ, τ, h, true, h1, rel, p, e1, fun F' ρ' H' ex p' => ?_⟩
    refine iteT (A := tE W cl fl .e a σ H' Q) ?_
    exact ⟨F', ρ', τ, h1, t, h', rel.ext ex p', p', g, fun w F2 ρ2 H2 ex2 p2 r2 => k w F2 ρ2 H2 (ex.trans ex2) p2 r2⟩
  · refine ⟨F, ρ, τ, h, false, h1, rel, p, e1, fun F' ρ' H' ex p' => ?_⟩
    refine iteF (B := tE W cl fl .e b σ H' Q) ?_
    exact ⟨F', ρ', τ, h1, t, h', rel.ext ex p', p', g, fun w F2 ρ2 H2 ex2 p2 r2 => k w F2 ρ2 H2 (ex.trans ex2) p2 r2⟩
  · cases g
end
end MP

set_option Elab.async false
set_option linter.all false
set_option maxRecDepth 100000
namespace MP
open PySem PySem.Spec PyProof.Rows L2

section
variable {W : Wd} {cl : CL} {fl : List Nat} {X : Cx}
theorem chain_go {o1 o2 : CmpOp} {a b c : E} {F : AS} {ρ : List Addr} {τ : Sl} {h h' : Hs} {σ : L2.St} {H : Hp} {t : PV} {Q : VK} (rel : Rel W F ρ fl τ σ H) (p : Hps W F ρ H h) (ev : evE cl (.chain o1 o2 a b c) τ h = .ok t h')
    (k : ∀ v F' ρ' H', Ext F ρ H F' ρ' H' → Hps W F' ρ' H' h' → Rm .e W F' ρ' H H' t v → Q v H') :
    tChain (rCmp W o1) (rCmp W o2) (tE W cl fl .b a) (tE W cl fl .b b) (tE W cl fl .b c) σ H Q := by
  simp only [evE] at ev
  obtain ⟨x, h1, e1, g1⟩ := bind_ok ev
  obtain ⟨y, h2, e2, g2⟩ := bind_ok g1
  obtain ⟨r, h3, e3, g3⟩ := bind_ok g2
  obtain ⟨e4, rfl⟩ := of_ok e3
  refine ⟨F, ρ, τ, h, x, h1, rel, p, e1, fun v F1 ρ1 H1 x1 p1 r1 => ⟨F1, ρ1, τ, h1, y, _, rel.ext x1 p1, p1, e2, fun w F2 ρ2 H2 x2 p2 r2 => ?_⟩⟩
  have r1' : Rm .b W F2 ρ2 H H2 x v := r1.imp (fun o => o.stay x2 p2) (Rep.stay x2.stay)
  refine cmp_imp e4 r1' r2 ⟨r, rfl, ?_⟩
  cases r with
  | true =>
    refine iteT (A := tE W cl fl .b c σ H2 fun w' H4 => rCmp W o2 w w' H4 Q) ?_
    dsimp only at g3
    obtain ⟨z, h4, e5, g4⟩ := bind_ok g3
    obtain ⟨b', h5, e6, g5⟩ := bind_ok g4
    obtain ⟨e7, rfl⟩ := of_ok e6
    cases g5
    refine ⟨F2, ρ2, τ, _, z, _, (rel.ext x1 p1).ext x2 p2, p2, e5, fun u F3 ρ3 H3 x3 p3 r3 => ?_⟩
    have r2' : Rm .b W F3 ρ3 H H3 y w := r2.imp (fun o => o.stay x3 p3) (Rep.stay x3.stay)
    exact cmp_imp e7 r2' r3 (k _ F3 ρ3 H3 ((x1.trans x2).trans x3) p3 (by simp only [Rm, Rep]))
  | false =>
    refine iteF (B := Q (.bl false) H2) ?_
    cases g3
    exact k _ F2 ρ2 H2 (x1.trans x2) p2 (by simp only [Rm, Rep])
theorem L_chain {o1 o2 : CmpOp} {a b c : E} {ea eb ec : Expr} {pos : Pos} (hu : X.A.units + 100 < cLine) (hK : X.K = W.K) (hw : X.w = W.w) (ha : PE X ea (tE W cl fl .b a)) (hb : PE X eb (tE W cl fl .b b)) (hc : PE X ec (tE W cl fl .b c))
    (hm : lastMarks [o1, o2] [eb, ec] = false) : PE X (.Compare ea [o1, o2] [eb, ec] pos) (tE W cl fl .e (.chain o1 o2 a b c)) := by
  refine pe_mono (pe_chain (op_cmpG hu hK hw o1) (op_cmpG hu hK hw o2) ha hb hc hm) fun σ H Q q => ?_
  obtain ⟨F, ρ, τ, h, t, h', rel, p, ev, k⟩ := q
  exact chain_go rel p ev k
theorem T_chain {o1 o2 : CmpOp} {a b c : E} {ea eb ec : Expr} {pos : Pos} (hu : X.A.units + 100 < cLine) (hK : X.K = W.K) (hw : X.w = W.w) (ha : PE X ea (tE W cl fl .b a)) (hb : PE X eb (tE W cl fl .b b)) (hc : PE X ec (tE W cl fl .b c))
    (hm : lastMarks [o1, o2] [eb, ec] = false) : PT X (.Compare ea [o1, o2] [eb, ec] pos) (tT W cl fl (.chain o1 o2 a b c)) := by
  refine pt_mono (pt_chain (op_cmpG hu hK hw o1) (op_cmpG hu hK hw o2) ha hb hc hm) fun σ H Q q => ?_
  obtain ⟨F, ρ, τ, h, t, h', rel, p, ev, k⟩ := q
  refine chain_go (t := .bl t) rel p ev fun v F' ρ' H' ex p' r => ?_
  simp only [Rm, Rep] at r
  exact ⟨t, r, k F' ρ' H' ex p'⟩

/-! ### argument lists -/
theorem A_nil {m : Md} : PA X [] (tEs W cl fl m .nil) := by
  refine pa_mono pa_nil fun σ H Q q => ?_
  obtain ⟨F, ρ, τ, h, t, h', rel, p, ev, k⟩ := q
  simp only [evEs, Out.ok.injEq] at ev
  obtain ⟨rfl, rfl⟩ := ev
  refine k [] F ρ H p.ext0 p ?_
  cases m <;> simp [Rms, Reps, RepsB]
theorem A_cons {m : Md} (hm : m ≠ .f) {i : E} {is : Es} {e : Expr} {es : List Expr} (he : PE X e (tE W cl fl m i)) (hes : PA X es (tEs W cl fl m is)) (hs : notStar e = true) : PA X (e :: es) (tEs W cl fl m (.cons i is)) := by
  refine pa_mono (pa_cons he hes (by cases e <;> first | rfl | simp [notStar] at hs)) fun σ H Q q => ?_
  obtain ⟨F, ρ, τ, h, t, h', rel, p, ev, k⟩ := q
  simp only [evEs] at ev
  obtain ⟨x, h1, e1, g1⟩ := bind_ok ev
  obtain ⟨ys, h2, e2, g2⟩ := bind_ok g1
  cases g2
  refine ⟨F, ρ, τ, h, x, h1, rel, p, e1, fun v F1 ρ1 H1 x1 p1 r1 => ⟨F1, ρ1, τ, h1, ys, _, rel.ext x1 p1, p1, e2, fun vs F2 ρ2 H2 x2 p2 r2 => ?_⟩⟩
  refine k _ F2 ρ2 H2 (x1.trans x2) p2 ?_
  cases m with
  | e => simp only [Rms, Reps] at r2 ⊢; exact ⟨v, vs, rfl, Rep.stay x2.stay r1, r2⟩
  | b => simp only [Rms, RepsB] at r2 ⊢; exact ⟨v, vs, rfl, r1.imp (fun o => o.stay x2 p2) (Rep.stay x2.stay), r2⟩
  | f => exact absurd rfl hm
theorem star_dict {pins : List (Addr × Obj)} {σ : L2.St} {H : Hp} {s : Shared} {F : AS} {ρ : List Addr} {a : Addr} {ks : List PV} {bs xs : List V} {E : Value → Shared → Prop} {Q : List Value → Shared → Prop} (hc : X.calm = true) (I : Inv X pins σ H s)
    (D : DictAt W H a ks bs xs) (R : Reps W F ρ H ks bs) (hk : ks.all keyA = true) (hQ : ∀ us s' bs', Inv X pins σ H s' → Vals bs' us → Reps W F ρ H ks bs' → Q us s') : PySem.W.StarOf (model X.prog X.w) X.A E (.ref a) Q s := by
  obtain ⟨kk, vs, h1, h2, h3, lo, rk, hd, _⟩ := D.viewS I hk
  obtain ⟨ep, hat⟩ := hd.dictAt
  have hT : s.TypeIs (.ref a) "dict" := hd.typeIs
  have hl : (kk.zip xs).length = vs.length := Paired.length rk
  unfold PySem.W.StarOf notIterableAtAll
  refine wpAny_bind (wpAny_specialOf hT PySem.F.slot_dict_iter.lookup (wpAny_pure ⟨rfl, ?_⟩))
  refine PySem.W.kdu_collect (PySem.W.kdl_dict (knd := mixKind X.prog X.w) (kvs := vs) (ep := ep) lo) (I.ok.hd hc) hat (by rw [← hl]; exact h3) fun h' tk acc' hkeep hacc => ?_
  refine hQ _ _ (kk.map L2.kV) (I.kept hkeep) ?_ ?_
  · have el : acc'.toList.length = acc'.size := by simp
    refine vals_of_at (by rw [List.length_map, el, hacc.1, ← hl, List.length_zip, h2, Nat.min_self]) fun j x w g1 g2 => ?_
    obtain ⟨k, y, hky, hi⟩ := hacc.2 j w (by rw [← Array.getElem?_toList]; exact g2)
    have e0 : (kk.zip xs).map (·.1) = kk := by rw [List.map_fst_zip (by omega)]
    have e1 : kk[j]? = some k := by
      rw [← e0, KV.keys rk, List.getElem?_map, hky] <;> rfl
    rw [List.getElem?_map, e1] at g1
    cases g1
    exact keyIs_rel hi
  · have : ∀ {ks : List PV} {kk : List Key}, keysS ks = some kk → Reps W F ρ H ks (kk.map L2.kV) := by
      intro ks
      induction ks with
      | nil => intro kk e; simp only [keysS, Option.some.injEq] at e; subst e; simp [Reps]
      | cons k ks ih =>
        intro kk e
        simp only [keysS] at e
        split at e <;> cases e
        rename_i p q g1 g2
        simp only [List.map_cons, Reps]
        refine ⟨_, _, rfl, ?_, ih g2⟩
        cases k <;> simp only [keyS, Option.some.injEq, reduceCtorEq] at g1
        · subst g1; simp only [Rep]; rfl
        · subst g1; simp only [Rep]; rfl
    exact this h1
/-- *e of a list, a tuple, a dict -/
def tStarM (W : Wd) (te : TE) (t : TA) : TA := fun σ H Q => te σ H fun x H1 => (∃ p xs, x = V.ref p ∧ (SqT W.K H1 p xs ∨ SqL W.K H1 p xs) ∧ t σ H1 fun ys H2 => Q (xs ++ ys) H2) ∨
  ∃ F ρ p ks bs xs, x = V.ref p ∧ DictAt W H1 p ks bs xs ∧ Reps W F ρ H1 ks bs ∧ ks.all keyA = true ∧ ∀ bs', Reps W F ρ H1 ks bs' → t σ H1 fun ys H2 => Q (bs' ++ ys) H2
theorem pa_starM {e : Expr} {es : List Expr} {te : TE} {t : TA} {p : Pos} (hc : X.calm = true) (hK : X.K = W.K) (he : PE X e te) (hr : PA X es t) (hs : starEach (.Starred e p :: es) X.env = (true, eval e X.env) :: starEach es X.env := by rfl) : PA X (.Starred e p :: es) (tStarM W te t) := by
  refine ⟨fun pos pins s σ H Q I h => ?_⟩
  refine PySem.W.items_star (thn (he.run pins s σ H _ I h) fun v s1 ⟨y, H1, I1, ry, hh⟩ => ?_) hs
  rcases hh with ⟨a, xs, ey, hx, q⟩ | ⟨F, ρ, a, ks, bs, xs, ey, D, R, hk, q⟩
  · subst ey
    obtain rfl : v = Value.ref a := ry
    refine StX.star_any I1 (by rw [hK]; exact hx) fun us s2 I2 rv => ?_
    exact thn (hr.run pos pins s2 σ H1 _ I2 q) fun ws s3 ⟨vs, H3, I3, r3, q3⟩ => ⟨xs ++ vs, H3, I3, rv.append r3, q3⟩
  · subst ey
    obtain rfl : v = Value.ref a := ry
    refine star_dict hc I1 D R hk fun us s2 bs' I2 rv R' => ?_
    exact thn (hr.run pos pins s2 σ H1 _ I2 (q bs' R')) fun ws s3 ⟨vs, H3, I3, r3, q3⟩ => ⟨bs' ++ vs, H3, I3, rv.append r3, q3⟩
theorem A_star {i : E} {is : Es} {e : Expr} {es : List Expr} {sp : Pos} (hc : X.calm = true) (hK : X.K = W.K) (he : PE X e (tE W cl fl .b i)) (hes : PA X es (tEs W cl fl .e is)) : PA X (.Starred e sp :: es) (tEs W cl fl .e (.star i is)) := by
  refine pa_mono (pa_starM hc hK he hes) fun σ H Q q => ?_
  obtain ⟨F, ρ, τ, h, t, h', rel, p, ev, k⟩ := q
  simp only [evEs] at ev
  obtain ⟨x, h1, e1, g1⟩ := bind_ok ev
  obtain ⟨zs, h2, e2, g2⟩ := bind_ok g1
  obtain ⟨e3, rfl⟩ := of_ok e2
  obtain ⟨ys, h3, e4, g3⟩ := bind_ok g2
  cases g3
  refine ⟨F, ρ, τ, h, x, _, rel, p, e1, fun v F1 ρ1 H1 x1 p1 r1 => ?_⟩
  have fin : ∀ {xs : List V}, Reps W F1 ρ1 H1 zs xs → tEs W cl fl .e is σ H1 fun ys' H2 => Q (xs ++ ys') H2 := fun {xs} rr =>
    ⟨F1, ρ1, τ, _, ys, _, rel.ext x1 p1, p1, e4, fun vs F2 ρ2 H2 x2 p2 r2 => k _ F2 ρ2 H2 (x1.trans x2) p2 (by simp only [Rms] at r2 ⊢; exact (rr.stay x2.stay).app r2)⟩
  cases x <;> simp only [seqOf, Option.some.injEq, reduceCtorEq] at e3
  · subst e3
    obtain ⟨a, xs, rfl, ha, rr⟩ := r1.tup
    exact .inl ⟨a, xs, rfl, .inl ha, fin rr⟩
  · subst e3
    obtain ⟨a, xs, rfl, ha, rr⟩ := r1.lst
    exact .inl ⟨a, xs, rfl, .inr (SqL.of ha), fin rr⟩
  · split at e3
    · rename_i hk
      cases e3
      obtain ⟨a, bs, xs, rfl, D, R, _⟩ := r1.dct
      exact .inr ⟨F1, ρ1, a, _, bs, xs, rfl, D, R, hk, fun bs' R' => fin R'⟩
    · cases e3

/-! ### displays -/
theorem L_tup {is : Es} {es : List Expr} {j : Nat} {pos : Pos} (hes : PA X es (tEs W cl fl .e is)) : PE X (.Tuple es j pos) (tE W cl fl .e (.tup is)) := by
  refine pe_mono (pe_tupN hes) fun σ H Q q => ?_
  obtain ⟨F, ρ, τ, h, t, h', rel, p, ev, k⟩ := q
  simp only [evE] at ev
  obtain ⟨xs, h1, e1, g1⟩ := bind_ok ev
  split at g1
  · rename_i hz
    cases g1
    refine ⟨F, ρ, τ, h, xs, _, rel, p, e1, fun vs F1 ρ1 H1 x1 p1 r1 => ⟨by have := r1.length; have := szOk_le hz; omega, fun a o ha ho => ?_⟩⟩
    obtain ⟨x2, p2, r2⟩ := new_tup x1 p1 ha ho r1
    exact k _ F1 ρ1 _ x2 p2 r2
  · cases g1
theorem L_lst {is : Es} {es : List Expr} {pos : Pos} (hes : PA X es (tEs W cl fl .e is)) : PE X (.List es pos) (tE W cl fl .f (.lst is)) := by
  refine pe_mono (pe_lst hes) fun σ H Q q => ?_
  obtain ⟨F, ρ, τ, h, t, h', rel, p, ev, k⟩ := q
  simp only [evE] at ev
  obtain ⟨xs, h1, e1, g1⟩ := bind_ok ev
  split at g1
  · rename_i hz
    cases g1
    refine ⟨F, ρ, τ, h, xs, _, rel, p, e1, fun vs F1 ρ1 H1 x1 p1 r1 => ⟨by have := r1.length; have := szOk_le hz; omega, fun a ha => ?_⟩⟩
    obtain ⟨x2, p2, r2⟩ := new_lst x1 p1 ha r1
    exact k _ F1 ρ1 _ x2 p2 r2
  · cases g1
/-- a new shared list -/
theorem L_shr {is : Es} {es : List Expr} {pos : Pos} (hes : PA X es (tEs W cl fl .e is)) : PE X (.List es pos) (tE W cl fl .e (.shr is)) := by
  refine pe_mono (pe_lst hes) fun σ H Q q => ?_
  obtain ⟨F, ρ, τ, h, t, h', rel, p, ev, k⟩ := q
  simp only [evE] at ev
  obtain ⟨xs, h1, e1, g1⟩ := bind_ok ev
  split at g1
  · rename_i hz
    cases g1
    refine ⟨F, ρ, τ, h, xs, _, rel, p, e1, fun vs F1 ρ1 H1 x1 p1 r1 => ⟨by have := r1.length; have := szOk_le hz; omega, fun a ha => ?_⟩⟩
    obtain ⟨x2, p2⟩ := Ext.new' (o := .lst vs) p1 ha
    obtain ⟨n1, n2⟩ := p1.notin ha
    have st : Stay W F1 ρ1 (upd H1 a (.lst vs)) F1 (ρ1 ++ [a]) (upd H1 a (.lst vs)) := ⟨fun _ h => h, ⟨[a], rfl⟩, fun _ _ _ h => h, fun _ _ h => h, fun _ _ _ h => h⟩
    have r1' : Reps W F1 ρ1 H1 xs vs := r1
    refine k (.ref a) F1 (ρ1 ++ [a]) _ ?_ ⟨?_, fun n o b ho1 hb2 => ?_, ?_, fun b hb z => ?_, p2.tr⟩ ?_
    · obtain ⟨m, e, hm⟩ := x1.pre
      refine ⟨x1.fF, x1.new, ⟨m ++ [a], by rw [e, List.append_assoc], fun b hb => ?_⟩, fun b o h1 h2 => x2.keep b o (x1.keep b o h1 h2) ?_, fun b o h1 => ?_, fun b o h1 => x2.tup b o (x1.tup b o h1), fun b o u h1 => x2.frz b o u (x1.frz b o u h1), x1.sep, x1.tr⟩
      · rcases List.mem_append.mp hb with hb | hb
        · exact hm b hb
        · rw [List.mem_singleton] at hb; subst hb; exact x1.nn ha
      · exact x1.notin h1 h2
      · obtain ⟨o1, h2⟩ := x1.thr b o h1
        exact x2.thr b o1 h2
    · rw [List.length_append, List.length_append, p1.len]; rfl
    · have key : ∀ (o : HV) (b : Addr), ObjR W F1 ρ1 H1 o b → ObjR W F1 (ρ1 ++ [a]) (upd H1 a (.lst vs)) o b := fun o b ho => by
        cases o with
        | lst ts =>
          simp only [ObjR] at ho ⊢
          obtain ⟨ys, e, rr⟩ := ho
          refine ⟨ys, by rw [upd_ne (fun z => by rw [z, ha] at e; cases e)]; exact e, (rr.stay x2.stay).stay st⟩
        | ins _ _ => exact ho
      by_cases hn : n < ρ1.length
      · rw [List.getElem?_append_left hn] at hb2
        rw [List.getElem?_append_left (by rw [← p1.len]; exact hn)] at ho1
        exact key o b (p1.obj n o b ho1 hb2)
      · have hl : n = ρ1.length := by
          have := (List.getElem?_eq_some_iff.mp hb2).1
          rw [List.length_append] at this
          simp only [List.length_singleton] at this
          omega
        subst hl
        rw [List.getElem?_append_right (Nat.le_refl _)] at hb2
        rw [p1.len, List.getElem?_append_right (Nat.le_refl _)] at ho1
        simp only [Nat.sub_self, List.getElem?_cons_zero, Option.some.injEq] at hb2 ho1
        subst hb2; subst ho1
        simp only [ObjR]
        exact ⟨vs, upd_same, (r1'.stay x2.stay).stay st⟩
    · rw [List.nodup_append]
      refine ⟨p1.nd, by simp, fun x hx y hy e => ?_⟩
      rw [List.mem_singleton] at hy
      subst hy; subst e
      exact n1 hx
    · rcases List.mem_append.mp z with z | z
      · exact p1.sep b hb z
      · rw [List.mem_singleton] at z; subst z; exact n2 hb
    · simp only [Rm, Rep]
      exact ⟨a, rfl, by rw [← p1.len, List.getElem?_append_right (Nat.le_refl _)]; simp⟩
  · cases g1
theorem L_dnew {pos : Pos} : PE X (.Dict [] [] pos) (tE W cl fl .f .dnew) := by
  refine pe_mono pe_dnewK fun σ H Q q => ?_
  obtain ⟨F, ρ, τ, h, t, h', rel, p, ev, k⟩ := q
  simp only [evE, Out.ok.injEq] at ev
  obtain ⟨rfl, rfl⟩ := ev
  intro a ha
  obtain ⟨x2, p2⟩ := Ext.new' (o := .dK []) p ha
  obtain ⟨n1, n2⟩ := p.notin ha
  refine k _ F ρ _ x2 p2 ⟨?_, fun b _ e => by cases e; exact ha⟩
  simp only [Own]
  exact ⟨a, [], [], rfl, .inl ⟨[], rfl, rfl, by simpa using upd_same⟩, n2, n1, by simp [Reps], by simp [Reps]⟩
end
end MP

set_option Elab.async false
set_option linter.all false
set_option maxRecDepth 100000
namespace MP
open PySem PySem.Spec PyProof.Rows L2

section
variable {W : Wd} {cl : CL} {fl : List Nat} {X : Cx}
/-! ### items, cuts -/
theorem atL_get {F : AS} {ρ : List Addr} {H : Hp} {ts : List PV} {xs : List V} {i : Int} {t : PV} (r : Reps W F ρ H ts xs) (e : atL ts i = some t) : ∃ v, atI xs i = some v ∧ Rep W F ρ H t v := by
  unfold atL at e
  obtain ⟨j, h1, h2⟩ := Option.bind_eq_some_iff.mp e
  obtain ⟨v, hv, rv⟩ := r.get h2
  refine ⟨v, ?_, rv⟩
  unfold atI
  rw [show ixN xs.length i = some j by rw [← r.length]; exact h1]
  exact hv
def rIxM (W : Wd) : R2 := fun x y H Q => ∃ F ρ a ks vs bs xs k v, x = .ref a ∧ DictAt W H a ks bs xs ∧ Reps W F ρ H ks bs ∧ Reps W F ρ H vs xs ∧ dkOk k ks = true ∧ Rep W F ρ H k y ∧ look k ks vs = some v ∧
  ∀ z, Rep W F ρ H v z → Q z H
theorem dict_type {pins : List (Addr × Obj)} {σ : L2.St} {H : Hp} {s : Shared} (I : Inv X pins σ H s) {a : Addr} {ks : List PV} {bs xs : List V} (D : DictAt W H a ks bs xs) : s.TypeIs (.ref a) "dict" := by
  rcases D with ⟨kk, _, _, h3⟩ | ⟨es, h1, _⟩
  · obtain ⟨_, _, vs, _, d⟩ := dk_of I.hok h3
    exact d.typeIs
  · obtain ⟨⟨o, arr, ep, g1, g2, _, _⟩, _, _⟩ := I.hok a _ h1
    exact ⟨o, g1, g2.1⟩
theorem ix_dict (hu : X.A.units + 20 < cLine) (hK : X.K = W.K) (hw : X.w = W.w) : IxR X (rIxM W) := by
  intro value slice pins s σ H x y v u Q I rx ry h hs
  obtain ⟨F, ρ, a, ks, vs, bs, xs, k, v', rfl, D, R, Rv, ok, rk, e, q⟩ := h
  cases rx
  exact tail_any (dict_type I D) PySem.F.slot_dict_getitem.lookup (dm_getItem hu I hK hw D R Rv ok rk ry e fun z w' s' I' r1 r2 => ⟨z, H, I', r1, q z r2⟩) hs
theorem plainIx_of {e : Expr} (h : plainIxE e = true) : PlainIx e := by
  intro o i
  cases e <;> first | rfl | simp [plainIxE] at h
theorem L_idx {a b : E} {ea eb : Expr} {pos : Pos} (hu : X.A.units + 20 < cLine) (hK : X.K = W.K) (hw : X.w = W.w) (ha : PE X ea (tE W cl fl .b a)) (hb : PE X eb (tE W cl fl .e b)) (hp : plainIxE eb = true) :
    PE X (.Subscript ea eb pos) (tE W cl fl .e (.idx a b)) := by
  refine pe_mono (pe_ix ((ix_list (X := X)).or ((ix_tup (X := X)).or (ix_dict hu hK hw))) ha hb (plainIx_of hp)) fun σ H Q q => ?_
  obtain ⟨F, ρ, τ, h, t, h', rel, p, ev, k⟩ := q
  simp only [evE] at ev
  refine two_ (n := .e) (by intro z; cases z) rel p ev fun x y h2 g0 v w F' ρ' H' ex p' r1 hr2 => ?_
  obtain ⟨H1, r2, _⟩ := hr2
  obtain ⟨e1, rfl⟩ := of_ok g0
  unfold idxV at e1
  split at e1
  · obtain ⟨c, xs, rfl, hc, rr⟩ := r1.lst
    obtain ⟨z, hz, rz⟩ := atL_get rr e1
    exact .inl ⟨c, xs, _, z, rfl, r2.int, SqL.of hc, hz, k z F' ρ' H' ex p' rz⟩
  · obtain ⟨c, xs, rfl, hc, rr⟩ := r1.tup
    obtain ⟨z, hz, rz⟩ := atL_get rr e1
    exact .inr (.inl ⟨c, xs, _, z, rfl, r2.int, by rw [hK]; exact hc, hz, k z F' ρ' H' ex p' rz⟩)
  · split at e1
    · rename_i ok
      obtain ⟨c, bs, xs, rfl, D, R, Rv⟩ := r1.dct
      exact .inr (.inr ⟨F', ρ', c, _, _, bs, xs, y, t, rfl, D, R, Rv, ok, key_rep ok r2, e1, fun z rz => k z F' ρ' H' ex p' rz⟩)
    · cases e1
  · rename_i n i
    split at e1
    · rename_i ts hn
      obtain ⟨c, rfl, hc⟩ := r1.ref
      have := p'.obj n _ c hn hc
      simp only [ObjR] at this
      obtain ⟨xs, hx, rr⟩ := this
      obtain ⟨z, hz, rz⟩ := atL_get rr e1
      exact .inl ⟨c, xs, _, z, rfl, r2.int, SqL.of hx, hz, k z F' ρ' H' ex p' rz⟩
    · cases e1
  · cases e1
theorem cut_reps {F : AS} {ρ : List Addr} {H : Hp} {ts : List PV} {xs : List V} (r : Reps W F ρ H ts xs) (lo hi : Option Int) : Reps W F ρ H (cut ts lo hi) (cutV xs lo hi) := by
  unfold cut cutV
  rw [r.length]
  exact (r.drop _).take _
/-- a part of a cut -/
def tPt (W : Wd) (cl : CL) (fl : List Nat) (i : E) : TO := fun σ H Q => ∃ F ρ τ h t h' o, Rel W F ρ fl τ σ H ∧ Hps W F ρ H h ∧ evE cl i τ h = .ok t h' ∧ partV t = some o ∧
  ∀ F' ρ' H', Ext F ρ H F' ρ' H' → Hps W F' ρ' H' h' → Q o H'
theorem po_none' {i : E} (h : same1n i = true) : PO X none (tPt W cl fl i) := by
  refine ⟨fun pins s σ H Q I q => po_none.run pins s σ H Q I ?_⟩
  obtain ⟨F, ρ, τ, h1, t, h', o, rel, p, ev, e, k⟩ := q
  cases i <;> simp only [same1n, Bool.false_eq_true] at h
  rename_i v
  cases v <;> simp only [same1n, Bool.false_eq_true] at h
  simp only [evE, Out.ok.injEq] at ev
  obtain ⟨rfl, rfl⟩ := ev
  cases e
  exact k F ρ H p.ext0 p
theorem po_some' {i : E} {e : Expr} (he : PE X e (tE W cl fl .e i)) : PO X (some e) (tPt W cl fl i) := by
  constructor
  intro pins s σ H Q I q
  obtain ⟨F, ρ, τ, h, t, h', o, rel, p, ev, ep, k⟩ := q
  rw [evalPart_some]
  refine thn (he.run pins s σ H (fun v H' => (t = .non → v = .non) ∧ (∀ j, t = .int j → v = .int j) ∧ Q o H') I ⟨F, ρ, τ, h, t, h', rel, p, ev, fun v F' ρ' H' ex p' r => ?_⟩) fun u s' hh => ?_
  · refine ⟨fun z => ?_, fun j z => ?_, k F' ρ' H' ex p'⟩
    · subst z; exact r.non
    · subst z; exact r.int
  · obtain ⟨v, H', I', rv, h1, h2, q⟩ := hh
    cases t <;> simp only [partV, Option.some.injEq, reduceCtorEq] at ep
    · have := h1 rfl
      subst this; subst ep
      obtain rfl : u = Value.none := rv
      exact ⟨none, H', I', .none, q⟩
    · rename_i j
      have := h2 j rfl
      subst this; subst ep
      obtain ⟨tk, rfl⟩ := rv
      exact ⟨some j, H', I', .int j tk, q⟩
theorem cut_whole {F : AS} {ρ : List Addr} {H : Hp} {ts : List PV} {xs : List V} {lo hi : Option Int} (rr : Reps W F ρ H ts xs) (hw : HT.sIx xs.length 0 lo = 0 ∧ HT.sIx xs.length xs.length hi = xs.length) : cut ts lo hi = ts := by
  unfold cut
  rw [rr.length]
  obtain ⟨w1, w2⟩ := hw
  have w1' : clip xs.length 0 lo = 0 := w1
  have w2' : clip xs.length xs.length hi = xs.length := w2
  rw [w1', w2', List.drop_zero, Nat.sub_zero, List.take_of_length_le (by rw [rr.length]; exact Nat.le_refl _)]
theorem L_slc {a lo hi : E} {ea : Expr} {el eh : Option Expr} {p2 pos : Pos} (hK : X.K = W.K) (ha : PE X ea (tE W cl fl .b a)) (hl : PO X el (tPt W cl fl lo)) (hh : PO X eh (tPt W cl fl hi)) :
    PE X (.Subscript ea (.Slice el eh none p2) pos) (tE W cl fl .f (.slc a lo hi)) := by
  refine pe_mono (pe_slice ((sl_list (X := X)).or (sl_tupN (X := X))) ha hl hh) fun σ H Q q => ?_
  obtain ⟨F, ρ, τ, h, t, h', rel, p, ev, k⟩ := q
  simp only [evE] at ev
  obtain ⟨x, h1, e1, g1⟩ := bind_ok ev
  obtain ⟨l, h2, e2, g2⟩ := bind_ok g1
  obtain ⟨u, h3, e3, g3⟩ := bind_ok g2
  obtain ⟨e4, rfl⟩ := of_ok g3
  obtain ⟨lo', e5, e6⟩ := Option.bind_eq_some_iff.mp e4
  obtain ⟨hi', e7, e8⟩ := Option.bind_eq_some_iff.mp e6
  refine ⟨F, ρ, τ, h, x, h1, rel, p, e1, fun v F1 ρ1 H1 x1 p1 r1 => ⟨F1, ρ1, τ, h1, l, h2, lo', rel.ext x1 p1, p1, e2, e5, fun F2 ρ2 H2 x2 p2 => ⟨F2, ρ2, τ, h2, u, _, hi', (rel.ext x1 p1).ext x2 p2, p2, e3, e7, fun F3 ρ3 H3 x3 p3 => ?_⟩⟩⟩
  have x23 := x2.trans x3
  have x13 := x1.trans x23
  have r3 : Rm .b W F3 ρ3 H1 H3 x v := r1.imp (fun o => o.stay x23 p3) (Rep.stay x23.stay)
  cases x <;> simp only [slcV, Option.some.injEq, reduceCtorEq] at e8
  · subst e8
    obtain ⟨c, xs, rfl, hc, rr⟩ := r3.tupN
    refine .inr ⟨c, xs, rfl, by rw [hK]; exact hc.t, fun hw => ?_, fun _ c2 o2 hc2 ho2 => ?_⟩
    · rw [cut_whole rr hw] at k
      exact k _ F3 ρ3 H3 x13 p3 (Rm.val _ rfl (Rep.tupO hc rr))
    · obtain ⟨x4, p4, r4⟩ := new_tup x13 p3 hc2 ho2 (cut_reps rr lo' hi')
      exact k _ F3 ρ3 _ x4 p4 (Rm.val _ rfl r4)
  · subst e8
    obtain ⟨c, xs, rfl, hc, rr⟩ := r3.lst
    refine .inl ⟨c, xs, rfl, SqL.of hc, fun c2 hc2 => ?_⟩
    obtain ⟨x4, p4, r4⟩ := new_lst x13 p3 hc2 (cut_reps rr lo' hi')
    exact k _ F3 ρ3 _ x4 p4 r4
  · subst e8
    have rs : Rep W F3 ρ3 H3 (.scr _) v := r3.imm rfl
    simp only [Rep] at rs
    obtain ⟨c, xs, rfl, hc, rr⟩ := rs
    refine .inl ⟨c, xs, rfl, by rw [hK]; exact hc.sq, fun c2 hc2 => ?_⟩
    obtain ⟨x4, p4, r4⟩ := new_lst x13 p3 hc2 (cut_reps rr lo' hi')
    exact k _ F3 ρ3 _ x4 p4 r4
theorem L_rev {a : E} {ea : Expr} {j : Nat} {p1 p2 p3 pos : Pos} (hK : X.K = W.K) (ha : PE X ea (tE W cl fl .b a)) :
    PE X (.Subscript ea (.Slice none none (some (.UnaryOp .USub (.Constant (.int 1) j p1) p2)) p3) pos) (tE W cl fl .f (.rev a)) := by
  refine pe_mono (pe_revA ha) fun σ H Q q => ?_
  obtain ⟨F, ρ, τ, h, t, h', rel, p, ev, k⟩ := q
  simp only [evE] at ev
  obtain ⟨x, h1, e1, g1⟩ := bind_ok ev
  obtain ⟨e4, rfl⟩ := of_ok g1
  refine ⟨F, ρ, τ, h, x, _, rel, p, e1, fun v F1 ρ1 H1 x1 p1 r1 => ?_⟩
  cases x <;> simp only [revV, Option.some.injEq, reduceCtorEq] at e4
  · subst e4
    obtain ⟨c, xs, rfl, hc, rr⟩ := r1.tup
    refine ⟨c, xs, rfl, .inr ⟨by rw [hK]; exact hc, fun c2 o2 hc2 ho2 => ?_⟩⟩
    obtain ⟨x4, p4, r4⟩ := new_tup x1 p1 hc2 ho2 rr.rev
    exact k _ F1 ρ1 _ x4 p4 (Rm.val _ rfl r4)
  · subst e4
    obtain ⟨c, xs, rfl, hc, rr⟩ := r1.lst
    refine ⟨c, xs, rfl, .inl ⟨SqL.of hc, fun c2 hc2 => ?_⟩⟩
    obtain ⟨x4, p4, r4⟩ := new_lst x1 p1 hc2 rr.rev
    exact k _ F1 ρ1 _ x4 p4 r4

/-! ### calls of built-ins -/
/-- what a built-in gives back by values, the arguments in mode b -/
structure BiR (W : Wd) (X : Cx) (fn : Value) (f : BI) : Prop where
  run : ∀ (pins : List (Addr × Obj)) (s : Shared) (σ : L2.St) (H : Hp) (F : AS) (ρ : List Addr) (h : Hs) (ts : List PV) (t : PV) (vs : List V) (us : List Value) (Q : VK),
    Inv X pins σ H s → Hps W F ρ H h → biV h f ts = some t → RepsB W F ρ H ts vs → Vals vs us →
    (∀ v F' H', Ext F ρ H F' ρ H' → Hps W F' ρ H' h → Rm .f W F' ρ H H' t v → Q v H') →
    wpAny (model X.prog X.w) X.A (call fn us) (EP X pins σ Q) X.xe s
def rBi (W : Wd) (f : BI) : List V → Hp → VK → Prop := fun vs H Q => ∃ F ρ h ts t, Hps W F ρ H h ∧ biV h f ts = some t ∧ RepsB W F ρ H ts vs ∧
  ∀ v F' H', Ext F ρ H F' ρ H' → Hps W F' ρ H' h → Rm .f W F' ρ H H' t v → Q v H'
theorem BiR.callR {fn : Value} {f : BI} (b : BiR W X fn f) : CallR X fn (rBi W f) := by
  intro pins s σ H vs us Q I r h
  obtain ⟨F, ρ, hh, ts, t, p, e, rb, k⟩ := h
  exact b.run pins s σ H F ρ hh ts t vs us Q I p e rb r k
theorem bi_go {f : BI} {is : Es} {σ : L2.St} {H : Hp} {Q : VK} (q : tE W cl fl .f (.bi f is) σ H Q) : tCB (rBi W f) (tEs W cl fl .b is) σ H Q := by
  obtain ⟨F, ρ, τ, h, t, h', rel, p, ev, k⟩ := q
  simp only [evE] at ev
  obtain ⟨xs, h1, e1, g1⟩ := bind_ok ev
  obtain ⟨e2, rfl⟩ := of_ok g1
  exact ⟨F, ρ, τ, h, xs, _, rel, p, e1, fun vs F1 ρ1 H1 x1 p1 r1 => ⟨F1, ρ1, _, xs, t, p1, e2, r1, fun v F2 H2 x2 p2 r2 => k v F2 ρ1 H2 (x1.trans x2) p2 ⟨r2.1, fun a m e => x1.nn (r2.2 a m e)⟩⟩⟩
theorem L_biB {f : BI} {is : Es} {x : Str} {id : String} {e : Expr} {es : List Expr} {pp pos : Pos} (b : BiR W X (.builtin id) f) (hg : Gl X x) (hm : X.mg x = none) (hv : bootBuiltins x = some (.builtin id)) (ha : PA X (e :: es) (tEs W cl fl .b is))
    (hn : x ≠ "__name__") (hd : (x == ("__debug__" : Str)) = false) (he : starEach (e :: es) X.env = (false, eval e X.env) :: starEach es X.env) (hp : (backTo pos (starEach es X.env)).any (·.1) = false) :
    PE X (.Call (.Name x pp) (e :: es) [] pos) (tE W cl fl .f (.bi f is)) := pe_mono (pe_callB b.callR hg hm hv ha hn hd he hp) fun _ _ _ q => bi_go q
theorem L_biT {f : BI} {is : Es} {x : Str} {id : String} {e : Expr} {es : List Expr} {pp pos : Pos} (b : BiR W X (.type id) f) (hg : Gl X x) (hm : X.mg x = none) (hv : bootBuiltins x = some (.type id)) (ha : PA X (e :: es) (tEs W cl fl .b is))
    (hn : x ≠ "__name__") (hd : (x == ("__debug__" : Str)) = false) (he : starEach (e :: es) X.env = (false, eval e X.env) :: starEach es X.env) (hp : (backTo pos (starEach es X.env)).any (·.1) = false) :
    PE X (.Call (.Name x pp) (e :: es) [] pos) (tE W cl fl .f (.bi f is)) := pe_mono (pe_callTy b.callR hg hm hv ha hn hd he hp) fun _ _ _ q => bi_go q
end
end MP

set_option Elab.async false
set_option linter.all false
set_option maxRecDepth 100000
namespace MP
open PySem PySem.Spec PyProof.Rows L2

section
variable {W : Wd} {cl : CL} {fl : List Nat} {X : Cx} {F : AS} {ρ : List Addr} {H : Hp}
theorem rb1 {t : PV} {vs : List V} (r : RepsB W F ρ H [t] vs) : ∃ v, vs = [v] ∧ Rm .b W F ρ H H t v := by
  simp only [RepsB] at r
  obtain ⟨y, ys, rfl, h, rfl⟩ := r
  exact ⟨y, rfl, h⟩
theorem rb2 {t u : PV} {vs : List V} (r : RepsB W F ρ H [t, u] vs) : ∃ v w, vs = [v, w] ∧ Rm .b W F ρ H H t v ∧ Rm .b W F ρ H H u w := by
  simp only [RepsB] at r
  obtain ⟨y, ys, rfl, h, z, zs, rfl, h2, rfl⟩ := r
  exact ⟨y, z, rfl, h, h2⟩
theorem Rm.fv {t : PV} {v : V} (hm : isMut t = false) (r : Rep W F ρ H t v) : Rm .f W F ρ H H t v := Rm.val .f hm r
/-- by a rule that stands already -/
theorem BiR.by {fn : Value} {f : BI} {r : List V → Hp → VK → Prop} (c : CallR X fn r) (h : ∀ (F : AS) (ρ : List Addr) (H : Hp) (hs : Hs) (ts : List PV) (t : PV) (vs : List V) (Q : VK), Hps W F ρ H hs → biV hs f ts = some t → RepsB W F ρ H ts vs →
    (∀ v F' H', Ext F ρ H F' ρ H' → Hps W F' ρ H' hs → Rm .f W F' ρ H H' t v → Q v H') → r vs H Q) : BiR W X fn f :=
  ⟨fun pins s σ H F ρ hs ts t vs us Q I p e rb r k => c pins s σ H vs us Q I r (h F ρ H hs ts t vs Q p e rb k)⟩
theorem BiR.split {fn : Value} {f : BI} (h : ∀ (pins : List (Addr × Obj)) (s : Shared) (σ : L2.St) (H : Hp) (F : AS) (ρ : List Addr) (h : Hs) (ts : List PV) (t : PV) (vs : List V) (us : List Value) (Q : VK),
    Inv X pins σ H s → Hps W F ρ H h → biV h f ts = some t → RepsB W F ρ H ts vs → Vals vs us →
    (∀ v F' H', Ext F ρ H F' ρ H' → Hps W F' ρ H' h → Rm .f W F' ρ H H' t v → Q v H') →
    wpAny (model X.prog X.w) X.A (call fn us) (EP X pins σ Q) X.xe s) : BiR W X fn f := ⟨h⟩
theorem bi_abs : BiR W X (.builtin "abs") .abs := BiR.by call_abs fun F ρ H hs ts t vs Q p e rb k => by
  unfold biV at e
  split at e <;> try contradiction
  cases e
  obtain ⟨v, rfl, r⟩ := rb1 rb
  rw [r.int]
  exact ⟨_, rfl, k _ F H p.ext0 p (Rm.fv rfl (by simp only [Rep]))⟩
theorem bi_int : BiR W X (.type "int") .int := BiR.by call_int1 fun F ρ H hs ts t vs Q p e rb k => by
  unfold biV at e
  split at e <;> try contradiction
  · cases e
    obtain ⟨v, rfl, r⟩ := rb1 rb
    rw [r.int]
    exact .inl ⟨_, rfl, k _ F H p.ext0 p (Rm.fv rfl (by simp only [Rep]))⟩
  · cases e
    obtain ⟨v, rfl, r⟩ := rb1 rb
    rw [r.bl]
    exact .inr ⟨_, rfl, k _ F H p.ext0 p (Rm.fv rfl (by simp only [Rep]))⟩
theorem bi_tuple (hK : X.K = W.K) : BiR W X (.type "tuple") .tuple := BiR.by call_tupleN fun F ρ H hs ts t vs Q p e rb k => by
  unfold biV at e
  split at e <;> try contradiction
  · cases e
    obtain ⟨v, rfl, r⟩ := rb1 rb
    obtain ⟨a, xs, rfl, ha, rr⟩ := r.lst
    refine ⟨a, xs, rfl, .inl ⟨SqL.of ha, fun l o hl ho => ?_⟩⟩
    obtain ⟨x2, p2, r2⟩ := new_tup p.ext0 p hl ho rr
    exact k _ F _ x2 p2 (Rm.val .f rfl r2)
  · cases e
    obtain ⟨v, rfl, r⟩ := rb1 rb
    obtain ⟨a, xs, rfl, ha, rr⟩ := r.tupN
    exact ⟨a, xs, rfl, .inr ⟨by rw [hK]; exact ha.t, k _ F H p.ext0 p (Rm.fv rfl (Rep.tupO ha rr))⟩⟩
theorem bi_list (hK : X.K = W.K) : BiR W X (.type "list") .list := BiR.by call_list_of fun F ρ H hs ts t vs Q p e rb k => by
  unfold biV at e
  split at e <;> try contradiction
  · cases e
    obtain ⟨v, rfl, r⟩ := rb1 rb
    obtain ⟨a, xs, rfl, ha, rr⟩ := r.lst
    refine ⟨a, xs, rfl, .inl (SqL.of ha), fun l hl => ?_⟩
    obtain ⟨x2, p2, r2⟩ := new_lst p.ext0 p hl rr
    exact k _ F _ x2 p2 r2
  · cases e
    obtain ⟨v, rfl, r⟩ := rb1 rb
    obtain ⟨a, xs, rfl, ha, rr⟩ := r.tup
    refine ⟨a, xs, rfl, .inr (by rw [hK]; exact ha), fun l hl => ?_⟩
    obtain ⟨x2, p2, r2⟩ := new_lst p.ext0 p hl rr
    exact k _ F _ x2 p2 r2
theorem bi_sum (hc : X.calm = true) : BiR W X (.builtin "sum") .sum := BiR.by (cr_sum hc) fun F ρ H hs ts t vs Q p e rb k => by
  unfold biV at e
  split at e <;> try contradiction
  obtain ⟨v, rfl, r⟩ := rb1 rb
  obtain ⟨a, xs, rfl, ha, rr⟩ := r.lst
  obtain ⟨is, e1, rfl⟩ := Option.map_eq_some_iff.mp e
  rw [rr.ints e1] at ha
  exact ⟨a, is, rfl, SqL.of ha, k _ F H p.ext0 p (Rm.fv rfl (by simp only [Rep]))⟩
theorem bi_all (hc : X.calm = true) : BiR W X (.builtin "all") .all := BiR.by (cr_all hc) fun F ρ H hs ts t vs Q p e rb k => by
  unfold biV at e
  split at e <;> try contradiction
  obtain ⟨v, rfl, r⟩ := rb1 rb
  obtain ⟨a, xs, rfl, ha, rr⟩ := r.lst
  obtain ⟨is, e1, rfl⟩ := Option.map_eq_some_iff.mp e
  rw [rr.bools e1] at ha
  exact ⟨a, is, rfl, SqL.of ha, k _ F H p.ext0 p (Rm.fv rfl (by simp only [Rep]))⟩
theorem bi_any (hc : X.calm = true) : BiR W X (.builtin "any") .any := BiR.by (cr_any hc) fun F ρ H hs ts t vs Q p e rb k => by
  unfold biV at e
  split at e <;> try contradiction
  obtain ⟨v, rfl, r⟩ := rb1 rb
  obtain ⟨a, xs, rfl, ha, rr⟩ := r.lst
  obtain ⟨is, e1, rfl⟩ := Option.map_eq_some_iff.mp e
  rw [rr.bools e1] at ha
  exact ⟨a, is, rfl, SqL.of ha, k _ F H p.ext0 p (Rm.fv rfl (by simp only [Rep]))⟩
theorem minI_ok : ∀ (r : List Int) (m : Int), (minI m r = m ∨ minI m r ∈ r) ∧ minI m r ≤ m ∧ ∀ y ∈ r, minI m r ≤ y
  | [], m => ⟨.inl rfl, Int.le_refl _, fun _ h => absurd h (by simp)⟩
  | i :: r, m => by
    obtain ⟨h1, h2, h3⟩ := minI_ok r (if i < m then i else m)
    simp only [minI]
    refine ⟨?_, ?_, fun y hy => ?_⟩
    · rcases h1 with h1 | h1
      · rw [h1]; split
        · exact .inr (by simp)
        · exact .inl rfl
      · exact .inr (List.mem_cons_of_mem _ h1)
    · refine Int.le_trans h2 ?_; split <;> omega
    · rcases List.mem_cons.mp hy with rfl | hy
      · refine Int.le_trans h2 ?_; split <;> omega
      · exact h3 y hy
theorem maxI_ok : ∀ (r : List Int) (m : Int), (maxI m r = m ∨ maxI m r ∈ r) ∧ m ≤ maxI m r ∧ ∀ y ∈ r, y ≤ maxI m r
  | [], m => ⟨.inl rfl, Int.le_refl _, fun _ h => absurd h (by simp)⟩
  | i :: r, m => by
    obtain ⟨h1, h2, h3⟩ := maxI_ok r (if m < i then i else m)
    simp only [maxI]
    refine ⟨?_, ?_, fun y hy => ?_⟩
    · rcases h1 with h1 | h1
      · rw [h1]; split
        · exact .inr (by simp)
        · exact .inl rfl
      · exact .inr (List.mem_cons_of_mem _ h1)
    · refine Int.le_trans ?_ h2; split <;> omega
    · rcases List.mem_cons.mp hy with rfl | hy
      · refine Int.le_trans ?_ h2; split <;> omega
      · exact h3 y hy
theorem bi_max (hc : X.calm = true) : BiR W X (.builtin "max") .max := BiR.by (cr_max hc) fun F ρ H hs ts t vs Q p e rb k => by
  unfold biV at e
  split at e <;> try contradiction
  obtain ⟨v, rfl, r⟩ := rb1 rb
  obtain ⟨a, xs, rfl, ha, rr⟩ := r.lst
  split at e <;> try contradiction
  cases e
  rename_i i is e1
  rw [rr.ints e1] at ha
  refine ⟨a, i :: is, rfl, SqL.of ha, by simp, fun m hm hle => ?_⟩
  obtain ⟨h1, h2, h3⟩ := maxI_ok is i
  have he : m = maxI i is := by
    refine Int.le_antisymm ?_ (hle _ ?_)
    · rcases List.mem_cons.mp hm with rfl | hm
      · exact h2
      · exact h3 m hm
    · rcases h1 with h1 | h1
      · rw [h1]; simp
      · exact List.mem_cons_of_mem _ h1
  rw [he]
  exact k _ F H p.ext0 p (Rm.fv rfl (by simp only [Rep]))
theorem bi_min (hc : X.calm = true) : BiR W X (.builtin "min") .min := BiR.by ((cr_min hc).or (call_min2 hc)) fun F ρ H hs ts t vs Q p e rb k => by
  unfold biV at e
  split at e <;> try contradiction
  · obtain ⟨v, rfl, r⟩ := rb1 rb
    obtain ⟨a, xs, rfl, ha, rr⟩ := r.lst
    split at e <;> try contradiction
    cases e
    rename_i i is e1
    rw [rr.ints e1] at ha
    refine .inl ⟨a, i :: is, rfl, SqL.of ha, by simp, fun m hm hle => ?_⟩
    obtain ⟨h1, h2, h3⟩ := minI_ok is i
    have he : m = minI i is := by
      refine Int.le_antisymm (hle _ ?_) ?_
      · rcases h1 with h1 | h1
        · rw [h1]; simp
        · exact List.mem_cons_of_mem _ h1
      · rcases List.mem_cons.mp hm with rfl | hm
        · exact h2
        · exact h3 m hm
    rw [he]
    exact k _ F H p.ext0 p (Rm.fv rfl (by simp only [Rep]))
  · cases e
    obtain ⟨v, w, rfl, r1, r2⟩ := rb2 rb
    rw [r1.int, r2.int]
    exact .inr ⟨_, _, rfl, k _ F H p.ext0 p (Rm.fv rfl (by simp only [Rep]))⟩
theorem bi_len (hK : X.K = W.K) (hw : X.w = W.w) : BiR W X (.builtin "len") .len := BiR.split fun pins s σ H F ρ h ts t vs us Q I p e rb r k => by
  unfold biV at e
  split at e <;> try contradiction
  · cases e
    obtain ⟨v, rfl, rm⟩ := rb1 rb
    obtain ⟨a, xs, rfl, ha, rr⟩ := rm.lst
    rw [rr.length] at k
    exact call_len_seq pins s σ H _ us Q I r ⟨a, xs, rfl, .inl (SqL.of ha), k _ F H p.ext0 p (Rm.fv rfl (by simp only [Rep]))⟩
  · cases e
    obtain ⟨v, rfl, rm⟩ := rb1 rb
    obtain ⟨a, xs, rfl, ha, rr⟩ := rm.tup
    rw [rr.length] at k
    exact call_len_seq pins s σ H _ us Q I r ⟨a, xs, rfl, .inr (by rw [hK]; exact ha), k _ F H p.ext0 p (Rm.fv rfl (by simp only [Rep]))⟩
  · cases e
    obtain ⟨v, rfl, rm⟩ := rb1 rb
    obtain ⟨a, bs, xs, rfl, D, R, Rv⟩ := rm.dct
    obtain ⟨u, rfl, ru⟩ := vals1 r
    cases ru
    have hkl := R.length
    rcases id D with ⟨kk, h1, h2, h3⟩ | ⟨es, h1, h2, h3, h4, h5, h6, h7, h8, h9⟩
    · obtain ⟨z, hd, vs, rel, d⟩ := dk_of I.hok h3
      have e1 := keysS_len h1
      have e2 : ((kk.zip xs).length : Int) = _ := congrArg Nat.cast (show (kk.zip xs).length = _ from by rw [List.length_zip, h2, Nat.min_self, ← h2, e1])
      refine d_len I (.inl h3) fun t s' I' => ⟨.int _, H, I', ⟨t, rfl⟩, ?_⟩
      rw [e2]
      exact k _ F H p.ext0 p (Rm.fv rfl (by simp only [Rep]))
    · obtain ⟨es', g1, g2, g3, g4, g5, g6, g7, g8⟩ := D.viewT I hK hw R h9
      have e1 := nks_len g1
      rw [List.length_map] at e1
      refine PySem.call_len_dictH g5 g7 (by have := sizeLine_eq; omega) ⟨.int es'.length, H, (I.tok _).tok _, ⟨_, rfl⟩, ?_⟩
      rw [e1]
      exact k _ F H p.ext0 p (Rm.fv rfl (by simp only [Rep]))
  · split at e <;> try contradiction
    cases e
    rename_i n _ _ ts hn
    obtain ⟨v, rfl, rm⟩ := rb1 rb
    obtain ⟨a, rfl, ha⟩ := rm.ref
    have := p.obj n _ a hn ha
    simp only [ObjR] at this
    obtain ⟨xs, hx, rr⟩ := this
    rw [rr.length] at k
    exact call_len_seq pins s σ H _ us Q I r ⟨a, xs, rfl, .inl (SqL.of hx), k _ F H p.ext0 p (Rm.fv rfl (by simp only [Rep]))⟩
end
end MP

set_option Elab.async false
set_option linter.all false
set_option maxRecDepth 100000
namespace MP
open PySem PySem.Spec PyProof.Rows L2

section
variable {prog : Program} {w : World} {A : Around} {E : Value → Shared → Prop} {s : Shared}
/-- sorted(x), x a list or a tuple -/
theorem sorted_seq {l : Addr} {T : String} {o : Obj} {n : Nat} {vs : List Value} {ltv : Value → Value → Bool} {Q : Value → Shared → Prop} (O : SrtO.Swo ltv) (hT : T = "list" ∨ T = "tuple") (ho : s.heap.get? l = some o) (hc : o.cls = .type T) (hd : o.data = .seq vs.toArray n) (hz : vs.length ≤ sizeLine)
    (hS : 2 ≤ vs.length → ∀ (h₁ : Heap) (a : Addr), h₁.get? a = some (seqObj "list" vs.toArray 0) → (∀ b o, s.heap.get? b = some o → b ≠ a ∧ h₁.get? b = some o) → SrtO.SortableO prog w A.in1.in1 { s with heap := h₁ } a vs ltv)
    (fin : ∀ (out : List Value) (g h' : Heap) (p : Addr), SrtO.Srtd ltv out → SrtO.Stb ltv out vs → (∀ b o, s.heap.get? b = some o → g.get? b = some o) → (∀ b o, g.get? b = some o → h'.get? b = some o) → g.objs.size ≤ p → (∃ n, h'.get? p = some (seqObj "list" out.toArray n)) → Q (.ref p) { s with heap := h' }) :
    wpAny (model prog w) A (call (.builtin "sorted") [.ref l]) Q E s := by
  have hz' : vs.toArray.size ≤ sizeLine := by rw [List.size_toArray]; exact hz
  apply Calls.call_function_entry kind_sorted plain_sorted entry_sorted (args_sorted1 _)
  show wpAny _ _ (checkCount "sorted" 1 1 _ >>= _) _ _ _
  apply wpAny_bind
  apply wpAny_pure
  apply wpAny_bind
  apply wpAny_collect_seq l hT ho hc hd (hsz := hz')
  intro g kg
  apply wpAny_bind
  apply wpAny_newList (hsz := by simpa using hz)
  have e1 : (g.push (seqObj "list" vs.toArray 0)).get? g.objs.size = some (seqObj "list" vs.toArray 0) := Heap.get?_push_size _ rfl
  have e0 : ∀ b o, g.get? b = some o → b ≠ g.objs.size ∧ (g.push (seqObj "list" vs.toArray 0)).get? b = some o := fun b o q => ⟨Nat.ne_of_lt (Heap.lt_size q), Heap.get?_push_of_some _ q⟩
  have e2 : ∀ b o, s.heap.get? b = some o → b ≠ g.objs.size ∧ (g.push (seqObj "list" vs.toArray 0)).get? b = some o := fun b o q => e0 b o (kg b o q)
  refine wpAny_bind (wpAny_holding (wpAny_call_entry slot_list_sort ⟨_, e1, rfl⟩ entry_list_sort (SrtO.list_sort_ord O e1 hz (fun h2 => hS h2 _ _ e1 e2) fun out q1 q2 => ⟨_, rfl, ?_⟩) (args_list_sort _)))
  obtain ⟨c, hc2⟩ := sortedHeap_at (out := out.toArray) e1
  apply wpAny_pure
  refine ⟨_, rfl, fin out g _ g.objs.size q1 q2 kg (fun b u q => ?_) (Nat.le_refl _) ⟨c, hc2⟩⟩
  obtain ⟨n1, n2⟩ := e0 b u q
  rw [sortedHeap_old n1 (by rw [size_push']; exact Nat.lt_succ_of_lt (Heap.lt_size q))]
  exact n2
/-- the pair at v -/
def pairAt (h : Heap) (v : Value) : Int × Int := match v with
  | .ref a => (match h.get? a with
    | some o => (match o.data with
      | .seq its _ => (match its.toList with
        | [.int x _, .int y _] => (x, y)
        | _ => (0, 0))
      | _ => (0, 0))
    | none => (0, 0))
  | _ => (0, 0)
theorem pairAt_eq {h : Heap} {v : Value} {x y : Int} (p : Srt.IsPair h v x y) : pairAt h v = (x, y) := by
  obtain ⟨a, o, t, u, n, rfl, ho, hc, hd⟩ := p
  simp only [pairAt, ho, hd]
theorem pairAt_is {h : Heap} {v : Value} {x y : Int} (p : Srt.IsPair h v x y) : Srt.IsPair h v (pairAt h v).1 (pairAt h v).2 := by rw [pairAt_eq p]; exact p
end

/-! ### sorted lists are the only ones -/
theorem insI_perm (i : Int) : ∀ l, (insI i l).Perm (i :: l)
  | [] => .refl _
  | j :: r => by
    simp only [insI]
    split
    · exact .refl _
    · exact ((insI_perm i r).cons j).trans (.swap i j r)
theorem sortI_perm : ∀ l, (sortI l).Perm l
  | [] => .refl _
  | i :: r => by
    simp only [sortI]
    exact (insI_perm i _).trans ((sortI_perm r).cons i)
theorem insI_sorted (i : Int) : ∀ l, l.Pairwise (· ≤ ·) → (insI i l).Pairwise (· ≤ ·)
  | [], _ => by simp [insI]
  | j :: r, h => by
    simp only [insI]
    split
    · rename_i hij
      refine List.pairwise_cons.mpr ⟨fun y hy => ?_, h⟩
      rcases List.mem_cons.mp hy with rfl | hy
      · exact hij
      · exact Int.le_trans hij ((List.pairwise_cons.mp h).1 y hy)
    · rename_i hij
      refine List.pairwise_cons.mpr ⟨fun y hy => ?_, insI_sorted i r (List.pairwise_cons.mp h).2⟩
      rcases List.mem_cons.mp ((insI_perm i r).mem_iff.mp hy) with rfl | hy
      · omega
      · exact (List.pairwise_cons.mp h).1 y hy
theorem sortI_sorted : ∀ l, (sortI l).Pairwise (· ≤ ·)
  | [] => by simp [sortI]
  | i :: r => insI_sorted i _ (sortI_sorted r)
theorem sortI_eq {l m : List Int} (p : m.Perm l) (s : m.Pairwise (· ≤ ·)) : m = sortI l :=
  List.Perm.eq_of_pairwise (le := fun a b : Int => a ≤ b) (fun a b _ _ h1 h2 => Int.le_antisymm h1 h2) s (sortI_sorted l) (p.trans (sortI_perm l).symm)
/-- pairs in order -/
def leP (p q : Int × Int) : Prop := p.1 < q.1 ∨ (p.1 = q.1 ∧ p.2 ≤ q.2)
theorem leP_trans {p q r : Int × Int} (h1 : leP p q) (h2 : leP q r) : leP p r := by unfold leP at *; omega
theorem insP_perm (i : Int × Int) : ∀ l, (insP i l).Perm (i :: l)
  | [] => .refl _
  | j :: r => by
    simp only [insP]
    split
    · exact .refl _
    · exact ((insP_perm i r).cons j).trans (.swap i j r)
theorem sortP_perm : ∀ l, (sortP l).Perm l
  | [] => .refl _
  | i :: r => by
    simp only [sortP]
    exact (insP_perm i _).trans ((sortP_perm r).cons i)
theorem insP_sorted (i : Int × Int) : ∀ l, l.Pairwise leP → (insP i l).Pairwise leP
  | [], _ => by simp [insP]
  | j :: r, h => by
    simp only [insP]
    split
    · rename_i hij
      refine List.pairwise_cons.mpr ⟨fun y hy => ?_, h⟩
      rcases List.mem_cons.mp hy with rfl | hy
      · exact hij
      · exact leP_trans hij ((List.pairwise_cons.mp h).1 y hy)
    · rename_i hij
      refine List.pairwise_cons.mpr ⟨fun y hy => ?_, insP_sorted i r (List.pairwise_cons.mp h).2⟩
      rcases List.mem_cons.mp ((insP_perm i r).mem_iff.mp hy) with rfl | hy
      · unfold leP; omega
      · exact (List.pairwise_cons.mp h).1 y hy
theorem sortP_sorted : ∀ l, (sortP l).Pairwise leP
  | [] => by simp [sortP]
  | i :: r => insP_sorted i _ (sortP_sorted r)
theorem sortP_eq {l m : List (Int × Int)} (p : m.Perm l) (s : m.Pairwise leP) : m = sortP l :=
  List.Perm.eq_of_pairwise (le := leP) (fun a b _ _ h1 h2 => by unfold leP at *; exact Prod.ext (by omega) (by omega)) s (sortP_sorted l) (p.trans (sortP_perm l).symm)

section
variable {W : Wd} {X : Cx} {F : AS} {ρ : List Addr} {H : Hp}
/-- a list or a tuple, to be read now -/
theorem seq_read {t : PV} {ts : List PV} {v : V} {pins : List (Addr × Obj)} {σ : L2.St} {s : Shared} {m : Md} {H₁ : Hp} (I : Inv X pins σ H s) (hK : X.K = W.K) (e : seqOf t = some ts) (r : Rm m W F ρ H₁ H t v) :
    ∃ a xs T o n its, v = .ref a ∧ (T = "list" ∨ T = "tuple") ∧ s.heap.get? a = some o ∧ o.cls = .type T ∧ o.data = .seq its.toArray n ∧ its.length ≤ sizeLine ∧ Vals xs its ∧ Reps W F ρ H ts xs := by
  cases t <;> simp only [seqOf, Option.some.injEq, reduceCtorEq] at e
  · subst e
    obtain ⟨a, xs, rfl, ha, rr⟩ := r.tup
    rw [← hK] at ha
    obtain ⟨its, rv, ⟨o, ho, hc, n, hd⟩, hz⟩ := I.tuple ha
    exact ⟨a, xs, _, o, n, its, rfl, .inr rfl, ho, hc, hd, by rw [← rv.length]; exact hz, rv, rr⟩
  · subst e
    obtain ⟨a, xs, rfl, ha, rr⟩ := r.lst
    obtain ⟨its, rv, pl, hz⟩ := I.list (SqL.of ha)
    obtain ⟨o, ho, hc, n, hd⟩ := pl.isList
    exact ⟨a, xs, _, o, n, its, rfl, .inl rfl, ho, hc, hd, by rw [← rv.length]; exact hz, rv, rr⟩
theorem Reps.ofInts : ∀ (is : List Int), Reps W F ρ H (is.map PV.int) (is.map V.int)
  | [] => by simp [Reps]
  | i :: is => by simp only [List.map_cons, Reps, Rep]; exact ⟨_, _, rfl, rfl, Reps.ofInts is⟩
theorem pairs_of {pins : List (Addr × Obj)} {σ : L2.St} {s : Shared} (I : Inv X pins σ H s) (hK : X.K = W.K) : ∀ {ts : List PV} {ps : List (Int × Int)} {xs : List V} {us : List Value}, pairsOf ts = some ps → Reps W F ρ H ts xs → Vals xs us →
    us.map (pairAt s.heap) = ps ∧ ∀ u ∈ us, Srt.IsPair s.heap u (pairAt s.heap u).1 (pairAt s.heap u).2 ∧ ∃ a, u = .ref a ∧ Rep W F ρ H (.tup [.int (pairAt s.heap u).1, .int (pairAt s.heap u).2]) (.ref a)
  | [], ps, xs, us, e, r, v => by
    simp only [pairsOf, Option.some.injEq] at e
    subst e
    simp only [Reps] at r
    subst r
    cases v
    exact ⟨rfl, fun _ h => absurd h (by simp)⟩
  | t :: ts, ps, xs, us, e, r, v => by
    have hx : ∃ x y qs, t = .tup [.int x, .int y] ∧ pairsOf ts = some qs ∧ ps = (x, y) :: qs := by
      unfold pairsOf at e
      split at e
      · rename_i h; cases h
      · rename_i i j rr h
        cases h
        obtain ⟨qs, e1, e2⟩ := Option.map_eq_some_iff.mp e
        exact ⟨i, j, qs, rfl, e1, e2.symm⟩
      · cases e
    obtain ⟨x, y, qs, rfl, e1, rfl⟩ := hx
    simp only [Reps] at r
    obtain ⟨z, zs, rfl, r1, r2⟩ := r
    cases v with
    | cons v1 v2 =>
      obtain ⟨h1, h2⟩ := pairs_of I hK e1 r2 v2
      obtain ⟨a, ys, rfl, ha, rr⟩ := r1.tupI
      cases v1
      have hys : ys = [V.int x, V.int y] := rr.ints (is := [x, y]) (by simp [intsOf])
      subst hys
      rw [← hK] at ha
      obtain ⟨its, rv, ⟨o, ho, hc, n, hd⟩, hz⟩ := I.tuple ha
      obtain ⟨u1, u2, rfl, ri, rj⟩ := vals2 rv
      obtain ⟨t1, rfl⟩ := ri
      obtain ⟨t2, rfl⟩ := rj
      have hp : Srt.IsPair s.heap (.ref a) x y := ⟨a, o, t1, t2, n, rfl, ho, hc, hd⟩
      have he := pairAt_eq hp
      refine ⟨by rw [List.map_cons, he, h1], fun u hu => ?_⟩
      rcases List.mem_cons.mp hu with rfl | hu
      · rw [he]; exact ⟨hp, a, rfl, r1⟩
      · exact h2 u hu
theorem reps_pairs {g : Value → Int × Int} : ∀ {us : List Value}, (∀ u ∈ us, ∃ a, u = .ref a ∧ Rep W F ρ H (.tup [.int (g u).1, .int (g u).2]) (.ref a)) → Reps W F ρ H ((us.map g).map fun p => .tup [.int p.1, .int p.2]) (us.map backV) ∧ Vals (us.map backV) us
  | [], _ => by simp only [List.map_nil, Reps]; exact ⟨trivial, .nil⟩
  | u :: us, h => by
    obtain ⟨h1, h2⟩ := reps_pairs (us := us) fun v hv => h v (List.mem_cons_of_mem _ hv)
    obtain ⟨a, rfl, r⟩ := h u List.mem_cons_self
    simp only [List.map_cons, Reps]
    exact ⟨⟨_, _, rfl, r, h1⟩, .cons rfl h2⟩
theorem bi_sorted (hK : X.K = W.K) : BiR W X (.builtin "sorted") .sorted := BiR.split fun pins s σ H F ρ h ts t vs us Q I p e rb r k => by
  unfold biV at e
  split at e <;> try contradiction
  rename_i a _
  obtain ⟨v, rfl, rm⟩ := rb1 rb
  cases hs : seqOf a with
  | none => rw [hs] at e; cases e
  | some l =>
    rw [hs] at e
    obtain ⟨ad, xs, T, o, n, its, rfl, hT, ho, hc, hd, hz, rv, rr⟩ := seq_read I hK hs rm
    obtain ⟨u, rfl, ru⟩ := vals1 r
    cases ru
    cases hi : intsOf l with
    | some is =>
      simp only [hi] at e
      cases e
      have hx := rr.ints hi
      subst hx
      have hI := rv.ints
      refine sorted_seq SrtO.swo_int hT ho hc hd hz (fun h2 h₁ a' _ _ => SrtO.ints_sortable hI h2) fun out g h' pp q1 q2 kg kh hp hh => ?_
      obtain ⟨k1, k2, k3⟩ := SrtO.ints_out hI q1 q2
      have k4 := sortI_eq k2 k3
      have I1 : Inv X pins σ H { s with heap := g } := I.kept (t' := s.toks) kg
      obtain ⟨nn, hh⟩ := hh
      have hlen : ((sortI is).map V.int).length ≤ sizeLine := by
        have := hI.length
        rw [List.length_map, (sortI_perm is).length_eq]
        omega
      have hv : Vals ((sortI is).map V.int) out := by rw [← k4]; exact vals_of_ints k1
      have hn := I1.hok.fresh hp
      obtain ⟨x2, p2, r2⟩ := new_lst p.ext0 p hn (Reps.ofInts (W := W) (F := F) (ρ := ρ) (H := H) (sortI is))
      exact ⟨.ref pp, _, I1.laid (t' := s.toks) kh hp (show ObjOk X.prog X.w _ h' _ (.lst _) from ⟨hlen, out, nn, hv, hh⟩), rfl, k _ F _ x2 p2 r2⟩
    | none =>
      simp only [hi] at e
      cases hp0 : pairsOf l with
      | none => simp only [hp0] at e; cases e
      | some ps =>
        simp only [hp0] at e
        cases e
        obtain ⟨e1, e2⟩ := pairs_of I hK hp0 rr rv
        refine sorted_seq (SrtO.swo_lex (pairAt s.heap)) hT ho hc hd hz (fun h2 h₁ a' ha kk => ?_) fun out g h' pp q1 q2 kg kh hp hh => ?_
        · refine SrtO.pairs_sortableO (s := { s with heap := h₁ }) (by omega) (fun v hm => (e2 v hm).1.keeps fun b o e _ => (kk b o e).2) fun o e => ?_
          rw [ha] at e
          cases e
          intro c
          exact absurd (Value.type.inj c) (by decide)
        · have I1 : Inv X pins σ H { s with heap := g } := I.kept (t' := s.toks) kg
          obtain ⟨nn, hh⟩ := hh
          have hn := I1.hok.fresh hp
          obtain ⟨g1, g2⟩ := reps_pairs (g := pairAt s.heap) fun u hu => (e2 u (q2.perm.mem_iff.mp hu)).2
          have k4 : out.map (pairAt s.heap) = sortP ps := by
            refine sortP_eq (by rw [← e1]; exact q2.perm.map _) (List.pairwise_map.mpr (q1.imp fun {x y} hxy => ?_))
            have := SrtO.lexB_no.mp hxy
            unfold leP; omega
          rw [k4] at g1
          have hlen : (out.map backV).length ≤ sizeLine := by rw [List.length_map, q2.perm.length_eq]; exact hz
          obtain ⟨x2, p2, r2⟩ := new_lst p.ext0 p hn g1
          exact ⟨.ref pp, _, I1.laid (t' := s.toks) kh hp (show ObjOk X.prog X.w _ h' _ (.lst _) from ⟨hlen, out, nn, g2, hh⟩), rfl, k _ F _ x2 p2 r2⟩
end
end MP

set_option Elab.async false
set_option linter.all false
set_option maxRecDepth 100000
namespace MP
open PySem PySem.Spec PyProof.Rows L2

section
variable {W : Wd} {X : Cx} {F : AS} {ρ : List Addr} {H : Hp}
theorem bi_repr (hu : X.A.units + 100 < cLine) (hK : X.K = W.K) (hg : X.A.guards = some []) : BiR W X (.builtin "repr") .repr := BiR.split fun pins s σ H F ρ h ts t vs us Q I p e rb r k => by
  unfold biV at e
  split at e <;> try contradiction
  rename_i x _
  split at e <;> try contradiction
  rename_i ok
  cases e
  obtain ⟨v, rfl, rm⟩ := rb1 rb
  obtain ⟨u, rfl, ru⟩ := vals1 r
  simp only [showOk, Bool.and_eq_true] at ok
  obtain ⟨⟨ok1, ok2⟩, ok3⟩ := ok
  have hsz : (toD x).shown.length ≤ sizeLine := szOk_le ok3
  have dp := rm.dp ok1
  rw [← hK] at dp
  have fin : ∀ (h' : Heap) (tk : Nat) (u : Tok), (∀ b o, s.heap.get? b = some o → h'.get? b = some o) → EP X pins σ Q (.str (toD x).shown u) { s with heap := h', toks := tk } := fun h' tk u kp =>
    ⟨.str (toD x).shown, H, I.kept kp, ⟨_, rfl⟩, k _ F H p.ext0 p (Rm.fv rfl (by simp only [Rep]))⟩
  cases x with
  | non =>
    rw [rm.non] at ru
    cases ru
    exact PySem.P.repr_of_none (fin _ _ _ fun _ _ e => e)
  | bl b =>
    rw [rm.bl] at ru
    cases ru
    exact PySem.P.repr_of_bool (fin _ _ _ fun _ _ e => e)
  | int i =>
    rw [rm.int] at ru
    obtain ⟨tk, rfl⟩ := ru
    exact PySem.P.repr_of_int (by simpa [toD, PyData.showable] using ok2) (fin _ _ _ fun _ _ e => e)
  | str z =>
    rw [rm.str] at ru
    obtain ⟨tk, rfl⟩ := ru
    exact PySem.P.repr_of_str (fin _ _ _ fun _ _ e => e) (hsz := hsz)
  | tup xs =>
    obtain ⟨a, ys, rfl, ha, rr⟩ := rm.tup
    cases ru
    obtain ⟨as, rd⟩ := dp.reads I _ _ _ rfl
    have hd := toD_plain ok1
    exact PySem.repr_of_reads' rd ok2 (PyData.noDict_hsm (PyData.hasDict_of_canLay _ hd.1)) hg (by have : depthLine = 60 := rfl; omega) (fun _ _ e => e) (fun h' u tk kp => fin h' tk u kp) hsz
  | lst xs =>
    obtain ⟨a, ys, rfl, ha, rr⟩ := rm.lst
    cases ru
    obtain ⟨as, rd⟩ := dp.reads I _ _ _ rfl
    have hd := toD_plain ok1
    exact PySem.repr_of_reads' rd ok2 (PyData.noDict_hsm (PyData.hasDict_of_canLay _ hd.1)) hg (by have : depthLine = 60 := rfl; omega) (fun _ _ e => e) (fun h' u tk kp => fin h' tk u kp) hsz
  | dct _ _ => simp [plain] at ok1
  | scr _ => simp [plain] at ok1
  | ref _ => simp [plain] at ok1
  | fn _ => simp [plain] at ok1
  | cls _ => simp [plain] at ok1
end
end MP

set_option Elab.async false
set_option linter.all false
set_option maxRecDepth 100000
namespace MP
open PySem PySem.Spec PyProof.Rows L2
section
variable {P : Program} {w : World} {A : Around} {E : Value → Shared → Prop} {s : Shared}
/-- the new set's object, before its first member -/
abbrev bare0 (w : World) : Obj := { cls := .type "set", dict := none, data := .set #[] 0 (.fresh 0 0 (!w.params.followText "set-order")) }
/-- set.__init__ of the new set at p by the list at l -/
theorem set_init_list {g : Heap} {l p : Addr} {ns : List Int} {items : Array Value} {K : Result → Shared → Prop} (hh : A.handled = none) (hp : g.get? p = some (bare0 w)) (hl : g.IsList l items) (hit : IntsAre items.toList ns) (hb : ns.length + 1 < scanBound)
    (hK : ∀ (h' : Heap) (tk c : Nat), SetR w h' p (fun j => decide (j ∈ ns)) c → c ≤ ns.length → (∀ b o, b ≠ p → g.get? b = some o → h'.get? b = some o) → K (.ok (.ret .none)) { s with heap := h', toks := tk }) :
    wpAny (model P w) A.in1 (Builtin.«set.__init__» ⟨[.ref p, .ref l], []⟩)
      (fun fin s' => match fin with | .done f => K (.ok f) s' | .again c' => c'.quiet = true ∧ codeAny (model P w) A c' K s') (fun e s' => K (.error e) s') { s with heap := g } := by
  have hisz : items.size = ns.length := by
    have q := IntsAre.length hit
    rw [Array.length_toList] at q
    exact q
  have hT : Shared.TypeIs { s with heap := g } (.ref p) "set" := ⟨_, hp, rfl⟩
  obtain ⟨ol, hol, hcl, nl, hdl⟩ := id hl
  obtain ⟨ocls, odict, odata, oslots⟩ := ol
  simp only at hcl hdl
  subst hcl
  subst hdl
  have hpl : p ≠ l := fun z => by
    rw [← z, hp] at hol
    exact absurd (Value.type.inj (congrArg Obj.cls (Option.some.inj hol))) (by decide)
  have q1 := F.sub_list_set
  have q2 := F.sub_list_frozenset
  have q3 : (Value.type "list" == Value.type "dict") = false := by decide
  have hTl : Shared.TypeIs { s with heap := g } (.ref l) "list" := ⟨_, hol, rfl⟩
  unfold Builtin.«set.__init__» noKeywords Builtin.Frozenset.updateFrom
  generalize hPI : pyIter = PI
  wp_walk
  subst hPI
  apply wpAny_pyIter_list hl
  apply wpAny_bind
  apply wpAny_runValue
  have z1 : A.in1.in1.handled = none := by simp [hh]
  have lp : p < g.objs.size := Heap.lt_size hp
  have ll : l < g.objs.size := Heap.lt_size hol
  have z2 : l ≠ g.objs.size := Nat.ne_of_lt ll
  have z3 : p ∉ [g.objs.size, l] := by
    simp only [List.mem_cons, List.mem_singleton, List.not_mem_nil, or_false, not_or]
    exact ⟨Nat.ne_of_lt lp, hpl⟩
  have hval : ∀ (i : Nat) (v : Value), items[i]? = some v → ∃ k t, ns[i]? = some k ∧ v = .int k t := fun i v hv => by
    have hi : i < ns.length := by rw [← hisz]; exact (Array.getElem?_eq_some_iff.mp hv).1
    obtain ⟨t, e⟩ := PyProof.Rows.IntsAre.int_at hit i v (by rw [Array.getElem?_toList]; exact hv)
    exact ⟨ns[i], t, List.getElem?_eq_getElem hi, by rw [e, List.getD_eq_getElem?_getD, List.getElem?_eq_getElem hi]; rfl⟩
  refine set_update_ints (A := A.in1) (n := items.size) ((Walks.list z1 _ l z2 items).toS) p z3 ns hisz hb hval (items.size - 0) 0 _ (by omega) (Nat.zero_le _) ?st ?first ?last
  case st => exact ⟨⟨_, Heap.get?_push_size _ rfl, rfl, rfl⟩, hl.push _⟩
  case first => exact ⟨0, Nat.le_refl 0, setR_new_at (Heap.get?_push_of_some _ hp)⟩
  case last =>
    rintro ⟨h', g2, d', tk', os'⟩ c' hm hc' hS'
    have eg : g2 = s.gens := hm.gens
    have ed : d' = s.drawn := hm.drawn
    have eo : os' = s.os := hm.os
    subst eg
    subst ed
    subst eo
    apply wpAny_pure
    apply wpAny_pure
    rw [hisz] at hc'
    refine hK h' tk' c' hS' hc' fun b o hbp e => hm.heap b o (fun z => ?_) (Heap.get?_push_of_some _ e)
    rcases List.mem_cons.mp z with z | z
    · exact hbp z
    · exact absurd (Heap.lt_size e) (by rw [List.mem_singleton.mp z]; exact Nat.lt_irrefl _)
/-- set(x), x a list of ints -/
theorem set_of_list {l : Addr} {ns : List Int} {items : Array Value} {Q : Value → Shared → Prop} (hh : A.handled = none) (hl : s.heap.IsList l items) (hit : IntsAre items.toList ns) (hb : ns.length + 1 < scanBound)
    (fin : ∀ (h' : Heap) (tk c : Nat), SetR w h' s.heap.objs.size (fun j => decide (j ∈ ns)) c → c ≤ ns.length → (∀ b o, s.heap.get? b = some o → h'.get? b = some o) → Q (.ref s.heap.objs.size) { s with heap := h', toks := tk }) :
    wpAny (model P w) A (call (.type "set") [.ref l]) Q E s := by
  have C := F.called_set
  obtain ⟨c, tl, hmro⟩ := C.mro
  have m1 := C.made
  have m2 := C.sub
  have m3 := C.notType
  have m4 := C.canCreate
  have m5 := F.typeCall_set_1 (.ref l)
  apply wpAny_call
  apply codeAny_of_tree
  show wpAny _ _ (callAny (.type "set") _) _ _ _
  refine wpAny_pure ⟨Code.quiet_builtin _ (by decide +kernel), codeAny_builtin F.entry_type_call ?_⟩
  rw [Around.under_plain (weight_type_call_type "set" [.ref l] []) rfl]
  repeat (any_goals (first | assumption | wp_step))
  refine codeAny_mono (code_set_led1 (.ref l) (E := E) (Q₁ := fun obj z => obj = .ref s.heap.objs.size ∧ z = { s with heap := s.heap.push (bare0 w) }) ⟨rfl, rfl⟩) ?_
  intro r z hr
  match r, hr with
  | .error _, hr => exact hr
  | .ok (.ret obj), hr =>
    obtain ⟨rfl, rfl⟩ := hr
    have k1 : (s.heap.push (bare0 w)).get? s.heap.objs.size = some (bare0 w) := Heap.get?_push_size _ rfl
    have k2 : Shared.TypeIs { s with heap := s.heap.push (bare0 w) } (.ref s.heap.objs.size) "set" := ⟨_, k1, rfl⟩
    have k3 := C.init.lookup
    have k4 := C.init.bind (.ref s.heap.objs.size)
    repeat (any_goals (first | assumption | wp_step))
    refine codeAny_mono (codeAny_call_builtin (R := wants (fun r y => r = .none ∧ ∃ h' tk c, y = { s with heap := h', toks := tk } ∧ SetR w h' s.heap.objs.size (fun j => decide (j ∈ ns)) c ∧ c ≤ ns.length ∧
      (∀ b o, s.heap.get? b = some o → h'.get? b = some o)) E) C.init.plain F.entry_set_init (check_set_init_1 k2 (set_init_list (by simp [hh]) k1 (hl.push _) hit hb fun h' tk c a1 a2 a3 => ?_))) ?_
    · exact ⟨rfl, h', tk, c, rfl, a1, a2, fun b o e => a3 b o (Nat.ne_of_lt (Heap.lt_size e)) (Heap.get?_push_of_some _ e)⟩
    · intro r2 y hr2
      match r2, hr2 with
      | .error _, hr2 => exact hr2
      | .ok (.ret r3), hr2 =>
        obtain ⟨rfl, h', tk, c, rfl, a1, a2, a3⟩ := hr2
        repeat (any_goals (first | assumption | wp_step))
        exact fin h' tk c a1 a2 a3
end

theorem dedI_mem : ∀ {l : List Int} {x : Int}, x ∈ dedI l ↔ x ∈ l
  | [], x => by simp [dedI]
  | i :: r, x => by
    simp only [dedI]
    split
    · rename_i h
      rw [dedI_mem (l := r), List.mem_cons]
      refine ⟨.inr, fun z => z.elim (fun z => ?_) id⟩
      rw [z]
      simpa using h
    · rw [List.mem_cons, List.mem_cons, dedI_mem (l := r)]
theorem dedI_nodup : ∀ l : List Int, (dedI l).Nodup
  | [] => by simp [dedI]
  | i :: r => by
    simp only [dedI]
    split
    · exact dedI_nodup r
    · rename_i h
      refine List.nodup_cons.mpr ⟨fun z => h ?_, dedI_nodup r⟩
      simpa using dedI_mem.mp z
theorem sorted_ded {l m : List Int} (h : m.Pairwise (· < ·)) (e : ∀ k, k ∈ m ↔ k ∈ l) : m = sortI (dedI l) := by
  refine sortI_eq ((List.perm_ext_iff_of_nodup ?_ (dedI_nodup l)).mpr fun a => by rw [e, dedI_mem]) (h.imp fun {a b} z => Int.le_of_lt z)
  exact h.imp fun {a b} z => by omega
section
variable {W : Wd} {cl : CL} {fl : List Nat} {X : Cx}
/-- set(xs), ints, fewer than 64 -/
def rSetL (K : PySem.W.Frag) (w : World) : List V → Hp → VK → Prop := fun vs H Q => ∃ (a : Addr) (ns : List Int), vs = [V.ref a] ∧ SqL K H a (ns.map V.int) ∧ ns.length < 64 ∧
  ∀ p c, H p = none → c ≤ ns.length → Q (.ref p) (upd H p (SetO w p (fun j => decide (j ∈ ns)) c))
theorem cr_setL (hc : X.calm = true) : CallR X (.type "set") (rSetL X.K X.w) := by
  intro pins s σ H vs us Q I r h
  obtain ⟨a, ns, rfl, ha, hn, q⟩ := h
  obtain ⟨its, rv, pl, hz⟩ := I.list ha
  obtain ⟨u, rfl, ru⟩ := vals1 r
  cases ru
  have hb : ns.length + 1 < scanBound := by unfold scanBound; omega
  refine set_of_list (I.ok.hd hc) pl.isList (by simpa using rv.ints) hb fun h' tk c a1 a2 a3 => ?_
  exact ⟨.ref _, _, I.laid (t' := tk) a3 (Nat.le_refl _) (setO_new a1), rfl, q _ c (I.hok.fresh (Nat.le_refl _)) a2⟩
def tSS (W : Wd) (cl : CL) (fl : List Nat) (w : World) (is : Es) : TE := tCB (rSortedSet w) (tCons (tCB (rSetL W.K w) (tEs W cl fl .b is)) tNil)
theorem L_setSorted {is : Es} {x y : Str} {e : Expr} {pp pq pos pos2 : Pos} (hc : X.calm = true) (hK : X.K = W.K) (hgx : Gl X x) (hmx : X.mg x = none) (hvx : bootBuiltins x = some (.builtin "sorted")) (hgy : Gl X y) (hmy : X.mg y = none) (hvy : bootBuiltins y = some (.type "set"))
    (ha : PA X [e] (tEs W cl fl .b is)) (hnx : x ≠ "__name__") (hdx : (x == ("__debug__" : Str)) = false) (hny : y ≠ "__name__") (hdy : (y == ("__debug__" : Str)) = false) (he : starEach [e] X.env = (false, eval e X.env) :: starEach [] X.env) :
    PE X (.Call (.Name x pp) [.Call (.Name y pq) [e] [] pos2] [] pos) (tE W cl fl .f (.bi .setSorted is)) := by
  have h1 := cr_setL (X := X) hc
  rw [hK] at h1
  have p1 : PE X (.Call (.Name y pq) [e] [] pos2) (tCB (rSetL W.K X.w) (tEs W cl fl .b is)) := pe_callTy h1 hgy hmy hvy ha hny hdy he (by rfl)
  have p2 : PE X (.Call (.Name x pp) [.Call (.Name y pq) [e] [] pos2] [] pos) (tSS W cl fl X.w is) := pe_callB (cr_sortedSet hc) hgx hmx hvx (pa_cons p1 pa_nil) hnx hdx
  refine pe_mono p2 fun σ H Q q => ?_
  obtain ⟨F, ρ, τ, h, t, h', rel, p, ev, k⟩ := q
  simp only [evE] at ev
  obtain ⟨xs, h1, e1, g1⟩ := bind_ok ev
  obtain ⟨e2, rfl⟩ := of_ok g1
  refine ⟨F, ρ, τ, h, xs, _, rel, p, e1, fun vs F1 ρ1 H1 x1 p1 r1 => ?_⟩
  unfold biV at e2
  split at e2 <;> try contradiction
  obtain ⟨is, e3, e4⟩ := Option.bind_eq_some_iff.mp e2
  split at e4 <;> try contradiction
  rename_i hlt
  cases e4
  obtain ⟨v, rfl, rm⟩ := rb1 r1
  obtain ⟨a, ys, rfl, ha, rr⟩ := rm.lst
  have hy := rr.ints e3
  subst hy
  have hl64 : is.length < 64 := by simpa using hlt
  refine ⟨a, is, rfl, SqL.of ha, hl64, fun pp c hpp hc2 => ?_⟩
  obtain ⟨x2, p2⟩ := Ext.new' (o := SetO X.w pp (fun j => decide (j ∈ is)) c) p1 hpp
  refine ⟨pp, _, c, rfl, upd_same, by omega, fun ns q hs hm hlen hq => ?_⟩
  have hns := sorted_ded (l := is) hs fun k => by rw [hm]; simp
  subst hns
  obtain ⟨x3, p3, r3⟩ := new_lst (x1.trans x2) p2 hq (Reps.ofInts (W := W) (F := F1) (ρ := ρ1) (H := upd H1 pp _) _)
  exact k _ F1 ρ1 _ x3 p3 r3
end
end MP

set_option Elab.async false
set_option linter.all false
set_option maxRecDepth 100000
namespace MP
open PySem PySem.Spec PyProof.Rows L2

/-! ### d[k] = v -/
section
variable {κ : Type} [DecidableEq κ]
theorem putK_pos {a : κ} {x z : V} {r : List (κ × V)} (h : ¬ a ∈ r.map (·.1)) : putK ((a, x) :: r) a z = (a, z) :: r := by
  have e : r.map (fun kv => if kv.1 = a then (kv.1, z) else kv) = r := by
    conv => rhs; rw [← List.map_id r]
    refine List.map_congr_left fun kv hk => ?_
    rw [if_neg (fun e : kv.1 = a => h (e ▸ List.mem_map.mpr ⟨kv, hk, rfl⟩))]
    rfl
  simp [putK, e]
theorem putK_neg {p : κ × V} {k : κ} {z : V} {r : List (κ × V)} (h : ¬ p.1 = k) : putK (p :: r) k z = p :: putK r k z := by
  unfold putK
  rw [List.any_cons, decide_eq_false h, Bool.false_or]
  split
  · rw [List.map_cons, if_neg h]
  · rfl
theorem storedH_pos {e : κ × Addr × Value} {b : Addr} {r : Value} {es : List (κ × Addr × Value)} (h : ¬ e.1 ∈ es.map (·.1)) : storedH (e :: es) e.1 b r = (e.1, e.2.1, r) :: es := by
  have q : es.map (putAt e.1 r) = es := by
    conv => rhs; rw [← List.map_id es]
    refine List.map_congr_left fun kv hk => ?_
    unfold putAt
    rw [if_neg (fun q : kv.1 = e.1 => h (q ▸ List.mem_map.mpr ⟨kv, hk, rfl⟩))]
    rfl
  simp [storedH, atKey, List.find?_cons, q, putAt]
theorem storedH_neg {e : κ × Addr × Value} {n : κ} {b : Addr} {r : Value} {es : List (κ × Addr × Value)} (h : ¬ e.1 = n) : storedH (e :: es) n b r = e :: storedH es n b r := by
  unfold storedH
  have q : atKey (e :: es) n = atKey es n := by simp [atKey, List.find?_cons, h]
  rw [q]
  split
  · rw [List.map_cons]; unfold putAt; rw [if_neg h]
  · rfl
end
section
variable {W : Wd} {X : Cx} {pins : List (Addr × Obj)} {σ : L2.St} {F : AS} {ρ : List Addr} {H : Hp} {s : Shared}
theorem put_keys {k v : PV} {kk : Key} {z : V} (hk : keyS k = some kk) (rv : Rep W F ρ H v z) : ∀ {ks vs : List PV} {kks : List Key} {bs xs : List V}, keysS ks = some kks → kks.Nodup → kks.length = xs.length → Reps W F ρ H ks bs → Reps W F ρ H vs xs →
    ∃ kks' xs' bs', keysS (put k v ks vs).1 = some kks' ∧ kks'.length = xs'.length ∧ putK (kks.zip xs) kk z = kks'.zip xs' ∧ Reps W F ρ H (put k v ks vs).1 bs' ∧ Reps W F ρ H (put k v ks vs).2 xs'
  | [], vs, kks, bs, xs, h1, _, h2, rb, r => by
    simp only [keysS, Option.some.injEq] at h1
    subst h1
    have hx : xs = [] := List.eq_nil_of_length_eq_zero (by simpa using h2.symm)
    subst hx
    refine ⟨[kk], [z], [L2.kV kk], by simp [put, keysS, hk], rfl, by simp [putK], ?_, ?_⟩
    · simp only [put, Reps]
      refine ⟨_, _, rfl, ?_, rfl⟩
      cases k <;> simp only [keyS, Option.some.injEq, reduceCtorEq] at hk <;> (subst hk; simp only [Rep]; rfl)
    · simp only [put, Reps]; exact ⟨_, _, rfl, rv, rfl⟩
  | a :: ks, vs, kks, bs, xs, h1, hn, h2, rb, r => by
    simp only [keysS] at h1
    split at h1
    rotate_left
    · cases h1
    rename_i aa kr ha hks
    cases h1
    cases xs with
    | nil => simp at h2
    | cons x xs =>
      cases vs with
      | nil => simp only [Reps] at r; cases r
      | cons w vs =>
        simp only [Reps] at r rb
        obtain ⟨y, ys, e, r1, r2⟩ := r
        cases e
        obtain ⟨b, bs, rfl, b1, b2⟩ := rb
        have ek : eqv a k = decide (aa = kk) := by
          cases a <;> simp only [keyS, Option.some.injEq, reduceCtorEq] at ha
          all_goals (cases k <;> simp only [keyS, Option.some.injEq, reduceCtorEq] at hk)
          all_goals (subst ha; subst hk; simp only [eqv])
          · rw [key_ll]
          · exact key_lr _ _ |>.symm
          · exact key_rl _ _ |>.symm
          · rw [key_rr]; rfl
        have hnd := List.nodup_cons.mp hn
        have h2' : kr.length = xs.length := by simpa using h2
        by_cases e : aa = kk
        · subst e
          refine ⟨aa :: kr, z :: xs, b :: bs, ?_, by simpa using h2, ?_, ?_, ?_⟩
          · simp [put, ek, keysS, ha, hks]
          · rw [List.zip_cons_cons, List.zip_cons_cons]
            exact putK_pos (fun hm => hnd.1 (by
              obtain ⟨p, hp, e⟩ := List.mem_map.mp hm
              exact e ▸ (List.of_mem_zip hp).1))
          · simp only [put, ek, decide_true, if_true, Reps]; exact ⟨_, _, rfl, b1, b2⟩
          · simp only [put, ek, decide_true, if_true, Reps]; exact ⟨_, _, rfl, rv, r2⟩
        · obtain ⟨kks', xs', bs', g1, g2, g3, g4, g5⟩ := put_keys hk rv hks hnd.2 h2' b2 r2
          have ek' : eqv a k = false := by rw [ek]; exact decide_eq_false e
          refine ⟨aa :: kks', x :: xs', b :: bs', ?_, by simp [g2], ?_, ?_, ?_⟩
          · simp [put, ek', keysS, ha, g1]
          · rw [List.zip_cons_cons, List.zip_cons_cons, ← g3]
            exact putK_neg e
          · simp only [put, ek', Bool.false_eq_true, if_false, Reps]; exact ⟨_, _, rfl, b1, g4⟩
          · simp only [put, ek', Bool.false_eq_true, if_false, Reps]; exact ⟨_, _, rfl, r1, g5⟩
theorem put_nks {k v : PV} {n : NestedKey} {z : V} {b : Addr} {r : Value} (hn : nk k = some n) (rk : Rep W F ρ H k (.ref b)) (rv : Rep W F ρ H v z) (rr : RelV z r) : ∀ {ks vs : List PV} {es : List (NestedKey × Addr × Value)} {xs : List V},
    nks ks = some (es.map (·.1)) → (es.map (·.1)).Nodup → Reps W F ρ H ks (es.map fun e => V.ref e.2.1) → Vals xs (es.map (·.2.2)) → Reps W F ρ H vs xs →
    ∃ xs', nks (put k v ks vs).1 = some ((storedH es n b r).map (·.1)) ∧ Reps W F ρ H (put k v ks vs).1 ((storedH es n b r).map fun e => V.ref e.2.1) ∧ Vals xs' ((storedH es n b r).map (·.2.2)) ∧ Reps W F ρ H (put k v ks vs).2 xs'
  | [], vs, es, xs, h, _, rb, q, rx => by
    simp only [nks, Option.some.injEq] at h
    have : es = [] := by simpa using h.symm
    subst this
    refine ⟨[z], ?_, ?_, ?_, ?_⟩
    · simp [put, nks, hn, storedH, atKey]
    · simp only [put, storedH, atKey, Reps]; exact ⟨_, _, rfl, rk, rfl⟩
    · exact .cons rr .nil
    · simp only [put, Reps]; exact ⟨_, _, rfl, rv, rfl⟩
  | a :: ks, vs, es, xs, h, hd, rb, q, rx => by
    simp only [nks] at h
    split at h
    rotate_left
    · cases h
    rename_i c d e1 e2
    have zz := Option.some.inj h
    cases es with
    | nil => simp at zz
    | cons e es =>
      simp only [List.map_cons, List.cons.injEq] at zz
      obtain ⟨z1, z2⟩ := zz
      subst z1; subst z2
      cases vs with
      | nil => simp only [Reps] at rx; subst rx; cases q
      | cons w vs =>
        simp only [Reps] at rx
        obtain ⟨y, ys, rfl, r1, r2⟩ := rx
        simp only [List.map_cons, Reps] at rb
        obtain ⟨y2, ys2, eb, b1, b2⟩ := rb
        cases eb
        rw [List.map_cons] at hd
        have hnd := List.nodup_cons.mp hd
        cases q with
        | cons q1 q2 =>
          have ek := eqv_nk e1 hn
          by_cases hh : e.1 = n
          · subst hh
            have st := storedH_pos (b := b) (r := r) hnd.1
            refine ⟨z :: ys, ?_, ?_, ?_, ?_⟩
            · rw [st]; simp [put, ek, nks, e1, e2]
            · rw [st]; simp only [put, ek, decide_true, if_true, List.map_cons, Reps]; exact ⟨_, _, rfl, b1, b2⟩
            · rw [st]; exact .cons rr q2
            · simp only [put, ek, decide_true, if_true, Reps]; exact ⟨_, _, rfl, rv, r2⟩
          · have st := storedH_neg (b := b) (r := r) (es := es) hh
            obtain ⟨xs', g1, g2, g3, g4⟩ := put_nks hn rk rv rr (vs := vs) e2 hnd.2 b2 q2 r2
            have ek' : eqv a k = false := by rw [ek]; exact decide_eq_false hh
            refine ⟨y :: xs', ?_, ?_, ?_, ?_⟩
            · rw [st]; simp [put, ek', nks, e1, g1]
            · rw [st]; simp only [put, ek', Bool.false_eq_true, if_false, List.map_cons, Reps]; exact ⟨_, _, rfl, b1, g2⟩
            · rw [st]; exact .cons q1 g3
            · simp only [put, ek', Bool.false_eq_true, if_false, Reps]; exact ⟨_, _, rfl, r1, g4⟩
theorem put_isTup {k v : PV} (hk : isTup k = true) : ∀ {ks vs : List PV}, ks.all isTup = true → (put k v ks vs).1.all isTup = true
  | [], _, _ => by simp [put, hk]
  | a :: ks, [], h => by simp [put, hk]
  | a :: ks, w :: vs, h => by
    simp only [List.all_cons, Bool.and_eq_true] at h
    simp only [put]
    split
    · simp [h.1, h.2]
    · simp only [List.all_cons, h.1, Bool.true_and]; exact put_isTup hk h.2
theorem storedH_depth {es : List (NestedKey × Addr × Value)} {n : NestedKey} {b : Addr} {r : Value} (h : ∀ e ∈ es, e.1.depth ≤ 8) (hn : n.depth ≤ 8) : ∀ e ∈ storedH es n b r, e.1.depth ≤ 8 := fun e he => by
  rcases mem_storedH_key he with ⟨y, hy, q, _⟩ | ⟨q, _⟩
  · rw [q]; exact h y hy
  · rw [q]; exact hn
/-- what a dict is behind d[k] = v -/
structure Putted (W : Wd) (X : Cx) (pins : List (Addr × Obj)) (σ : L2.St) (F : AS) (ρ : List Addr) (H : Hp) (a : Addr) (k v : PV) (ks vs : List PV) (s' : Shared) : Prop where
  ex : ∃ o bs' xs', Inv X pins σ (upd H a o) s' ∧ DictAt W (upd H a o) a (put k v ks vs).1 bs' xs' ∧ Reps W F ρ H (put k v ks vs).1 bs' ∧ Reps W F ρ H (put k v ks vs).2 xs'
theorem ext_new {h' : Heap} {H' : Hp} {a : Addr} {es : List (NestedKey × Addr × Value)} (hw : X.w = W.w) (dd : h'.DictOfH (nestedKind X.prog X.w) a es) : ObjOk X.prog X.w H' h' a (.ext (dphi W.w a es)) := by
  obtain ⟨o, arr, ep, g1, g2, g3, g4, g5, g6⟩ := dd
  refine ⟨⟨o, arr, ep, g1, g2, g3, by rw [g4, ← hw]; rfl⟩, ⟨o, g1⟩, fun h1 h2 p k => ?_⟩
  obtain ⟨o, arr, ep, g1, g⟩ := p
  exact ⟨o, arr, ep, k _ g1, g⟩
/-- the step that both d[k] = v and a dict comprehension take -/
theorem dm_put {A : Around} {E : Value → Shared → Prop} {Q : Unit → Shared → Prop} (m : Addr → Value → Value → Sem Unit) (hK : X.K = W.K) (hw : X.w = W.w) (I : Inv X pins σ H s)
    (road1 : ∀ (d : Addr) (kvs : List (Key × Value)) (k : Key) (key v : Value) (Q : Unit → Shared → Prop), (mixKind X.prog X.w).is k key = true → s.heap.DictOf (mixKind X.prog X.w) d kvs → kvs.length ≤ sizeLine →
      (∀ h', h'.DictOf (mixKind X.prog X.w) d (stored kvs k v) → Heap.SameBut d s.heap h' → Q () { s with heap := h', toks := s.toks + 1 }) → wpAny (model X.prog X.w) A (m d key v) Q E s)
    (road2 : ∀ (d b : Addr) (es : List (NestedKey × Addr × Value)) (k : NestedKey) (v : Value) (Q : Unit → Shared → Prop), (nestedKind X.prog X.w).is s.heap k b → s.heap.DictOfH (nestedKind X.prog X.w) d es → es.length ≤ sizeLine →
      (∀ h' tk, h'.DictOfH (nestedKind X.prog X.w) d (storedH es k b v) → Heap.SameBut d s.heap h' → Q () { s with heap := h', toks := tk }) → wpAny (model X.prog X.w) A (m d (.ref b) v) Q E s)
    {a : Addr} {ks vs : List PV} {bs xs : List V} {k v : PV} {y z : V} {u r : Value} (D : DictAt W H a ks bs xs) (R : Reps W F ρ H ks bs) (Rv : Reps W F ρ H vs xs) (ok : dkOk k ks = true) (sz : szOk ks.length = true)
    (rk : Rep W F ρ H k y) (ry : RelV y u) (rv : Rep W F ρ H v z) (rz : RelV z r) (fin : ∀ s', Putted W X pins σ F ρ H a k v ks vs s' → Q () s') : wpAny (model X.prog X.w) A (m a u r) Q E s := by
  have hsz := sizeLine_eq
  have hks : ks.length ≤ 16000000 := Nat.le_of_ble_eq_true sz
  unfold dkOk at ok
  split at ok
  · rename_i ht
    rw [Bool.and_eq_true] at ok
    obtain ⟨es, h1, h2, h3, h4, h5, h6, h7, h8⟩ := D.viewT I hK hw R ok.2
    obtain ⟨n, hn, hd⟩ := keyD_nk ok.1
    obtain ⟨b, rfl⟩ := rk.tupRef ht
    cases (show u = Value.ref b from ry)
    have hnd : (es.map (·.1)).Nodup := by obtain ⟨_, _, _, _, _, _, _, _, q⟩ := h7; exact q
    have hbs : Reps W F ρ H ks (es.map fun e => V.ref e.2.1) := by
      rcases h2 with h2 | h2
      · rw [← h2]; exact R
      · subst h2
        simp only [nks, Option.some.injEq] at h1
        have : es = [] := by simpa using h1.symm
        subst this
        simp [Reps]
    obtain ⟨xs', g1, g2, g3, g4⟩ := put_nks hn rk rv rz h1 hnd hbs h3 Rv
    have hl : (storedH es n b r).length ≤ sizeLine := by
      have e1 := storedH_length es n b r
      have e2 := nks_len h1
      rw [List.length_map] at e2
      omega
    refine road2 a b es n r Q ⟨Rep.nested I hK hn rk rfl, hd⟩ h7 h4 fun h' tk dd sb => fin _ ⟨?_⟩
    have he : ∃ q, h'.get? a = some q := let ⟨q, _, _, hq, _⟩ := dd; ⟨q, hq⟩
    refine ⟨.ext (dphi W.w a (storedH es n b r)), _, xs', d_write (t' := tk) I h8 sb he (ext_new hw dd), .inr ⟨_, upd_same, g1, rfl, g3, hl, h5, ?_, storedH_depth h6 hd, put_isTup ht ok.2⟩, g2, g4⟩
    obtain ⟨_, _, _, _, _, _, _, _, q⟩ := dd
    exact q
  · rw [Bool.and_eq_true] at ok
    obtain ⟨kk, ws, h1, h2, h3, h4, h5, h6, h7⟩ := D.viewS I ok.2
    obtain ⟨kx, hkx⟩ := keyA_S ok.1
    have e := rk.kV hkx
    subst e
    have hws : ws.length ≤ sizeLine := by rw [← h5.length]; exact h3
    have hnd : kk.Nodup := by
      obtain ⟨_, _, _, _, _, _, _, _, q⟩ := h6
      have e : ws.map (·.1) = kk := by
        have := h5.keys
        rw [← this, List.map_fst_zip (by omega)]
      rw [← e]; exact q
    obtain ⟨kks', xs', bs', g1, g2, g3, g4, g5⟩ := put_keys hkx rv h1 hnd h2 R Rv
    have hl : (putK (kk.zip xs) kx z).length ≤ sizeLine := by
      have e1 := length_putK (kk.zip xs) kx z
      have e2 := keysS_len h1
      rw [List.length_zip, h2, Nat.min_self] at e1
      omega
    refine road1 a ws kx u r Q (kV_is ry) h6 hws fun h' dd sb => fin _ ⟨?_⟩
    have he : ∃ q, h'.get? a = some q := let ⟨q, _, _, hq, _⟩ := dd; ⟨q, hq⟩
    refine ⟨.dK (putK (kk.zip xs) kx z), bs', xs', d_write (t' := s.toks + 1) I h7 sb he (dk_new hl h4 (h5.put kx rz) dd), .inl ⟨kks', g1, g2, by rw [← g3]; exact upd_same⟩, g4, g5⟩
theorem dm_setItem {A : Around} {E : Value → Shared → Prop} {Q : Unit → Shared → Prop} (hu : A.units + 20 < cLine) (hK : X.K = W.K) (hw : X.w = W.w) (I : Inv X pins σ H s)
    {a : Addr} {ks vs : List PV} {bs xs : List V} {k v : PV} {y z : V} {u r : Value} (D : DictAt W H a ks bs xs) (R : Reps W F ρ H ks bs) (Rv : Reps W F ρ H vs xs) (ok : dkOk k ks = true) (sz : szOk ks.length = true)
    (rk : Rep W F ρ H k y) (ry : RelV y u) (rv : Rep W F ρ H v z) (rz : RelV z r) (fin : ∀ s', Putted W X pins σ F ρ H a k v ks vs s' → Q () s') : wpAny (model X.prog X.w) A (setItem (.ref a) u r) Q E s :=
  dm_put (fun d key v => setItem (.ref d) key v) hK hw I (fun d kvs k key v Q h1 h2 h3 h => wpAny_setItem_pairs (hsz := h3) h1 h2 h) (fun d b es k v Q h1 h2 h3 h => wpAny_setItem_heap (hsz := h3) (room8 hu) h1 h2 fun h' => h h' _) D R Rv ok sz rk ry rv rz fin
theorem dm_dictSet {A : Around} {E : Value → Shared → Prop} {Q : Unit → Shared → Prop} (hu : A.units + 20 < cLine) (hK : X.K = W.K) (hw : X.w = W.w) (I : Inv X pins σ H s)
    {a : Addr} {ks vs : List PV} {bs xs : List V} {k v : PV} {y z : V} {u r : Value} (D : DictAt W H a ks bs xs) (R : Reps W F ρ H ks bs) (Rv : Reps W F ρ H vs xs) (ok : dkOk k ks = true) (sz : szOk ks.length = true)
    (rk : Rep W F ρ H k y) (ry : RelV y u) (rv : Rep W F ρ H v z) (rz : RelV z r) (fin : ∀ s', Putted W X pins σ F ρ H a k v ks vs s' → Q () s') : wpAny (model X.prog X.w) A (dictSet a u r) Q E s :=
  dm_put (fun d key v => dictSet d key v) hK hw I (fun d kvs k key v Q h1 h2 h3 h => wpAny_dictSet_pairs (hsz := h3) h1 h2 h) (fun d b es k v Q h1 h2 h3 h => wpAny_dictSet_heap (hsz := h3) (show A.units + 8 < cLine by omega) h1 h2 fun h' => h h' _) D R Rv ok sz rk ry rv rz fin
end
end MP

set_option Elab.async false
set_option linter.all false
set_option maxRecDepth 100000
namespace MP
open PySem PySem.Spec PyProof.Rows L2

section
variable {κ : Type} [DecidableEq κ]
theorem putK_nodup {r : List (κ × V)} {k : κ} {z : V} (h : (r.map (·.1)).Nodup) : ((putK r k z).map (·.1)).Nodup := by
  unfold putK
  split
  · rw [List.map_map, show ((fun p : κ × V => p.1) ∘ fun kv : κ × V => if kv.1 = k then (kv.1, z) else kv) = fun p => p.1 from funext fun p => by simp only [Function.comp]; split <;> rfl]
    exact h
  · rename_i hn
    rw [List.map_append]
    refine List.nodup_append.mpr ⟨h, by simp, fun a ha b hb e => hn ?_⟩
    simp only [List.map_cons, List.map_nil, List.mem_singleton] at hb
    obtain ⟨p, hp, rfl⟩ := List.mem_map.mp ha
    exact List.any_eq_true.mpr ⟨p, hp, decide_eq_true (e.trans hb)⟩
theorem storedH_nodup {r : List (κ × Addr × Value)} {k : κ} {b : Addr} {z : Value} (h : (r.map (·.1)).Nodup) : ((storedH r k b z).map (·.1)).Nodup := by
  unfold storedH
  split
  · rw [List.map_map, show ((fun p : κ × Addr × Value => p.1) ∘ putAt k z) = fun p => p.1 from funext fun p => by simp only [Function.comp, putAt]; split <;> rfl]
    exact h
  · rename_i hn
    rw [List.map_append]
    refine List.nodup_append.mpr ⟨h, by simp, fun a ha c hc e => hn ?_⟩
    simp only [List.map_cons, List.map_nil, List.mem_singleton] at hc
    obtain ⟨p, hp, rfl⟩ := List.mem_map.mp ha
    have : (r.find? fun q => decide (q.1 = k)).isSome := List.find?_isSome.mpr ⟨p, hp, decide_eq_true (e.trans hc)⟩
    simp only [atKey, Option.isSome_map]
    exact this
end
section
variable {W : Wd} {X : Cx} {pins : List (Addr × Obj)} {σ : L2.St} {F : AS} {ρ : List Addr} {H : Hp} {s : Shared}
/-- keys and values as they lie behind one another -/
def PKs (W : Wd) (F : AS) (ρ : List Addr) (H : Hp) : List PV → List PV → List (Value × Value) → Prop
  | k :: kr, v :: vr, l => ∃ y u z r ps, l = (u, r) :: ps ∧ Rep W F ρ H k y ∧ RelV y u ∧ Rep W F ρ H v z ∧ RelV z r ∧ PKs W F ρ H kr vr ps
  | [], [], l => l = []
  | _, _, _ => False
theorem merge_keys : ∀ {kr vr : List PV} {ps : List (Value × Value)} {ks vs : List PV} {kks : List Key} {bs xs : List V} {ws : List (Key × Value)} {p : List PV × List PV}, PKs W F ρ H kr vr ps → kr.all keyA = true → ks.all keyA = true →
    keysS ks = some kks → kks.Nodup → kks.length = xs.length → KV (kks.zip xs) ws → Reps W F ρ H ks bs → Reps W F ρ H vs xs → putAll ks vs kr vr = some p →
    ∃ (more : List (Key × Value)) (kks' : List Key) (xs' bs' : List V), more.length = ps.length ∧ (∀ (i : Nat) (k u : Value), ps[i]? = some (k, u) → ∃ kk, more[i]? = some (kk, u) ∧ (mixKind X.prog X.w).is kk k = true) ∧ keysS p.1 = some kks' ∧ kks'.length = xs'.length ∧ KV (kks'.zip xs') (merged ws more) ∧ Reps W F ρ H p.1 bs' ∧ Reps W F ρ H p.2 xs'
  | [], [], ps, ks, vs, kks, bs, xs, ws, p, pk, _, _, h1, h2, h3, h4, h5, h6, e => by
    simp only [PKs] at pk
    subst pk
    simp only [putAll, Option.some.injEq] at e
    subst e
    exact ⟨[], kks, xs, bs, rfl, fun i k u q => by simp at q, h1, h3, h4, h5, h6⟩
  | k :: kr, v :: vr, l, ks, vs, kks, bs, xs, ws, p, pk, a1, a2, h1, h2, h3, h4, h5, h6, e => by
    simp only [PKs] at pk
    obtain ⟨y, u, z, r, ps, rfl, r1, r2, r3, r4, pk⟩ := pk
    simp only [List.all_cons, Bool.and_eq_true] at a1
    simp only [putAll] at e
    split at e <;> try contradiction
    obtain ⟨kx, hkx⟩ := keyA_S a1.1
    have ey := r1.kV hkx
    subst ey
    obtain ⟨kks', xs', bs', g1, g2, g3, g4, g5⟩ := put_keys hkx r3 h1 h2 h3 h5 h6
    have hnd : kks'.Nodup := by
      have := putK_nodup (k := kx) (z := z) (r := kks.zip xs) (by rw [List.map_fst_zip (by omega)]; exact h2)
      rw [g3, List.map_fst_zip (by omega)] at this
      exact this
    have ha : (put k v ks vs).1.all keyA = true := by
      have : ∀ {ks : List PV} {kks : List Key}, keysS ks = some kks → ks.all keyA = true := by
        intro ks
        induction ks with
        | nil => intro _ _; rfl
        | cons x xs ih =>
          intro kks h
          simp only [keysS] at h
          split at h
          · rename_i a b q1 q2
            rw [List.all_cons, ih q2, Bool.and_true]
            cases x <;> simp [keyS] at q1 <;> rfl
          · cases h
      exact this g1
    have hkv : KV (kks'.zip xs') (stored ws kx r) := by rw [← g3]; exact h4.put kx r4
    obtain ⟨more, k2, x2, b2, f1, f2, f3, f4, f5, f6, f7⟩ := merge_keys pk a1.2 ha g1 hnd g2 hkv g4 g5 e
    refine ⟨(kx, r) :: more, k2, x2, b2, by simp [f1], fun i k' u' q => ?_, f3, f4, f5, f6, f7⟩
    cases i with
    | zero => simp at q; obtain ⟨rfl, rfl⟩ := q; exact ⟨kx, rfl, kV_is r2⟩
    | succ i => exact f2 i k' u' (by simpa using q)
  | [], _ :: _, _, _, _, _, _, _, _, _, pk, _, _, _, _, _, _, _, _, _ => by simp [PKs] at pk
  | _ :: _, [], _, _, _, _, _, _, _, _, pk, _, _, _, _, _, _, _, _, _ => by simp [PKs] at pk
theorem merge_nks (I : Inv X pins σ H s) (hK : X.K = W.K) : ∀ {kr vr : List PV} {ps : List (Value × Value)} {ks vs : List PV} {es : List (NestedKey × Addr × Value)} {xs : List V} {p : List PV × List PV}, PKs W F ρ H kr vr ps → kr.all isTup = true → ks.all isTup = true →
    nks ks = some (es.map (·.1)) → (es.map (·.1)).Nodup → (∀ e ∈ es, e.1.depth ≤ 8) → Reps W F ρ H ks (es.map fun e => V.ref e.2.1) → Vals xs (es.map (·.2.2)) → Reps W F ρ H vs xs → putAll ks vs kr vr = some p →
    ∃ (more : List (NestedKey × Addr × Value)) (xs' : List V), more.length = ps.length ∧ (∀ (i : Nat) (k u : Value), ps[i]? = some (k, u) → ∃ kk b, more[i]? = some (kk, b, u) ∧ k = Value.ref b) ∧ (∀ e ∈ more, NestedIs s.heap e.1 (.ref e.2.1) ∧ e.1.depth ≤ 8) ∧
      nks p.1 = some ((storedAllH es more).map (·.1)) ∧ ((storedAllH es more).map (·.1)).Nodup ∧ (∀ e ∈ storedAllH es more, e.1.depth ≤ 8) ∧ Reps W F ρ H p.1 ((storedAllH es more).map fun e => V.ref e.2.1) ∧ Vals xs' ((storedAllH es more).map (·.2.2)) ∧ Reps W F ρ H p.2 xs' ∧ p.1.all isTup = true
  | [], [], ps, ks, vs, es, xs, p, pk, _, a2, h1, h2, h3, h4, h5, h6, e => by
    simp only [PKs] at pk
    subst pk
    simp only [putAll, Option.some.injEq] at e
    subst e
    exact ⟨[], xs, rfl, fun i k u q => by simp at q, fun e he => by simp at he, h1, h2, h3, h4, h5, h6, a2⟩
  | k :: kr, v :: vr, l, ks, vs, es, xs, p, pk, a1, a2, h1, h2, h3, h4, h5, h6, e => by
    simp only [PKs] at pk
    obtain ⟨y, u, z, r, ps, rfl, r1, r2, r3, r4, pk⟩ := pk
    simp only [List.all_cons, Bool.and_eq_true] at a1
    simp only [putAll] at e
    split at e <;> try contradiction
    rename_i ok
    unfold dkOk at ok
    rw [if_pos a1.1, Bool.and_eq_true] at ok
    obtain ⟨n, hn, hd⟩ := keyD_nk ok.1
    obtain ⟨b, rfl⟩ := r1.tupRef a1.1
    cases (show u = Value.ref b from r2)
    obtain ⟨xs', g1, g2, g3, g4⟩ := put_nks hn r1 r3 r4 h1 h2 h4 h5 h6
    obtain ⟨more, x2, f1, f2, f3, f4⟩ := merge_nks I hK pk a1.2 (put_isTup a1.1 a2) g1 (storedH_nodup h2) (storedH_depth h3 hd) g2 g3 g4 e
    refine ⟨(n, b, r) :: more, x2, by simp [f1], fun i k' u' q => ?_, fun e he => ?_, f4⟩
    · cases i with
      | zero => simp at q; obtain ⟨rfl, rfl⟩ := q; exact ⟨n, b, rfl, rfl⟩
      | succ i => exact f2 i k' u' (by simpa using q)
    · rcases List.mem_cons.mp he with rfl | he
      · exact ⟨Rep.nested I hK hn r1 rfl, hd⟩
      · exact f3 e he
  | [], _ :: _, _, _, _, _, _, _, pk, _, _, _, _, _, _, _, _, _ => by simp [PKs] at pk
  | _ :: _, [], _, _, _, _, _, _, pk, _, _, _, _, _, _, _, _, _ => by simp [PKs] at pk
/-- the pairs as they are read -/
theorem pairs_read (I : Inv X pins σ H s) (hK : X.K = W.K) : ∀ {ts ks vs : List PV} {xs : List V} {us : List Value}, kvOf ts = some (ks, vs) → Reps W F ρ H ts xs → Vals xs us →
    ∃ (Ts : List Addr) (ps : List (Value × Value)), us = Ts.map Value.ref ∧ Ts.length = ps.length ∧ PKs W F ρ H ks vs ps ∧ ∀ j k v, ps[j]? = some (k, v) → PairAt s.heap (Ts.getD j 0) k v
  | [], ks, vs, xs, us, e, r, v => by
    simp only [kvOf, Option.some.injEq, Prod.mk.injEq] at e
    obtain ⟨rfl, rfl⟩ := e
    simp only [Reps] at r
    subst r
    cases v
    exact ⟨[], [], rfl, rfl, by simp [PKs], fun j k v h => by simp at h⟩
  | t :: ts, ks, vs, xs, us, e, r, v => by
    have hx : ∃ x y kr vr, t = .tup [x, y] ∧ kvOf ts = some (kr, vr) ∧ ks = x :: kr ∧ vs = y :: vr := by
      unfold kvOf at e
      split at e
      · rename_i h; cases h
      · rename_i i j rr h
        cases h
        obtain ⟨qs, e1, e2⟩ := Option.map_eq_some_iff.mp e
        cases e2
        exact ⟨i, j, qs.1, qs.2, rfl, e1, rfl, rfl⟩
      · cases e
    obtain ⟨x, y, kr, vr, rfl, e1, rfl, rfl⟩ := hx
    simp only [Reps] at r
    obtain ⟨z, zs, rfl, r1, r2⟩ := r
    cases v with
    | cons v1 v2 =>
      obtain ⟨Ts, ps, rfl, h2, h3, h4⟩ := pairs_read I hK e1 r2 v2
      obtain ⟨a, ys, rfl, ha, rr⟩ := r1.tupI
      cases v1
      rw [← hK] at ha
      obtain ⟨its, rv, ho, hz⟩ := I.tuple ha
      simp only [Reps] at rr
      obtain ⟨w1, _, rfl, q1, w2, _, rfl, q2, rfl⟩ := rr
      obtain ⟨u1, u2, rfl, ri, rj⟩ := vals2 rv
      refine ⟨a :: Ts, (u1, u2) :: ps, rfl, by simp [h2], ?_, fun j k v h => ?_⟩
      · simp only [PKs]
        exact ⟨w1, u1, w2, u2, ps, rfl, q1, ri, q2, rj, h3⟩
      · cases j with
        | zero => simp at h; obtain ⟨rfl, rfl⟩ := h; exact .inl (show s.heap.IsTuple a #[u1, u2] from ho)
        | succ j => simpa using h4 j k v (by simpa using h)
theorem pks_len : ∀ {ks vs : List PV} {ps : List (Value × Value)}, PKs W F ρ H ks vs ps → ps.length = ks.length
  | [], [], _, h => by simp only [PKs] at h; subst h; rfl
  | k :: ks, v :: vs, l, h => by
    simp only [PKs] at h
    obtain ⟨_, _, _, _, ps, rfl, _, _, _, _, h⟩ := h
    simp [pks_len h]
  | [], _ :: _, _, h => by simp [PKs] at h
  | _ :: _, [], _, h => by simp [PKs] at h
theorem putAll_kinds : ∀ {kr vr ks vs : List PV} {p : List PV × List PV}, kr.length = vr.length → putAll ks vs kr vr = some p → (ks.all isTup = true → ks ≠ [] → kr.all isTup = true) ∧ (ks.all keyA = true → ks ≠ [] → kr.all keyA = true) ∧ (ks = [] → kr.all isTup = true ∨ kr.all keyA = true)
  | [], _, _, _, _, _, _ => ⟨fun _ _ => rfl, fun _ _ => rfl, fun _ => .inl rfl⟩
  | k :: kr, [], _, _, _, h, _ => by simp at h
  | k :: kr, v :: vr, ks, vs, p, hl, e => by
    simp only [putAll] at e
    split at e <;> try contradiction
    rename_i ok
    obtain ⟨c1, c2, c3⟩ := putAll_kinds (by simpa using hl) e
    have ne : (put k v ks vs).1 ≠ [] := by
      cases ks with
      | nil => simp [put]
      | cons a ks =>
        cases vs with
        | nil => simp [put]
        | cons w vs => simp only [put]; split <;> simp
    have k2 : ∀ {ks vs : List PV}, keyA k = true → ks.all keyA = true → (put k v ks vs).1.all keyA = true := by
      intro ks
      induction ks with
      | nil => intro vs h _; simp [put, h]
      | cons a ks ih =>
        intro vs h1 h2
        simp only [List.all_cons, Bool.and_eq_true] at h2
        cases vs with
        | nil => simp [put, h1]
        | cons w vs =>
          simp only [put]
          split
          · simp [h2.1, h2.2]
          · simp only [List.all_cons, h2.1, Bool.true_and]; exact ih h1 h2.2
    unfold dkOk at ok
    by_cases ht : isTup k = true
    · rw [if_pos ht, Bool.and_eq_true] at ok
      have := c1 (put_isTup ht ok.2) ne
      refine ⟨fun _ _ => by simp [ht, this], fun h h0 => ?_, fun _ => .inl (by simp [ht, this])⟩
      cases ks with
      | nil => exact absurd rfl h0
      | cons a ks =>
        simp only [List.all_cons, Bool.and_eq_true] at ok h
        have h1 := h.1
        have h2 := ok.2.1
        cases a <;> simp [keyA, isTup] at h1 h2
    · rw [if_neg ht, Bool.and_eq_true] at ok
      have := c2 (k2 ok.1 ok.2) ne
      refine ⟨fun h h0 => ?_, fun _ _ => by simp [ok.1, this], fun _ => .inr (by simp [ok.1, this])⟩
      cases ks with
      | nil => exact absurd rfl h0
      | cons a ks =>
        simp only [List.all_cons, Bool.and_eq_true] at ok h
        have h1 := h.1
        have h2 := ok.2.1
        cases a <;> simp [keyA, isTup] at h1 h2

theorem storedAllH_len {es more : List (NestedKey × Addr × Value)} : (storedAllH es more).length ≤ es.length + more.length := storedAllH_length more es
theorem bi_dict (hc : X.calm = true) (hu : X.A.units + 100 < cLine) (hK : X.K = W.K) (hw : X.w = W.w) : BiR W X (.type "dict") .dict := BiR.split fun pins s σ H F ρ h ts t vs us Q I p e rb r k => by
  unfold biV at e
  split at e <;> try contradiction
  rename_i l _
  obtain ⟨v, rfl, rm⟩ := rb1 rb
  obtain ⟨a, xs, rfl, ha, rr⟩ := rm.lst
  obtain ⟨u, rfl, ru⟩ := vals1 r
  cases ru
  split at e <;> try contradiction
  rename_i ks ws hkv
  split at e <;> try contradiction
  rename_i hsz
  obtain ⟨q, hq, rfl⟩ := Option.map_eq_some_iff.mp e
  obtain ⟨its, rv, pl, hz⟩ := I.list (SqL.of ha)
  obtain ⟨Ts, ps, hus, hlen, pk, hpa⟩ := pairs_read I hK hkv rr rv
  have hpl := pks_len pk
  have hks : ks.length ≤ sizeLine := szOk_le hsz
  have hvl : ks.length = ws.length := by
    have : ∀ {ks vs : List PV} {ps : List (Value × Value)}, PKs W F ρ H ks vs ps → ks.length = vs.length := by
      intro ks
      induction ks with
      | nil => intro vs ps h; cases vs with | nil => rfl | cons _ _ => simp [PKs] at h
      | cons k ks ih =>
        intro vs ps h
        cases vs with
        | nil => simp [PKs] at h
        | cons v vs => simp only [PKs] at h; obtain ⟨_, _, _, _, ps, rfl, _, _, _, _, h⟩ := h; simp [ih h]
    exact this pk
  have hm : (s.heap.objs.size == sysModules) = false := beq_eq_false_iff_ne.mpr (Nat.ne_of_gt I.big)
  have P := PairArg.list (prog := X.prog) (w := X.w) a its.toArray (fun j => Ts.getD j 0) ps
  have ok : PlainSeq "list" s.heap a its.toArray ∧ PairItems s.heap its.toArray (fun j => Ts.getD j 0) ps := by
    refine ⟨?_, by simp [hus, hlen], fun j k v hj => ⟨?_, hpa j k v hj⟩⟩
    · obtain ⟨o, n, ho, hc2, hd, hdat⟩ := pl
      exact ⟨o, n, ho, hc2, hd, hdat⟩
    · have hj2 : j < Ts.length := by rw [hlen]; exact (List.getElem?_eq_some_iff.mp hj).1
      simp [hus, hj2]
  have hn := I.hok.fresh (Nat.le_refl s.heap.objs.size)
  obtain ⟨n1, n2⟩ := p.notin hn
  obtain ⟨c1, c2, c3⟩ := putAll_kinds hvl hq
  have fin : ∀ {o : HO} {h' : Heap} {tk : Nat} {bs' xs' : List V}, (∀ b u, s.heap.get? b = some u → h'.get? b = some u) → ObjOk X.prog X.w (upd H s.heap.objs.size o) h' s.heap.objs.size o →
      DictAt W (upd H s.heap.objs.size o) s.heap.objs.size q.1 bs' xs' → Reps W F ρ H q.1 bs' → Reps W F ρ H q.2 xs' → EP X pins σ Q (.ref s.heap.objs.size) { s with heap := h', toks := tk } := fun {o h' tk bs' xs'} kp ob D R Rv => by
    obtain ⟨x2, p2⟩ := Ext.new' (o := o) p hn
    refine ⟨.ref s.heap.objs.size, _, I.laid (t' := tk) kp (Nat.le_refl _) ob, rfl, k _ F _ x2 p2 ⟨?_, fun b _ e => by cases e; exact hn⟩⟩
    simp only [Own]
    exact ⟨_, bs', xs', rfl, D, n2, n1, R.stay x2.stay, Rv.stay x2.stay⟩
  rcases c3 rfl with hk | hk
  · obtain ⟨more, xs', f1, f2, f3, f4, f5, f6, f7, f8, f9, f10⟩ := merge_nks (X := X) I hK pk hk (es := []) (ks := []) (vs := []) (xs := []) rfl (by simp [nks]) (by simp) (fun e he => by simp at he) (by simp [Reps]) .nil (by simp [Reps]) hq
    refine PySem.call_dict_pairsH (knd := nestedKind X.prog X.w) (ps := more) P (I.ok.hd hc) (show X.A.in1.in1.units + 8 < cLine from ?_) ok ⟨f1, f2⟩ (fun h' hk x hx => ?_) (by omega) fun h' tk dd kp => ?_
    · show X.A.units + 1 + 1 + 8 < cLine
      omega
    · obtain ⟨g1, g2⟩ := f3 x hx
      refine ⟨NestedIs.at (fun b o vs n hb hd => hk b o (fun z => ?_) (by simp) hb) _ _ g1, g2⟩
      rw [z] at hb
      exact absurd (Heap.lt_size hb) (Nat.lt_irrefl _)
    · have hl : (storedAllH [] more).length ≤ sizeLine := by
        have := storedAllH_len (es := []) (more := more)
        simp at this
        omega
      exact fin (fun b u e => kp b u (by simp) e) (ext_new hw dd) (.inr ⟨_, upd_same, f4, rfl, f8, hl, hm, f5, f6, f10⟩) f7 f9
  · obtain ⟨more, kks', xs', bs', f1, f2, f3, f4, f5, f6, f7⟩ := merge_keys (X := X) pk hk (ks := []) (vs := []) (kks := []) (xs := []) (bs := []) (ws := []) rfl rfl (by simp) rfl .nil (by simp [Reps]) (by simp [Reps]) hq
    refine PySem.call_dict_pairs (knd := mixKind X.prog X.w) (kvs := more) P (I.ok.hd hc) ok ⟨f1, f2⟩ (by omega) fun h' tk dd kp => ?_
    have hl : (kks'.zip xs').length ≤ sizeLine := by
      rw [f5.length]
      have := merged_length [] more
      simp at this
      omega
    exact fin (fun b u e => kp b u (by simp) e) (dk_new hl hm f5 dd) (.inl ⟨kks', f3, f4, upd_same⟩) f6 f7
end
end MP

set_option Elab.async false
set_option linter.all false
set_option maxRecDepth 100000
namespace MP
open PySem PySem.Spec PyProof.Rows L2

/-! ### lists and tuples alike -/
def SqB (b : Bool) (K : PySem.W.Frag) (H : Hp) (a : Addr) (xs : List V) : Prop := if b = true then SqL K H a xs else SqT K H a xs
def ItB (b : Bool) (h : Heap) (it a : Addr) (i : Nat) : Prop := if b = true then h.IsListIter it a i else h.IsTupleIter it a i
def ObB (b : Bool) (h : Heap) (a : Addr) (its : Array Value) : Prop := if b = true then h.IsList a its else h.IsTuple a its
def NewB (b : Bool) (a : Addr) : Obj := if b = true then { cls := .type "list_iterator", data := .fields #[.ref a, .int 0 0] } else { cls := .type "tuple_iterator", data := .fields #[.ref a, .int 0 0] }
section
variable {prog : Program} {w : World} {A : Around} {E : Value → Shared → Prop} {s : Shared} {X : Cx} {pins : List (Addr × Obj)} {σ : L2.St} {H : Hp} {b : Bool} {a it : Addr} {xs ys : List V} {K : PySem.W.Frag}
theorem drawsB (hh : A.handled = none) (hne : a ≠ it) (items : Array Value) : Draws prog w A it [it, a] items.size (fun i v => items[i]? = some v) (fun i h => ItB b h it a i ∧ ObB b h a items) := by
  cases b with
  | true => exact Draws.list hh it a hne items
  | false => exact Draws.tuple hh it a hne items
theorem beginsB (items : Array Value) : Begins (.ref a) (NewB b a) (fun h => ObB b h a items) := by
  cases b with
  | true => exact begins_list a items
  | false => exact begins_tuple a items
theorem ItB.new {h : Heap} (e : h.get? it = some (NewB b a)) : ItB b h it a 0 := by
  cases b with
  | true => exact ⟨_, e, rfl, rfl⟩
  | false => exact ⟨_, e, rfl, rfl⟩
theorem ItB.at {h h' : Heap} {i : Nat} (x : ItB b h it a i) (k : ∀ o, h.get? it = some o → h'.get? it = some o) : ItB b h' it a i := by
  cases b with
  | true => exact Heap.IsListIter.at x k
  | false => exact Heap.IsTupleIter.at x k
theorem ItB.ob {h : Heap} {i : Nat} (x : ItB b h it a i) : ∃ o, h.get? it = some o ∧ ∀ v, o.data ≠ .cell v := by
  cases b with
  | true => obtain ⟨o, e, _, d⟩ := x; exact ⟨o, e, fun v z => by rw [d] at z; cases z⟩
  | false => obtain ⟨o, e, _, d⟩ := x; exact ⟨o, e, fun v z => by rw [d] at z; cases z⟩
theorem ObB.lt {h : Heap} {its : Array Value} (x : ObB b h a its) : a < h.objs.size := by
  cases b with
  | true => obtain ⟨o, e, _⟩ := x; exact Heap.lt_size e
  | false => obtain ⟨o, e, _⟩ := x; exact Heap.lt_size e
theorem seqB (I : Inv X pins σ H s) (h : SqB b X.K H a xs) : ∃ its, Vals xs its ∧ ObB b s.heap a its.toArray := by
  cases b with
  | true => obtain ⟨its, rv, p, _⟩ := I.list h; exact ⟨its, rv, p.isList⟩
  | false => obtain ⟨its, rv, p, _⟩ := I.tuple h; exact ⟨its, rv, p⟩
theorem SqB.inj (I : Inv X pins σ H s) (h : SqB b X.K H a xs) (h' : SqB b X.K H a ys) : xs = ys := by
  cases b with
  | true => exact I.list_inj h h'
  | false => exact I.tuple_inj h h'
end

/-! ### enumerate -/
def ItEn (b : Bool) (K : PySem.W.Frag) (a : Addr) : It :=
  ⟨fun i H => ∃ (xs : List V) (x : V), SqB b K H a xs ∧ xs[i]? = some x, fun i H v H' => ∃ T x o, v = .ref T ∧ H T = none ∧ o.dict = none ∧ H' = upd H T (.frz o (.tup [.int (i : Nat), x])) ∧ ∀ xs, SqB b K H a xs → xs[i]? = some x, fun i H => ∃ xs : List V, SqB b K H a xs ∧ xs.length = i⟩
theorem turn_en {P : Program} {w : World} {K : PySem.W.Frag} {elts : List Expr} {kk : Nat} {tpos : Pos} {b : Bool} (a e it : Addr) :
    Turn P w K (.Tuple elts kk tpos) (ItEn b K a) [e, it] e (fun i h => (∃ old, IsEnum h e it ((i : Nat) : Int) old) ∧ ItB b h it a i ∧ e ≠ it ∧ a ≠ it ∧ e ≠ a) where
  mem := by simp
  obj := fun i h st c hc => by
    obtain ⟨⟨old, he⟩, hi, _⟩ := st
    rcases List.mem_cons.mp hc with z | z
    · rw [z]; exact ⟨_, he, fun v q => nomatch q⟩
    · rw [List.mem_singleton.mp z]; exact hi.ob
  keep := fun i h h' st k => let ⟨⟨old, he⟩, hi, hne⟩ := st; ⟨⟨old, k e (by simp) _ he⟩, hi.at fun o q => k it (by simp) o q, hne⟩
  item := by
    intro X hP hw hK hc i pins s σ H E I hf st hg
    subst hP hw hK
    obtain ⟨⟨old, he⟩, hi, n1, n2, n3⟩ := st
    obtain ⟨xs, x, hq, hx⟩ := hg
    obtain ⟨its, rv, ob⟩ := seqB I hq
    obtain ⟨u, hu, ru⟩ := rv.get hx
    have D : Draws X.prog X.w X.A.in1 it [it, a] its.toArray.size (fun i v => its.toArray[i]? = some v) (fun i h => ItB b h it a i ∧ ObB b h a its.toArray) := drawsB (A := X.A.in1) (b := b) (I.ok.hd hc) n2 its.toArray
    have hil : i < its.toArray.size := by
      rw [List.size_toArray]; exact (List.getElem?_eq_some_iff.mp hu).1
    have hel : e < s.heap.objs.size := Heap.lt_size he
    refine wpAny_pyNext_enum_itemD D he ⟨hi, ob⟩ hil n1 (by simp [n1, n3]) fun y h' tk hy ho st' hT hsz hk => ?_
    have ey : y = u := by
      rw [List.getElem?_toArray, hu] at hy
      exact (Option.some.inj hy).symm
    subst ey
    refine ⟨_, rfl, wpAny_letOwnedTupleGo_enum (s := { s with heap := h', toks := tk + 1 }) ho fun g he' sb => ?_⟩
    have hT2 : g.get? s.heap.objs.size = some { cls := .type "tuple", data := .seq #[.int i tk, y] } := (sb.2 _ (Nat.ne_of_gt hel)).trans hT
    have new : ObjOk X.prog X.w (upd H s.heap.objs.size (.frz { cls := .type "tuple", data := .seq #[.int i tk, y] } (.tup [.int (i : Nat), x]))) g s.heap.objs.size (.frz { cls := .type "tuple", data := .seq #[.int i tk, y] } (.tup [.int (i : Nat), x])) :=
      ⟨hT2, by show 2 ≤ sizeLine; decide, [.int i tk, y], .cons ⟨_, rfl⟩ (.cons ru .nil), ⟨_, hT2, rfl, _, rfl⟩⟩
    have I1 : Inv X pins σ (upd H s.heap.objs.size (.frz { cls := .type "tuple", data := .seq #[.int i tk, y] } (.tup [.int (i : Nat), x]))) { s with heap := g, toks := tk + 1 } :=
      I.turnedNew (ch := [e, it]) (fun c o hb q => (sb.2 c (fun z => hb (by simp [z]))).trans (hk c o (fun z => hb (by simp [z])) (fun z => hb (by simp [z])) q)) hf (Nat.le_refl _) new
    refine ⟨.ref s.heap.objs.size, _, I1, rfl, ⟨_, x, _, rfl, I.hok.fresh (Nat.le_refl _), rfl, rfl, fun ys hy => by rw [SqB.inj I hy hq]; exact hx⟩, ⟨⟨y, ?_⟩, st'.1.at fun o q => (sb.2 it (Ne.symm n1)).trans q, n1, n2, n3⟩, fun c hb => ?_⟩
    · rw [show ((i + 1 : Nat) : Int) = (i : Int) + 1 from by omega]; exact he'
    · have hlt : c < s.heap.objs.size := by
        rcases List.mem_cons.mp hb with z | z
        · rw [z]; exact hel
        · rw [List.mem_singleton.mp z]; obtain ⟨o, q, _⟩ := hi.ob; exact Heap.lt_size q
      rw [upd_ne (Nat.ne_of_lt hlt)]
      exact (hf c hb).1
  done := by
    intro X hP hw hK hc i pins s σ H E I hf st hg
    subst hP hw hK
    obtain ⟨⟨old, he⟩, hi, n1, n2, n3⟩ := st
    obtain ⟨xs, hq, hx⟩ := hg
    obtain ⟨its, rv, ob⟩ := seqB I hq
    obtain ⟨f0, f1, f2, f3, f4, f5⟩ := hf it (by simp)
    have D : Draws X.prog X.w X.A.in1 it [it, a] its.toArray.size (fun i v => its.toArray[i]? = some v) (fun i h => ItB b h it a i ∧ ObB b h a its.toArray) := drawsB (A := X.A.in1) (b := b) (I.ok.hd hc) n2 its.toArray
    have hs : its.toArray.size = i := by rw [List.size_toArray, ← rv.length, hx]
    exact wpAny_pyNext_enum_endD D he (by rw [hs]; exact ⟨hi, ob⟩) fun h' eb => ⟨rfl, I.turned (t' := s.toks) (fun b o hb q => eb b o hb q) f0 f1 f3 f4 f5⟩
  self := fun A i s Q E st h => let ⟨⟨_, he⟩, _⟩ := st; wpAny_pyIter_enum he h

theorem enum_new1 {v : Value} {o : Obj} {H : Heap → Prop} (B : Begins v o H) :
    Meets (Builtin.«enumerate.__new__» ⟨[.type "enumerate", v], []⟩) (fun _ R s => H s.heap ∧ R (.ok (.ret (.ref (s.heap.push o).objs.size))) { s with heap := (s.heap.push o).push { cls := .type "enumerate", data := .fields #[.none, .bool false, .ref s.heap.objs.size, rawInt 0, .none, .none] } }) :=
  .of_wp fun prog w A R s h => by
    obtain ⟨hp, g, d, tk, os⟩ := s
    obtain ⟨h1, h⟩ := h
    have k0 := sub_enumerate
    have k1 : ∀ {A' : Around} {E : Value → Shared → Prop} {Q : Value → Shared → Prop}, Q (.ref hp.objs.size) ⟨hp.push o, g, d, tk, os⟩ → wpAny (model prog w) A' (pyIter v) Q E ⟨hp, g, d, tk, os⟩ := fun q => B.iter prog w _ _ ⟨hp, g, d, tk, os⟩ _ h1 q
    wp_walk using k1
    apply wpAny_stack_any
    intro st
    apply wpAny_pure
    split
    · rename_i c _ _ _ _ _
      cases (c == Value.type "enumerate") <;> (wp_walk using k1; exact ⟨_, rfl, h⟩)
    · wp_walk using k1
      exact ⟨_, rfl, h⟩
section
variable {prog : Program} {w : World} {A : Around} {E : Value → Shared → Prop} {s : Shared}
theorem enum_make {v : Value} {o : Obj} {H : Heap → Prop} {Q : Value → Shared → Prop} (B : Begins v o H) (h1 : H s.heap)
    (h : ∀ g, IsEnum g (s.heap.objs.size + 1) s.heap.objs.size 0 .none → g.get? s.heap.objs.size = some o → (∀ b o, s.heap.get? b = some o → g.get? b = some o) → Q (.ref (s.heap.objs.size + 1)) { s with heap := g }) :
    wpAny (model prog w) A (call (.type "enumerate") [v]) Q E s := by
  refine callType_new F.called_enumerate (by decide) (F.typeCall_enumerate_1 _) (F.newCall_enumerate_1 _) (fun obj => F.args_object_init_2 obj _) F.entry_enumerate_new (enum_new1 B) ⟨h1, ?_⟩
  have z : (s.heap.push o).objs.size = s.heap.objs.size + 1 := Heap.size_push ..
  show _ ∧ _
  rw [z]
  have e : ((s.heap.push o).push { cls := .type "enumerate", data := .fields #[.none, .bool false, .ref s.heap.objs.size, rawInt 0, .none, .none] }).get? (s.heap.objs.size + 1) = some { cls := .type "enumerate", data := .fields #[.none, .bool false, .ref s.heap.objs.size, rawInt 0, .none, .none] } := by
    rw [← z]; exact Heap.get?_push_size _ rfl
  exact ⟨⟨_, e, rfl⟩, h _ e (Heap.get?_push_of_some _ (Heap.get?_push_size _ B.free)) fun b o x => Heap.get?_push_of_some _ (Heap.get?_push_of_some _ x)⟩
end
def iEn (K : PySem.W.Frag) (ta : TE) : TI := fun σ H R => ta σ H fun v H1 => ∃ b a xs, v = .ref a ∧ SqB b K H1 a xs ∧ R (ItEn b K a) H1
theorem pi_en {X : Cx} {e : Expr} {ta : TE} {x : Str} {p pos tpos : Pos} {elts : List Expr} {kk : Nat} (hg : Gl X x) (hm : X.mg x = none) (hv : bootBuiltins x = some (.type "enumerate")) (hn : x ≠ "__name__") (hd : (x == ("__debug__" : Str)) = false) (ha : PE X e ta)
    (hs : starEach [e] X.env = (false, eval e X.env) :: starEach [] X.env) :
    PI X (.Tuple elts kk tpos) (.Call (.Name x p) [e] [] pos) (iEn X.K ta) := by
  refine ⟨fun pins s σ H R I h => ?_⟩
  refine wpAny_Call_Name_kw (ld_blt I hg hm hv ?_ hn hd)
  refine PyProof.Rows.callWith_type1 (one_arg ha I h (fun v s1 x H1 I1 r1 q1 => ?_) hs) hs rfl
  obtain ⟨b, a, xs, rfl, hq, q⟩ := q1
  cases r1
  obtain ⟨its, rv, ob⟩ := seqB I1 hq
  refine enum_make (beginsB (b := b) its.toArray) ob fun g he hit hk => wpAny_pyIter_enum he ?_
  have I2 : Inv X pins σ H1 { s1 with heap := g } := I1.kept (t' := s1.toks) hk
  have hal : a < s1.heap.objs.size := ob.lt
  refine ⟨s1.heap.objs.size + 1, [s1.heap.objs.size + 1, s1.heap.objs.size], _, _, H1, rfl, I2, turn_en (b := b) a (s1.heap.objs.size + 1) s1.heap.objs.size, ⟨⟨.none, he⟩, ItB.new hit, Nat.succ_ne_self _, Nat.ne_of_lt hal, fun z => ?_⟩, fun c hb => ?_, q⟩
  · exact absurd hal (by rw [← z]; exact Nat.not_lt.mpr (Nat.le_succ _))
  · have hle : s1.heap.objs.size ≤ c := by
      rcases List.mem_cons.mp hb with z | z
      · rw [z]; exact Nat.le_add_right _ _
      · rw [List.mem_singleton.mp z]; exact Nat.le_refl _
    exact I1.fpOk hle (I1.hok.fresh hle)

/-! ### zip of two -/
def ItZ2 (b c : Bool) (K : PySem.W.Frag) (a1 a2 : Addr) : It :=
  ⟨fun i H => ∃ (xs ys : List V) (x y : V), SqB b K H a1 xs ∧ SqB c K H a2 ys ∧ xs[i]? = some x ∧ ys[i]? = some y,
    fun i H v H' => ∃ T x y o, v = .ref T ∧ H T = none ∧ o.dict = none ∧ H' = upd H T (.frz o (.tup [x, y])) ∧ (∀ xs, SqB b K H a1 xs → xs[i]? = some x) ∧ (∀ ys, SqB c K H a2 ys → ys[i]? = some y),
    fun i H => ∃ xs ys : List V, SqB b K H a1 xs ∧ SqB c K H a2 ys ∧ i ≤ xs.length ∧ i ≤ ys.length ∧ (i = xs.length ∨ i = ys.length)⟩
theorem turn_z2 {P : Program} {w : World} {K : PySem.W.Frag} {elts : List Expr} {kk : Nat} {tpos : Pos} {b c : Bool} {a1 a2 z TI TO i1 i2 : Addr} (S : ZipSep2 z TI TO i1 i2 [i1, a1] [i2, a2]) (n1 : a1 ≠ i1) (n2 : a2 ≠ i2) :
    Turn P w K (.Tuple elts kk tpos) (ItZ2 b c K a1 a2) [z, TI, TO, i1, i2] z (fun i h => IsZip h z TI TO .none ∧ IsTupOf2 h TI (.ref i1) (.ref i2) ∧ (∃ x y, IsTupOf2 h TO x y) ∧ ItB b h i1 a1 i ∧ ItB c h i2 a2 i) where
  mem := by simp
  obj := fun i h st d hd => by
    obtain ⟨hz, hTI, ⟨x, y, hTO⟩, h1, h2⟩ := st
    have e : d = z ∨ d = TI ∨ d = TO ∨ d = i1 ∨ d = i2 := by simpa using hd
    rcases e with q | q | q | q | q <;> rw [q]
    · exact ⟨_, hz, fun v q => nomatch q⟩
    · exact ⟨_, hTI, fun v q => nomatch q⟩
    · exact ⟨_, hTO, fun v q => nomatch q⟩
    · exact h1.ob
    · exact h2.ob
  keep := fun i h h' st k => by
    obtain ⟨hz, hTI, ⟨x, y, hTO⟩, h1, h2⟩ := st
    exact ⟨k z (by simp) _ hz, k TI (by simp) _ hTI, ⟨x, y, k TO (by simp) _ hTO⟩, h1.at fun o q => k i1 (by simp) o q, h2.at fun o q => k i2 (by simp) o q⟩
  item := by
    intro X hP hw hK hc i pins s σ H E I hf st hg
    subst hP hw hK
    obtain ⟨hz, hTI, ⟨x0, y0, hTO⟩, h1, h2⟩ := st
    obtain ⟨xs, ys, x, y, hqx, hqy, hx, hy⟩ := hg
    obtain ⟨its, rv, ob⟩ := seqB I hqx
    obtain ⟨its2, rv2, ob2⟩ := seqB I hqy
    obtain ⟨u, hu, ru⟩ := rv.get hx
    obtain ⟨u2, hu2, ru2⟩ := rv2.get hy
    have D1 := drawsB (prog := X.prog) (w := X.w) (A := X.A.in1) (b := b) (I.ok.hd hc) n1 its.toArray
    have D2 := drawsB (prog := X.prog) (w := X.w) (A := X.A.in1) (b := c) (I.ok.hd hc) n2 its2.toArray
    have hzl : z < s.heap.objs.size := Heap.lt_size hz
    have l1 : i < its.toArray.size := by rw [List.size_toArray]; exact (List.getElem?_eq_some_iff.mp hu).1
    have l2 : i < its2.toArray.size := by rw [List.size_toArray]; exact (List.getElem?_eq_some_iff.mp hu2).1
    refine wpAny_pyNext_zipD2_item S D1 D2 hz hTI hTO ⟨h1, ob⟩ ⟨h2, ob2⟩ l1 l2 fun y1 y2 h' tk e1 e2 z' TO' t1 t2 hT hsz hk => ?_
    have q1 : y1 = u := by rw [List.getElem?_toArray, hu] at e1; exact (Option.some.inj e1).symm
    have q2 : y2 = u2 := by rw [List.getElem?_toArray, hu2] at e2; exact (Option.some.inj e2).symm
    subst q1; subst q2
    refine ⟨_, rfl, wpAny_letOwnedTupleGo_zip (s := { s with heap := h', toks := tk }) z' fun g z'' sb => ?_⟩
    have hT2 : g.get? s.heap.objs.size = some { cls := .type "tuple", data := .seq #[y1, y2] } := (sb.2 _ (Nat.ne_of_gt hzl)).trans hT
    have new : ObjOk X.prog X.w (upd H s.heap.objs.size (.frz { cls := .type "tuple", data := .seq #[y1, y2] } (.tup [x, y]))) g s.heap.objs.size (.frz { cls := .type "tuple", data := .seq #[y1, y2] } (.tup [x, y])) := ⟨hT2, by show 2 ≤ sizeLine; decide, [y1, y2], .cons ru (.cons ru2 .nil), ⟨_, hT2, rfl, _, rfl⟩⟩
    have kg : ∀ d o, d ≠ z → d ≠ TO → d ≠ i1 → d ≠ i2 → s.heap.get? d = some o → g.get? d = some o := fun d o k1 k2 k3 k4 q => (sb.2 d k1).trans (hk d o k1 k2 k3 k4 q)
    have I1 : Inv X pins σ (upd H s.heap.objs.size (.frz { cls := .type "tuple", data := .seq #[y1, y2] } (.tup [x, y]))) { s with heap := g, toks := tk } :=
      I.turnedNew (ch := [z, TI, TO, i1, i2]) (fun d o hb q => kg d o (fun q' => hb (by simp [q'])) (fun q' => hb (by simp [q'])) (fun q' => hb (by simp [q'])) (fun q' => hb (by simp [q'])) q) hf (Nat.le_refl _) new
    refine ⟨.ref s.heap.objs.size, _, I1, rfl, ⟨_, x, y, _, rfl, I.hok.fresh (Nat.le_refl _), rfl, rfl, fun l hl => by rw [SqB.inj I hl hqx]; exact hx, fun l hl => by rw [SqB.inj I hl hqy]; exact hy⟩, ⟨z'', kg _ _ S.TIz S.TITO S.TIi1 S.TIi2 hTI, ⟨y1, y2, (sb.2 _ S.TOz).trans TO'⟩, t1.1.at fun o q => (sb.2 _ (Ne.symm S.zi1)).trans q, t2.1.at fun o q => (sb.2 _ (Ne.symm S.zi2)).trans q⟩, fun d hd => ?_⟩
    have hlt : d < s.heap.objs.size := by
      have e : d = z ∨ d = TI ∨ d = TO ∨ d = i1 ∨ d = i2 := by simpa using hd
      rcases e with q | q | q | q | q <;> rw [q]
      · exact hzl
      · exact Heap.lt_size hTI
      · exact Heap.lt_size hTO
      · obtain ⟨_, q, _⟩ := h1.ob; exact Heap.lt_size q
      · obtain ⟨_, q, _⟩ := h2.ob; exact Heap.lt_size q
    rw [upd_ne (Nat.ne_of_lt hlt)]
    exact (hf d hd).1
  done := by
    intro X hP hw hK hc i pins s σ H E I hf st hg
    subst hP hw hK
    obtain ⟨hz, hTI, ⟨x0, y0, hTO⟩, h1, h2⟩ := st
    obtain ⟨xs, ys, hqx, hqy, le1, le2, hend⟩ := hg
    obtain ⟨its, rv, ob⟩ := seqB I hqx
    obtain ⟨its2, rv2, ob2⟩ := seqB I hqy
    have e1 := rv.length
    have e2 := rv2.length
    have D1 := drawsB (prog := X.prog) (w := X.w) (A := X.A.in1) (b := b) (I.ok.hd hc) n1 its.toArray
    have D2 := drawsB (prog := X.prog) (w := X.w) (A := X.A.in1) (b := c) (I.ok.hd hc) n2 its2.toArray
    exact wpAny_pyNext_zipD2_end S D1 D2 hz hTI hTO ⟨h1, ob⟩ ⟨h2, ob2⟩ (by simp; omega) (by simp; omega) (by simp; omega) fun h' tk hk => ⟨rfl, I.turnedL (ch := [z, TI, TO, i1, i2]) (fun d o hb q =>
      hk d o (fun q' => hb (by simp [q'])) (fun q' => hb (by simp [q'])) (fun q' => hb (by simp [q'])) (fun q' => hb (by simp [q'])) q) hf⟩
  self := fun A i s Q E st h => wpAny_pyIter_zip st.1 h
def iZ2 (K : PySem.W.Frag) (ta : TA) : TI := fun σ H R => ta σ H fun vs H1 => ∃ b c a1 a2 xs ys, vs = [.ref a1, .ref a2] ∧ SqB b K H1 a1 xs ∧ SqB c K H1 a2 ys ∧ R (ItZ2 b c K a1 a2) H1
theorem pi_z2 {X : Cx} {e : Expr} {es : List Expr} {ta : TA} {x : Str} {p pos tpos : Pos} {elts : List Expr} {kk : Nat} (hg : Gl X x) (hm : X.mg x = none) (hv : bootBuiltins x = some (.type "zip")) (hn : x ≠ "__name__") (hd : (x == ("__debug__" : Str)) = false) (ha : PA X (e :: es) ta)
    (hs : starEach (e :: es) X.env = (false, eval e X.env) :: starEach es X.env) (hpl : (backTo pos (starEach es X.env)).any (·.1) = false) :
    PI X (.Tuple elts kk tpos) (.Call (.Name x p) (e :: es) [] pos) (iZ2 X.K ta) := by
  refine ⟨fun pins s σ H R I h => ?_⟩
  refine wpAny_Call_Name_kw (ld_blt I hg hm hv ?_ hn hd)
  refine PyProof.Rows.callWith_type1 (thn (ha.run pos pins s σ H _ I h) fun us s1 ⟨vs, H1, I1, r1, q1⟩ => ?_) hs hpl
  obtain ⟨b, c, a1, a2, xs, ys, rfl, hqx, hqy, q⟩ := q1
  obtain ⟨u1, u2, rfl, r1, r2⟩ := vals2 r1
  cases r1
  cases r2
  obtain ⟨its, rv, ob⟩ := seqB I1 hqx
  obtain ⟨its2, rv2, ob2⟩ := seqB I1 hqy
  have l1 : a1 < s1.heap.objs.size := ob.lt
  have l2 : a2 < s1.heap.objs.size := ob2.lt
  refine zip_begins2 (beginsB (b := b) its.toArray) (beginsB (b := c) its2.toArray) ob ob2 fun g hz hTI hTO g1 g2 hsz hk => wpAny_pyIter_zip hz ?_
  have I2 : Inv X pins σ H1 { s1 with heap := g } := I1.kept (t' := s1.toks) hk
  have S : ZipSep2 (s1.heap.objs.size + 4) (s1.heap.objs.size + 2) (s1.heap.objs.size + 3) s1.heap.objs.size (s1.heap.objs.size + 1) [s1.heap.objs.size, a1] [s1.heap.objs.size + 1, a2] :=
    zip_sep2 (fun b hb => by rw [List.mem_singleton.mp hb]; exact l1) (fun b hb => by rw [List.mem_singleton.mp hb]; exact l2)
  refine ⟨s1.heap.objs.size + 4, [s1.heap.objs.size + 4, s1.heap.objs.size + 2, s1.heap.objs.size + 3, s1.heap.objs.size, s1.heap.objs.size + 1], _, _, H1, rfl, I2, turn_z2 (b := b) (c := c) S (Nat.ne_of_lt l1) (Nat.ne_of_lt (Nat.lt_succ_of_lt l2)), ⟨hz, hTI, ⟨_, _, hTO⟩, ItB.new g1, ItB.new g2⟩, fun d hd => ?_, q⟩
  have hle : s1.heap.objs.size ≤ d := by
    have e' : d = s1.heap.objs.size + 4 ∨ d = s1.heap.objs.size + 2 ∨ d = s1.heap.objs.size + 3 ∨ d = s1.heap.objs.size ∨ d = s1.heap.objs.size + 1 := by simpa using hd
    rcases e' with z | z | z | z | z <;> rw [z] <;> first | exact Nat.le_refl _ | exact Nat.le_add_right _ _
  exact I1.fpOk hle (I1.hok.fresh hle)
end MP

set_option Elab.async false
set_option linter.all false
set_option maxRecDepth 100000
namespace MP
open PySem PySem.Spec PyProof.Rows L2

def notSetE : Expr → Bool
  | .Set .. => false
  | _ => true
theorem fold_of {e : Expr} {env : Env} (h : notSetE e = true) : ∀ x, foldedSetIterable e env x = pure x := by
  intro x
  cases e <;> first | rfl | simp [notSetE] at h
section
variable {W : Wd} {F F' F'' : AS} {ρ ρ' ρ'' : List Addr} {H H' H₁ H'' : Hp} {h h' : Hs} {fl fl' : List Nat} {τ τ' : Sl} {σ σ' : L2.St}
/-! ### writing what is owned -/
theorem write_own {a : Addr} {ob o : HO} (p : Hps W F ρ H h) (ha : H a = some ob) (mu : Mut (some ob)) (hf : ¬ F a) (hn : a ∉ ρ) : Stay W F ρ H F ρ (upd H a o) ∧ Hps W F ρ (upd H a o) h := by
  have nt : ∀ b xs, H b = some (.tup xs) → b ≠ a := fun b xs e z => by rw [z, ha] at e; cases e; exact mu
  have nf : ∀ b u v, H b = some (.frz u v) → b ≠ a := fun b u v e z => by rw [z, ha] at e; cases e; exact mu
  have st : Stay W F ρ H F ρ (upd H a o) := ⟨fun _ h => h, ⟨[], by simp⟩, fun b u hb e => by rw [upd_ne (fun z : b = a => hf (z ▸ hb))]; exact e,
    fun b xs e => by rw [upd_ne (nt b xs e)]; exact e, fun b u v e => by rw [upd_ne (nf b u v e)]; exact e⟩
  refine ⟨st, p.len, fun n u b h1 h2 => ?_, p.nd, p.sep, fun b hb => ?_⟩
  · have q := p.obj n u b h1 h2
    have hb : b ≠ a := fun z => hn (z ▸ List.mem_of_getElem? h2)
    cases u with
    | lst ts =>
      simp only [ObjR] at q ⊢
      obtain ⟨xs, e, r⟩ := q
      exact ⟨xs, by rw [upd_ne hb]; exact e, r.stay st⟩
    | ins _ _ => exact q
  · obtain ⟨u, e⟩ := p.tr b hb
    exact ⟨u, by rw [upd_ne (fun z : b = a => hf (z ▸ hb))]; exact e⟩
theorem Ext.write {F₀ : AS} {ρ₀ : List Addr} {H₀ : Hp} {a : Addr} {o ob : HO} (e : Ext F₀ ρ₀ H₀ F ρ H) (h0 : H₀ a = none) (ha : H a = some ob) (mu : Mut (some ob)) : Ext F₀ ρ₀ H₀ F ρ (upd H a o) := by
  have ne : ∀ b u, H₀ b = some u → b ≠ a := fun b u q z => by rw [z, h0] at q; cases q
  exact ⟨e.fF, e.new, e.pre, fun b u q hb => by rw [upd_ne (ne b u q)]; exact e.keep b u q hb, fun b u q => by rw [upd_ne (ne b u q)]; exact e.thr b u q,
    fun b xs q => by rw [upd_ne (ne b _ q)]; exact e.tup b xs q, fun b u v q => by rw [upd_ne (ne b _ q)]; exact e.frz b u v q, e.sep, e.tr⟩
/-! ### slots -/
theorem Rel.flx (r : Rel W F ρ fl τ σ H) (e : ∀ i, i ∈ fl' ↔ i ∈ fl) : Rel W F ρ fl' τ σ H :=
  ⟨r.len, fun i t q => let ⟨v, hv, h1, h2⟩ := r.slot i t q; ⟨v, hv, fun z => h1 (fun z' => z ((e i).mpr z')), fun z => h2 ((e i).mp z)⟩, fun i j t u n hi hj => r.dis i j t u n ((e i).mp hi) ((e j).mp hj)⟩
theorem getS_set {τ : Sl} {i j : Nat} {v : Option PV} {t : PV} (e : getS (τ.set i v) j = some t) : (j = i ∧ v = some t ∧ i < τ.length) ∨ (j ≠ i ∧ getS τ j = some t) := by
  unfold getS at e ⊢
  by_cases hj : j = i
  · subst hj
    by_cases hl : j < τ.length
    · rw [List.getElem?_set_self hl] at e
      cases v with
      | none => simp at e
      | some w => simp at e; exact .inl ⟨rfl, by rw [e], hl⟩
    · rw [List.getElem?_eq_none (by rw [List.length_set]; omega)] at e
      simp at e
  · rw [List.getElem?_set_ne (Ne.symm hj)] at e
    exact .inr ⟨hj, e⟩
/-- a name takes a frozen value -/
theorem Rel.set (r : Rel W F ρ fl τ σ H) {i : Nat} {t : PV} {v : V} (q : Rep W F ρ H t v) : Rel W F ρ (without fl [i]) (τ.set i (some t)) (σ.set i (some v)) H := by
  refine ⟨by simp [r.len], fun j u e => ?_, fun j k u w n hj hk ej ek => ?_⟩
  · rcases getS_set e with ⟨rfl, e1, hl⟩ | ⟨hj, e1⟩
    · cases e1
      refine ⟨v, by rw [List.getElem?_set_self (by rw [← r.len]; exact hl)], fun _ => q, fun z => ?_⟩
      exact absurd (mem_withouts.mp z).2 (by simp)
    · obtain ⟨w, hw, h1, h2⟩ := r.slot j u e1
      refine ⟨w, by rw [List.getElem?_set_ne (Ne.symm hj)]; exact hw, fun z => h1 fun z' => z (mem_withouts.mpr ⟨z', by simpa using hj⟩), fun z => h2 (mem_withouts.mp z).1⟩
  · have hj' := mem_withouts.mp hj
    have hk' := mem_withouts.mp hk
    simp only [List.mem_singleton] at hj' hk'
    rcases getS_set ej with ⟨z, _⟩ | ⟨_, ej⟩
    · exact absurd z hj'.2
    · rcases getS_set ek with ⟨z, _⟩ | ⟨_, ek⟩
      · exact absurd z hk'.2
      · intro mu mw
        rw [List.getElem?_set_ne (Ne.symm hj'.2), List.getElem?_set_ne (Ne.symm hk'.2)]
        exact r.dis j k u w n hj'.1 hk'.1 ej ek mu mw
theorem Rel.none (r : Rel W F ρ fl τ σ H) (i : Nat) : Rel W F ρ (without fl [i]) (τ.set i none) (σ.set i none) H := by
  refine ⟨by simp [r.len], fun j u e => ?_, fun j k u w n hj hk ej ek => ?_⟩
  · rcases getS_set e with ⟨rfl, e1, hl⟩ | ⟨hj, e1⟩
    · cases e1
    · obtain ⟨w, hw, h1, h2⟩ := r.slot j u e1
      refine ⟨w, by rw [List.getElem?_set_ne (Ne.symm hj)]; exact hw, fun z => h1 fun z' => z (mem_withouts.mpr ⟨z', by simpa using hj⟩), fun z => h2 (mem_withouts.mp z).1⟩
  · have hj' := mem_withouts.mp hj
    have hk' := mem_withouts.mp hk
    simp only [List.mem_singleton] at hj' hk'
    rcases getS_set ej with ⟨z, _⟩ | ⟨_, ej⟩
    · exact absurd z hj'.2
    · rcases getS_set ek with ⟨z, _⟩ | ⟨_, ek⟩
      · exact absurd z hk'.2
      · intro mu mw
        rw [List.getElem?_set_ne (Ne.symm hj'.2), List.getElem?_set_ne (Ne.symm hk'.2)]
        exact r.dis j k u w n hj'.1 hk'.1 ej ek mu mw
theorem wipe_front {σ : L2.St} {i : Nat} : ∀ {vs : List Nat}, L2.wipe (σ.set i none) vs = (L2.wipe σ vs).set i none
  | [] => rfl
  | v :: vs => by
    unfold L2.wipe
    rw [wipe_front (vs := vs)]
    by_cases h : v = i
    · subst h; rfl
    · rw [List.set_comm _ _ h]
theorem Rel.wipe : ∀ {own fl : List Nat} {τ : Sl} {σ : L2.St}, Rel W F ρ fl τ σ H → Rel W F ρ (without fl own) (MP.wipe τ own) (L2.wipe σ own) H
  | [], _, _, _, r => r
  | i :: own, fl, τ, σ, r => by
    have := Rel.wipe (own := own) (r.none i)
    rw [wipe_front] at this
    exact this

/-! ### targets -/
def WpOk (σ σ' : L2.St) (is : List Nat) : Prop := ∀ own : List Nat, (∀ i ∈ is, i ∈ own) → L2.wipe σ' own = L2.wipe σ own
theorem wipe_set {σ : L2.St} {i : Nat} {v : Option V} : ∀ {own : List Nat}, i ∈ own → L2.wipe (σ.set i v) own = L2.wipe σ own
  | [], h => absurd h (by simp)
  | j :: own, h => by
    unfold L2.wipe
    by_cases e : j = i
    · subst e
      by_cases hm : j ∈ own
      · rw [wipe_set hm]
      · have key : ∀ (own : List Nat) (σ : L2.St), (L2.wipe (σ.set j v) own).set j none = (L2.wipe σ own).set j none := by
          intro own
          induction own with
          | nil => intro σ; show (σ.set j v).set j none = σ.set j none; rw [List.set_set]
          | cons k own ih =>
            intro σ
            unfold L2.wipe
            by_cases hk : k = j
            · subst hk; rw [List.set_set, List.set_set]; exact ih σ
            · rw [List.set_comm _ _ hk, ih, List.set_comm _ _ hk]
        exact key own σ
    · have hm : i ∈ own := by
        rcases List.mem_cons.mp h with z | z
        · exact absurd z.symm e
        · exact z
      rw [wipe_set hm]
def gM (W : Wd) (fl : List Nat) (t : Tg) : TG := fun v σ H Q => ∃ F ρ h τ u τ', Rel W F ρ fl τ σ H ∧ Hps W F ρ H h ∧ setT t u τ = some τ' ∧ Rep W F ρ H u v ∧ ∀ σ', Rel W F ρ (without fl (tgS t)) τ' σ' H → WpOk σ σ' (tgS t) → Q σ' H
def gMs (W : Wd) (fl : List Nat) (ts : Tgs) : TGs := fun vs σ H Q => ∃ F ρ h τ us τ', Rel W F ρ fl τ σ H ∧ Hps W F ρ H h ∧ setTs ts us τ = some τ' ∧ Reps W F ρ H us vs ∧ ∀ σ', Rel W F ρ (without fl (tgS.go ts)) τ' σ' H → WpOk σ σ' (tgS.go ts) → Q σ' H
def tgL : Tgs → Nat
  | .nil => 0
  | .cons _ ts => tgL ts + 1
theorem setTs_len : ∀ {ts : Tgs} {us : List PV} {τ τ' : Sl}, setTs ts us τ = some τ' → us.length = tgL ts
  | .nil, [], _, _, _ => rfl
  | .nil, _ :: _, _, _, h => by simp [setTs] at h
  | .cons t ts, [], _, _, h => by simp [setTs] at h
  | .cons t ts, u :: us, _, _, h => by
    simp only [setTs] at h
    obtain ⟨τ1, _, h2⟩ := Option.bind_eq_some_iff.mp h
    simp [setTs_len h2, tgL]
theorem without_app : ∀ {is js fl : List Nat}, without (without fl is) js = without fl (is ++ js)
  | [], _, _ => rfl
  | i :: is, js, fl => by show without (without (fl.filter (· != i)) is) js = without (fl.filter (· != i)) (is ++ js); exact without_app
end
section
variable {W : Wd} {X : Cx} {C : TC} {sc : Scope}
theorem pg_monoM {e : Expr} {t t' : TG} (p : PG X e t) (h : ∀ v σ H Q, t' v σ H Q → t v σ H Q) : PG X e t' := ⟨fun pins s σ H v u Q I r q => p.run pins s σ H v u Q I r (h v σ H Q q)⟩
theorem pgs_monoM {e : List Expr} {t t' : TGs} (p : PGs X e t) (h : ∀ v σ H Q, t' v σ H Q → t v σ H Q) : PGs X e t' := ⟨fun pins s σ H v u Q I r q => p.run pins s σ H v u Q I r (h v σ H Q q)⟩
/-- names as they are marked -/
structure ScOk (e sc : Scope) : Prop where
  loc : ∀ x, sc.names.lookup x = some .local → e.names.lookup x = some .local
  cel : ∀ x, sc.names.lookup x = some .cell → e.names.lookup x = some .cell
  fre : ∀ x, sc.names.lookup x = some .free → e.names.lookup x = some .free ∨ e.names.lookup x = some .cell
  glo : ∀ x, sc.names.lookup x = some .globalImplicit → e.names.lookup x = some .globalImplicit
theorem ScOk.locs {e sc : Scope} (S : ScOk e sc) {x : Str} (h : Loc sc x) : Loc e x := h.imp (S.loc x) (S.cel x)
theorem ScOk.vis {e sc : Scope} (S : ScOk e sc) {x : Str} (h : Vis sc x) : Vis e x := by
  rcases h with h | h | h
  · exact .inl (S.loc x h)
  · exact .inr (.inl (S.cel x h))
  · rcases S.fre x h with h | h
    · exact .inr (.inr h)
    · exact .inr (.inl h)
theorem ScOk.refl (sc : Scope) : ScOk sc sc := ⟨fun _ h => h, fun _ h => h, fun _ h => .inl h, fun _ h => h⟩
theorem relabel_look (env : Env) {g : Str × NameKind → Str × NameKind} (hg : ∀ p, (g p).1 = p.1 ∧ ((g p).2 = p.2 ∨ (p.2 = .free ∧ (g p).2 = .cell))) : ∀ (l : List (Str × NameKind)) (x : Str) (k : NameKind), l.lookup x = some k → (l.map g).lookup x = some k ∨ (k = .free ∧ (l.map g).lookup x = some .cell)
  | [], _, _, h => by simp at h
  | p :: l, x, k, h => by
    obtain ⟨n, kd⟩ := p
    obtain ⟨h1, h2⟩ := hg (n, kd)
    rw [List.map_cons, show g (n, kd) = (n, (g (n, kd)).2) from Prod.ext h1 rfl]
    cases hx : x == n with
    | true =>
      simp only [List.lookup_cons, hx] at h ⊢
      cases h
      rcases h2 with h2 | ⟨h2, h3⟩
      · exact .inl (by rw [h2])
      · exact .inr ⟨h2, by rw [h3]⟩
    | false =>
      simp only [List.lookup_cons, hx] at h ⊢
      exact relabel_look env hg l x k h
theorem relabel_ok (s : Scope) (e : Env) : ScOk (relabel s e) s := by
  have key : ∀ x k, s.names.lookup x = some k → (relabel s e).names.lookup x = some k ∨ (k = .free ∧ (relabel s e).names.lookup x = some .cell) := fun x k h => by
    unfold relabel
    refine relabel_look e (fun p => ?_) s.names x k h
    obtain ⟨n, kd⟩ := p
    dsimp only
    split
    · rename_i hh
      simp only [Bool.and_eq_true, beq_iff_eq] at hh
      exact ⟨rfl, .inr ⟨hh.1.1, rfl⟩⟩
    · exact ⟨rfl, .inl rfl⟩
  refine ⟨fun x h => ?_, fun x h => ?_, fun x h => ?_, fun x h => ?_⟩
  · rcases key x _ h with h | ⟨h, _⟩
    · exact h
    · cases h
  · rcases key x _ h with h | ⟨h, _⟩
    · exact h
    · cases h
  · rcases key x _ h with h | ⟨_, h⟩
    · exact .inl h
    · exact .inr h
  · rcases key x _ h with h | ⟨h, _⟩
    · exact h
    · cases h
/-- what is asked of a context -/
structure Good (W : Wd) (C : TC) (X : Cx) (sc : Scope) : Prop where
  N : X.N = C.N
  scope : ScOk X.env.scope sc
  nd : C.N.Nodup
  calm : X.calm = true
  K : X.K = W.K
  w : X.w = W.w
  fnc : ∀ x, sc.names.lookup x = some .cell → X.fn x = true
theorem notDbg_of {x : Str} (h : notDbg x = true) : (x == ("__debug__" : Str)) = false ∧ (x == ("__classdict__" : Str)) = false ∧ x ≠ "__name__" := by
  simp only [notDbg, Bool.and_eq_true, Bool.not_eq_true', decide_eq_false_iff_not] at h
  exact ⟨beq_eq_false_iff_ne.mpr h.1.1, beq_eq_false_iff_ne.mpr h.1.2, h.2⟩
theorem isLC_of {x : Str} (h : isLC sc x = true) : Loc sc x := by
  unfold isLC at h
  split at h
  · rename_i e; exact .inl e
  · rename_i e; exact .inr e
  · cases h
theorem vis_of {x : Str} (h : vis sc x = true) : Vis sc x := by
  unfold vis at h
  split at h
  · rename_i e; exact .inl e
  · rename_i e; exact .inr (.inl e)
  · rename_i e; exact .inr (.inr e)
  · cases h
theorem each_of {es : List Expr} {env : Env} : ∀ {ts : Tgs}, mTgs C sc ts es = true → (assignEach es env).length = es.length ∧ (assignEach es env).findIdx? (·.1) = none ∧ es.length = tgL ts ∧ ∀ e r, es = e :: r → (assignEach es env).map (·.2) = assign e env :: (assignEach r env).map (·.2) := by
  induction es with
  | nil =>
    intro ts h
    cases ts with
    | nil => exact ⟨rfl, rfl, rfl, fun e r z => by cases z⟩
    | cons t ts => simp [mTgs] at h
  | cons e es ih =>
    intro ts h
    cases ts with
    | nil => simp [mTgs] at h
    | cons t ts =>
      simp only [mTgs, Bool.and_eq_true] at h
      obtain ⟨i1, i2, i3, i4⟩ := ih h.2
      have he : assignEach (e :: es) env = (false, assign e env) :: assignEach es env := by
        have h1 := h.1
        cases t <;> (cases e <;> simp [mTg] at h1 <;> rfl)
      rw [he]
      refine ⟨by simp [i1], by rw [List.findIdx?_cons]; simp [i2], by simp [i3, tgL], fun e' r z => ?_⟩
      cases z
      rfl
mutual
theorem pg_M (G : Good W C X sc) : ∀ (t : Tg) (fl : List Nat) (e : Expr), mTg C sc t e = true → PG X e (gM W fl t)
  | .v i, fl, e, h => by
    cases e <;> simp [mTg] at h
    rename_i x pos
    obtain ⟨⟨h1, h2⟩, h3⟩ := h
    have hl := isLC_of h2
    refine pg_monoM (pg_name (i := i) (by rw [G.N]; exact G.nd) (by rw [G.N]; exact h1) (G.scope.locs hl) ?_) fun v σ H Q q => ?_
    · rcases hl with hl | hl
      · exact .inr (G.scope.loc _ hl)
      · exact .inl (G.fnc x hl)
    · obtain ⟨F, ρ, hh, τ, u, τ', rel, p, es, r, k⟩ := q
      simp only [setT, Option.some.injEq] at es
      subst es
      exact k _ (rel.set r) fun own hs => wipe_set (hs i (by simp [tgS]))
  | .t ts, fl, e, h => by
    cases e <;> simp [mTg] at h
    rename_i es kk pos
    obtain ⟨e1, e2, e3, _⟩ := each_of (env := X.env) h
    refine pg_monoM (pg_tup (n := tgL ts) G.calm (pgs_M G ts fl es h) (by rw [e1, e3]) e2) fun v σ H Q q => ?_
    obtain ⟨F, ρ, hh, τ, u, τ', rel, p, es', r, k⟩ := q
    cases u <;> simp only [setT, reduceCtorEq] at es'
    rename_i us
    obtain ⟨a, xs, rfl, ha, rr⟩ := r.tupI
    refine ⟨a, xs, rfl, by rw [G.K]; exact ha, by rw [← rr.length]; exact setTs_len es', F, ρ, hh, τ, us, τ', rel, p, es', rr, k⟩
theorem pgs_M (G : Good W C X sc) : ∀ (ts : Tgs) (fl : List Nat) (es : List Expr), mTgs C sc ts es = true → PGs X es (gMs W fl ts)
  | .nil, fl, es, h => by
    cases es with
    | cons _ _ => simp [mTgs] at h
    | nil =>
      refine pgs_monoM pgs_nil fun v σ H Q q => ?_
      obtain ⟨F, ρ, hh, τ, us, τ', rel, p, e, r, k⟩ := q
      cases us with
      | cons _ _ => simp [setTs] at e
      | nil =>
        simp only [setTs, Option.some.injEq] at e
        subst e
        simp only [Reps] at r
        exact ⟨r, k σ rel fun own _ => rfl⟩
  | .cons t ts, fl, es, h => by
    cases es with
    | nil => simp [mTgs] at h
    | cons e es =>
      obtain ⟨_, _, _, e4⟩ := each_of (env := X.env) h
      simp only [mTgs, Bool.and_eq_true] at h
      refine pgs_monoM (pgs_cons (pg_M G t fl e h.1) (pgs_M G ts (without fl (tgS t)) es h.2) (e4 e es rfl)) fun v σ H Q q => ?_
      obtain ⟨F, ρ, hh, τ, us, τ', rel, p, e, r, k⟩ := q
      cases us with
      | nil => simp [setTs] at e
      | cons u us =>
        simp only [setTs] at e
        obtain ⟨τ1, e1, e2⟩ := Option.bind_eq_some_iff.mp e
        simp only [Reps] at r
        obtain ⟨y, ys, rfl, r1, r2⟩ := r
        refine ⟨y, ys, rfl, F, ρ, hh, τ, u, τ1, rel, p, e1, r1, fun σ1 rel1 w1 => ⟨F, ρ, hh, τ1, us, τ', rel1, p, e2, r2, fun σ2 rel2 w2 => ?_⟩⟩
        rw [without_app] at rel2
        refine k σ2 rel2 fun own hs => ?_
        rw [w2 own fun i hi => hs i (by simp only [tgS.go]; exact List.mem_append_right _ hi), w1 own fun i hi => hs i (by simp only [tgS.go]; exact List.mem_append_left _ hi)]
end
end
end MP

set_option Elab.async false
set_option linter.all false
set_option maxRecDepth 100000
namespace MP
open PySem PySem.Spec PyProof.Rows L2

/-! ### what an iterator gives -/
def Later (W : Wd) (m : Md) (F' : AS) (ρ' : List Addr) (H' : Hp) (F : AS) (ρ : List Addr) (H : Hp) : Prop := match m with
  | .e => Stay W F' ρ' H' F ρ H
  | _ => Ext F' ρ' H' F ρ H
def Wlk (W : Wd) (ts : List PV) (lt : AS → List Addr → Hp → Prop) (J : It) : Prop := ∀ (k : Nat) (F : AS) (ρ : List Addr) (H : Hp) (h : Hs), lt F ρ H → Hps W F ρ H h → k ≤ ts.length →
  (∀ t, ts[k]? = some t → J.go k H ∧ ∀ x H3, J.yld k H x H3 → Ext F ρ H F ρ H3 ∧ Hps W F ρ H3 h ∧ Rep W F ρ H3 t x) ∧ (ts.length = k → J.stop k H)
def tI (W : Wd) (cl : CL) (fl : List Nat) (m : Md) (i : I) : TI := fun σ H R => ∃ F ρ τ h ts h', Rel W F ρ fl τ σ H ∧ Hps W F ρ H h ∧ evI cl i τ h = .ok ts h' ∧
  ∀ J F' ρ' H', Ext F ρ H F' ρ' H' → Hps W F' ρ' H' h' → Wlk W ts (Later W m F' ρ' H') J → R J H'
section
variable {X : Cx} {tg iter : Expr}
theorem pi_mono {t t' : TI} (p : PI X tg iter t) (h : ∀ σ H R, t' σ H R → t σ H R) : PI X tg iter t' := ⟨fun pins s σ H R I q => p.run pins s σ H R I (h σ H R q)⟩
end
/-! ### lists and tuples -/
def ItS (b : Bool) (K : PySem.W.Frag) (a : Addr) : It := if b = true then Itl K a else Itt K a
def iSq (K : PySem.W.Frag) (te : TE) : TI := fun σ H R => te σ H fun x H1 => ∃ b a xs, x = .ref a ∧ SqB b K H1 a xs ∧ R (ItS b K a) H1
section
variable {W : Wd} {cl : CL} {fl : List Nat} {X : Cx} {tg : Expr}
theorem pi_sq {l : Expr} {tl : TE} (hl : PE X l tl) : PI X tg l (iSq X.K tl) := by
  refine ⟨fun pins s σ H R I h => ?_⟩
  refine thn (hl.run pins s σ H _ I h) fun v s1 ⟨x, H1, I1, r1, q1⟩ => ?_
  obtain ⟨b, a, xs, rfl, hq, q⟩ := q1
  cases r1
  obtain ⟨its, rv, ob⟩ := seqB I1 hq
  refine (beginsB (b := b) its.toArray).iter _ _ _ _ _ _ ob ?_
  have I2 : Inv X pins σ H1 { s1 with heap := s1.heap.push (NewB b a) } := I1.kept (t' := s1.toks) fun c o e => Heap.get?_push_of_some _ e
  have hnew : (s1.heap.push (NewB b a)).get? s1.heap.objs.size = some (NewB b a) := Heap.get?_push_size _ (beginsB (b := b) (a := a) #[]).free
  have fresh : ∀ c ∈ [s1.heap.objs.size], FpOk X pins H1 c := fun c hc => by
    rw [List.mem_singleton.mp hc]
    exact I1.fpOk (Nat.le_refl _) (I1.hok.fresh (Nat.le_refl _))
  cases b with
  | true => exact ⟨_, _, _, _, H1, rfl, I2, turn_list a _, ⟨_, hnew, rfl, rfl⟩, fresh, q⟩
  | false => exact ⟨_, _, _, _, H1, rfl, I2, turn_tuple a _, ⟨_, hnew, rfl, rfl⟩, fresh, q⟩
/-- a list or tuple, as it is and as it stays -/
theorem seq_later {m : Md} {F' : AS} {ρ' : List Addr} {H₁ H' : Hp} {h' : Hs} {t : PV} {ts : List PV} {v : V} (hm : m = .e ∨ m = .b) (p : Hps W F' ρ' H' h') (e : seqOf t = some ts) (r : Rm m W F' ρ' H₁ H' t v) :
    ∃ b a xs, v = .ref a ∧ SqB b W.K H' a xs ∧ Reps W F' ρ' H' ts xs ∧ ∀ F ρ H, Later W m F' ρ' H' F ρ H → SqB b W.K H a xs ∧ Reps W F ρ H ts xs := by
  have st : ∀ {F ρ H}, Later W m F' ρ' H' F ρ H → Stay W F' ρ' H' F ρ H := fun {F ρ H} l => by
    rcases hm with rfl | rfl
    · exact l
    · exact Ext.stay l
  have sqt : ∀ {F ρ H a xs}, Later W m F' ρ' H' F ρ H → SqT W.K H' a xs → SqT W.K H a xs := fun {F ρ H a xs} l h => by
    rcases h with (h | ⟨o, h⟩) | h
    · exact .inl (.inl ((st l).tup _ _ h))
    · exact .inl (.inr ⟨o, (st l).frz _ _ _ h⟩)
    · exact .inr h
  cases t <;> simp only [seqOf, Option.some.injEq, reduceCtorEq] at e
  · subst e
    obtain ⟨a, xs, rfl, ha, rr⟩ := r.tup
    exact ⟨false, a, xs, rfl, ha, rr, fun F ρ H l => ⟨sqt l ha, rr.stay (st l)⟩⟩
  · subst e
    rename_i ts
    have rep : ∀ {v}, Rep W F' ρ' H' (.lst ts) v → ∃ b a xs, v = .ref a ∧ SqB b W.K H' a xs ∧ Reps W F' ρ' H' ts xs ∧ ∀ F ρ H, Later W m F' ρ' H' F ρ H → SqB b W.K H a xs ∧ Reps W F ρ H ts xs := fun {v} r => by
      simp only [Rep] at r
      obtain ⟨a, xs, rfl, hf, ha, rr⟩ := r
      exact ⟨true, a, xs, rfl, SqL.of ha, rr, fun F ρ H l => ⟨SqL.of ((st l).kF _ _ hf ha), rr.stay (st l)⟩⟩
    rcases hm with rfl | rfl
    · exact rep r
    · rcases r with r | r
      · simp only [Own] at r
        obtain ⟨a, xs, rfl, ha, hf, hn, rr⟩ := r
        exact ⟨true, a, xs, rfl, SqL.of ha, rr, fun F ρ H l => ⟨SqL.of (Ext.keep l _ _ ha hn), rr.stay (st l)⟩⟩
      · exact rep r
theorem I_it {m : Md} {i : E} {e : Expr} (hm : m = .e ∨ m = .b) (hK : X.K = W.K) (he : PE X e (tE W cl fl m i)) : PI X tg e (tI W cl fl m (.it i)) := by
  refine pi_mono (pi_sq he) fun σ H R q => ?_
  obtain ⟨F, ρ, τ, h, ts, h', rel, p, ev, k⟩ := q
  simp only [evI] at ev
  obtain ⟨x, h1, e1, g1⟩ := bind_ok ev
  obtain ⟨e2, rfl⟩ := of_ok g1
  refine ⟨F, ρ, τ, h, x, _, rel, p, e1, fun v F1 ρ1 H1 x1 p1 r1 => ?_⟩
  obtain ⟨b, a, xs, rfl, hs, rr, stay⟩ := seq_later hm p1 e2 r1
  refine ⟨b, a, xs, rfl, by rw [hK]; exact hs, k _ F1 ρ1 H1 x1 p1 fun n F2 ρ2 H2 h2 l p2 hn => ?_⟩
  obtain ⟨s2, r2⟩ := stay F2 ρ2 H2 l
  rw [hK]
  have hl := r2.length
  cases b with
  | true =>
    refine ⟨fun t ht => ?_, fun hn' => ⟨xs, s2, by omega⟩⟩
    obtain ⟨z, hz, rz⟩ := r2.get ht
    exact ⟨⟨xs, z, s2, hz⟩, fun x H3 ⟨e, y⟩ => by
      subst e
      have := y xs s2
      rw [hz] at this
      cases this
      exact ⟨p2.ext0, p2, rz⟩⟩
  | false =>
    refine ⟨fun t ht => ?_, fun hn' => ⟨xs, s2, by omega⟩⟩
    obtain ⟨z, hz, rz⟩ := r2.get ht
    exact ⟨⟨xs, z, s2, hz⟩, fun x H3 ⟨e, y⟩ => by
      subst e
      have := y xs s2
      rw [hz] at this
      cases this
      exact ⟨p2.ext0, p2, rz⟩⟩
/-! ### range -/
theorem rangeL_len : ∀ (n : Nat) (lo : Int), (rangeL lo n).length = n
  | 0, _ => rfl
  | n + 1, lo => by simp [rangeL, rangeL_len n]
theorem rangeL_get : ∀ (n : Nat) (lo : Int) (k : Nat) (t : PV), (rangeL lo n)[k]? = some t → t = .int (lo + k) ∧ k < n
  | 0, _, _, _, h => by simp [rangeL] at h
  | n + 1, lo, 0, t, h => by simp [rangeL] at h; exact ⟨by rw [← h]; simp, by omega⟩
  | n + 1, lo, k + 1, t, h => by
    simp only [rangeL, List.getElem?_cons_succ] at h
    obtain ⟨h1, h2⟩ := rangeL_get n (lo + 1) k t h
    exact ⟨by rw [h1]; congr 1; omega, by omega⟩
theorem small_of {i : Int} (h : smallI i = true) : -(2 ^ 62) ≤ i ∧ i < 2 ^ 62 := by
  simp only [smallI, Bool.and_eq_true, decide_eq_true_eq] at h
  exact h
theorem wlk_range {lo : Int} {n : Nat} {lt : AS → List Addr → Hp → Prop} : Wlk W (rangeL lo n) lt (Itr lo n) := by
  intro k F ρ H h _ p hk
  rw [rangeL_len] at hk ⊢
  refine ⟨fun t ht => ?_, fun e => by show n ≤ k; omega⟩
  obtain ⟨rfl, hlt⟩ := rangeL_get n lo k t ht
  refine ⟨hlt, fun x H3 ⟨e1, e2⟩ => ?_⟩
  subst e1
  exact ⟨p.ext0, p, by simp only [Rep]; exact e2⟩
theorem I_range {m : Md} {is : Es} {es : List Expr} {p pos : Pos} (hg : Gl X "range") (hm : X.mg "range" = none) (ha : PA X es (tEs W cl fl .e is)) (hl : es.length = 1 ∨ es.length = 2) (hs : noStar es = true) :
    PI X tg (.Call (.Name "range" p) es [] pos) (tI W cl fl m (.range is)) := by
  have key : ∀ {n : Nat} {σ : L2.St} {H : Hp} {R : It → Hp → Prop}, tI W cl fl m (.range is) σ H R → tEs W cl fl .e is σ H fun vs H1 => (∃ j : Int, vs = [.int j] ∧ -(2 ^ 62) ≤ j ∧ j < 2 ^ 62 ∧ R (Itr 0 j.toNat) H1) ∨
      (∃ i j : Int, vs = [.int i, .int j] ∧ (-(2 ^ 62) ≤ i ∧ i < 2 ^ 62 ∧ -(2 ^ 62) ≤ j ∧ j < 2 ^ 62) ∧ R (Itr i (j - i).toNat) H1) := fun {n σ H R} q => by
    obtain ⟨F, ρ, τ, h, ts, h', rel, p, ev, k⟩ := q
    simp only [evI] at ev
    obtain ⟨xs, h1, e1, g1⟩ := bind_ok ev
    obtain ⟨e2, rfl⟩ := of_ok g1
    refine ⟨F, ρ, τ, h, xs, _, rel, p, e1, fun vs F1 ρ1 H1 x1 p1 r1 => ?_⟩
    have r1' : Reps W F1 ρ1 H1 xs vs := r1
    unfold rangeV at e2
    split at e2 <;> try contradiction
    · rename_i j
      split at e2 <;> try contradiction
      rename_i hj
      cases e2
      rw [Bool.and_eq_true] at hj
      have e := r1'.ints (is := [j]) (by simp [intsOf])
      exact .inl ⟨j, e, (small_of hj.1).1, (small_of hj.1).2, k _ F1 ρ1 H1 x1 p1 wlk_range⟩
    · rename_i i j
      split at e2 <;> try contradiction
      rename_i hj
      cases e2
      rw [Bool.and_eq_true, Bool.and_eq_true] at hj
      have e := r1'.ints (is := [i, j]) (by simp [intsOf])
      exact .inr ⟨i, j, e, ⟨(small_of hj.1.1).1, (small_of hj.1.1).2, (small_of hj.1.2).1, (small_of hj.1.2).2⟩, k _ F1 ρ1 H1 x1 p1 wlk_range⟩
  have st : ∀ {e : Expr} {r : List Expr}, notStar e = true → starEach (e :: r) X.env = (false, eval e X.env) :: starEach r X.env := fun {e r} h => by
    cases e <;> first | rfl | simp [notStar] at h
  match es, hl, hs, ha with
  | [a], _, hs, ha =>
    simp only [noStar, List.all_cons, List.all_nil, Bool.and_true] at hs
    refine ⟨fun pins s σ H R I h => ?_⟩
    have q := key (n := 0) h
    refine Call_ (ld_blt I hg hm boot_range (PyProof.Rows.callWith_type1 (thn (ha.run pos pins s σ H _ I q) fun us s1 ⟨vs, H1, I1, r1, q1⟩ => ?_) (st hs) rfl))
    rcases q1 with ⟨j, rfl, b1, b2, q⟩ | ⟨i, j, rfl, ⟨b1, b2, b3, b4⟩, q⟩
    · obtain ⟨u, rfl, t, rfl⟩ := vals1 r1
      exact call_range_1 (range_it I1 (by omega) (by omega) b1 b2 (by simpa using q))
    · obtain ⟨u, u2, rfl, ⟨t, rfl⟩, ⟨t', rfl⟩⟩ := vals2 r1
      exact call_range_2 (range_it I1 b1 b2 b3 b4 q)
  | [a, b], _, hs, ha =>
    simp only [noStar, List.all_cons, List.all_nil, Bool.and_true, Bool.and_eq_true] at hs
    refine ⟨fun pins s σ H R I h => ?_⟩
    have q := key (n := 0) h
    refine Call_ (ld_blt I hg hm boot_range (PyProof.Rows.callWith_type1 (thn (ha.run pos pins s σ H _ I q) fun us s1 ⟨vs, H1, I1, r1, q1⟩ => ?_) (st hs.1) (by rw [st hs.2]; rfl)))
    rcases q1 with ⟨j, rfl, b1, b2, q⟩ | ⟨i, j, rfl, ⟨b1, b2, b3, b4⟩, q⟩
    · obtain ⟨u, rfl, t, rfl⟩ := vals1 r1
      exact call_range_1 (range_it I1 (by omega) (by omega) b1 b2 (by simpa using q))
    · obtain ⟨u, u2, rfl, ⟨t, rfl⟩, ⟨t', rfl⟩⟩ := vals2 r1
      exact call_range_2 (range_it I1 b1 b2 b3 b4 q)
/-! ### enumerate, zip, reversed -/
theorem enumL_len : ∀ (ts : List PV) (k : Int), (enumL k ts).length = ts.length
  | [], _ => rfl
  | t :: ts, k => by simp [enumL, enumL_len ts]
theorem enumL_get : ∀ (ts : List PV) (k : Int) (n : Nat) (t : PV), (enumL k ts)[n]? = some t → ∃ u, ts[n]? = some u ∧ t = .tup [.int (k + n), u]
  | [], _, _, _, h => by simp [enumL] at h
  | u :: ts, k, 0, t, h => by simp [enumL] at h; exact ⟨u, rfl, by rw [← h]; simp⟩
  | u :: ts, k, n + 1, t, h => by
    simp only [enumL, List.getElem?_cons_succ] at h
    obtain ⟨v, h1, h2⟩ := enumL_get ts (k + 1) n t h
    exact ⟨v, by simpa using h1, by rw [h2]; congr 3; omega⟩
theorem pair_new {F : AS} {ρ : List Addr} {H : Hp} {h : Hs} (p : Hps W F ρ H h) {T : Addr} {o : Obj} (hT : H T = none) (ho : o.dict = none) {ts : List PV} {xs : List V} (r : Reps W F ρ H ts xs) :
    Ext F ρ H F ρ (upd H T (.frz o (.tup xs))) ∧ Hps W F ρ (upd H T (.frz o (.tup xs))) h ∧ Rep W F ρ (upd H T (.frz o (.tup xs))) (.tup ts) (.ref T) := new_tup p.ext0 p hT ho r
theorem wlk_en {m : Md} {F' : AS} {ρ' : List Addr} {H' : Hp} {b : Bool} {a : Addr} {ts : List PV} {xs : List V} (stay : ∀ F ρ H, Later W m F' ρ' H' F ρ H → SqB b W.K H a xs ∧ Reps W F ρ H ts xs) : Wlk W (enumL 0 ts) (Later W m F' ρ' H') (ItEn b W.K a) := by
  intro k F ρ H h l p hk
  obtain ⟨s2, r2⟩ := stay F ρ H l
  have hl := r2.length
  rw [enumL_len] at hk ⊢
  refine ⟨fun t ht => ?_, fun e => ⟨xs, s2, by omega⟩⟩
  obtain ⟨u, hu, rfl⟩ := enumL_get ts 0 k t ht
  obtain ⟨z, hz, rz⟩ := r2.get hu
  refine ⟨⟨xs, z, s2, hz⟩, fun x H3 ⟨T, y, o, e1, hT, ho, e2, f⟩ => ?_⟩
  subst e1
  subst e2
  have := f xs s2
  rw [hz] at this
  cases this
  refine pair_new p hT ho ?_
  simp only [Reps, Rep]
  exact ⟨_, _, rfl, by simp, _, _, rfl, rz, rfl⟩
theorem I_enum {m : Md} {i : E} {e : Expr} {p pos tpos : Pos} {elts : List Expr} {kk : Nat} (hm' : m = .e ∨ m = .b) (hK : X.K = W.K) (hg : Gl X "enumerate") (hm : X.mg "enumerate" = none) (he : PE X e (tE W cl fl m i)) (hs : notStar e = true) :
    PI X (.Tuple elts kk tpos) (.Call (.Name "enumerate" p) [e] [] pos) (tI W cl fl m (.enum i)) := by
  have st : starEach [e] X.env = (false, eval e X.env) :: starEach [] X.env := by cases e <;> first | rfl | simp [notStar] at hs
  refine pi_mono (pi_en hg hm boot_enumerate (by decide) (by decide) he st) fun σ H R q => ?_
  obtain ⟨F, ρ, τ, h, ts, h', rel, p, ev, k⟩ := q
  simp only [evI] at ev
  obtain ⟨x, h1, e1, g1⟩ := bind_ok ev
  obtain ⟨ys, h2, g2, g3⟩ := bind_ok g1
  obtain ⟨e2, rfl⟩ := of_ok g2
  simp only [Out.ok.injEq] at g3
  obtain ⟨rfl, rfl⟩ := g3
  refine ⟨F, ρ, τ, h, x, _, rel, p, e1, fun v F1 ρ1 H1 x1 p1 r1 => ?_⟩
  obtain ⟨b, a, xs, rfl, hs, rr, stay⟩ := seq_later hm' p1 e2 r1
  exact ⟨b, a, xs, rfl, by rw [hK]; exact hs, by rw [hK]; exact k _ F1 ρ1 H1 x1 p1 (wlk_en stay)⟩
theorem zip2_get : ∀ (ts us : List PV) (n : Nat) (t : PV), (zip2 ts us)[n]? = some t → ∃ x y, ts[n]? = some x ∧ us[n]? = some y ∧ t = .tup [x, y]
  | [], _, _, _, h => by simp [zip2] at h
  | _ :: _, [], _, _, h => by simp [zip2] at h
  | x :: ts, y :: us, 0, t, h => by simp [zip2] at h; exact ⟨x, y, rfl, rfl, h.symm⟩
  | x :: ts, y :: us, n + 1, t, h => by
    simp only [zip2, List.getElem?_cons_succ] at h
    simpa using zip2_get ts us n t h
theorem zip2_len : ∀ (ts us : List PV), (zip2 ts us).length = min ts.length us.length
  | [], _ => by simp [zip2]
  | _ :: _, [] => by simp [zip2]
  | x :: ts, y :: us => by simp [zip2, zip2_len ts us]
theorem wlk_z2 {lt : AS → List Addr → Hp → Prop} {b c : Bool} {a1 a2 : Addr} {ts us : List PV} {xs ys : List V} (stay : ∀ F ρ H h, lt F ρ H → Hps W F ρ H h → SqB b W.K H a1 xs ∧ Reps W F ρ H ts xs ∧ SqB c W.K H a2 ys ∧ Reps W F ρ H us ys) :
    Wlk W (zip2 ts us) lt (ItZ2 b c W.K a1 a2) := by
  intro k F ρ H h l p hk
  obtain ⟨s1, r1, s2, r2⟩ := stay F ρ H h l p
  have l1 := r1.length
  have l2 := r2.length
  rw [zip2_len] at hk ⊢
  refine ⟨fun t ht => ?_, fun e => ⟨xs, ys, s1, s2, by omega, by omega, by omega⟩⟩
  obtain ⟨u, v, hu, hv, rfl⟩ := zip2_get ts us k t ht
  obtain ⟨z, hz, rz⟩ := r1.get hu
  obtain ⟨z', hz', rz'⟩ := r2.get hv
  refine ⟨⟨xs, ys, z, z', s1, s2, hz, hz'⟩, fun x H3 ⟨T, y, y', o, e1, hT, ho, e2, f, f'⟩ => ?_⟩
  subst e1
  subst e2
  have q := f xs s1
  have q' := f' ys s2
  rw [hz] at q
  rw [hz'] at q'
  cases q
  cases q'
  refine pair_new p hT ho ?_
  simp only [Reps]
  exact ⟨_, _, rfl, rz, _, _, rfl, rz', rfl⟩
theorem Later.of {m : Md} {F' F : AS} {ρ' ρ : List Addr} {H' H : Hp} (h : Later W m F' ρ' H' F ρ H) : Stay W F' ρ' H' F ρ H := by
  cases m with
  | e => exact h
  | b => exact Ext.stay h
  | f => exact Ext.stay h
theorem RepsB.one_later {m : Md} {F' : AS} {ρ' : List Addr} {H' : Hp} {h' : Hs} (hm : m = .e ∨ m = .b) (p : Hps W F' ρ' H' h') {t : PV} {v : V} {ts : List PV} (e : seqOf t = some ts) (r : Rms W m F' ρ' H' [t] [v]) :
    ∃ b a xs, v = .ref a ∧ SqB b W.K H' a xs ∧ Reps W F' ρ' H' ts xs ∧ ∀ F ρ H, Later W m F' ρ' H' F ρ H → SqB b W.K H a xs ∧ Reps W F ρ H ts xs := by
  rcases hm with rfl | rfl
  · have r' : Reps W F' ρ' H' [t] [v] := r
    simp only [Reps] at r'
    obtain ⟨y, ys, e1, r1, e2⟩ := r'
    cases e1
    exact seq_later (H₁ := H') (.inl rfl) p e (show Rm .e W F' ρ' H' H' t v from r1)
  · have r' : RepsB W F' ρ' H' [t] [v] := r
    simp only [RepsB] at r'
    obtain ⟨y, ys, e1, r1, e2⟩ := r'
    cases e1
    exact seq_later (H₁ := H') (.inr rfl) p e (show Rm .b W F' ρ' H' H' t v from r1)
theorem rms2 {m : Md} (hm : m = .e ∨ m = .b) {F : AS} {ρ : List Addr} {H : Hp} {t u : PV} {vs : List V} (r : Rms W m F ρ H [t, u] vs) : ∃ v w, vs = [v, w] ∧ Rms W m F ρ H [t] [v] ∧ Rms W m F ρ H [u] [w] := by
  rcases hm with rfl | rfl
  · have r' : Reps W F ρ H [t, u] vs := r
    simp only [Reps] at r'
    obtain ⟨y, ys, rfl, r1, z, zs, rfl, r2, rfl⟩ := r'
    refine ⟨y, z, rfl, ?_, ?_⟩
    · show Reps W F ρ H [t] [y]; simp only [Reps]; exact ⟨_, _, rfl, r1, rfl⟩
    · show Reps W F ρ H [u] [z]; simp only [Reps]; exact ⟨_, _, rfl, r2, rfl⟩
  · have r' : RepsB W F ρ H [t, u] vs := r
    simp only [RepsB] at r'
    obtain ⟨y, ys, rfl, r1, z, zs, rfl, r2, rfl⟩ := r'
    refine ⟨y, z, rfl, ?_, ?_⟩
    · show RepsB W F ρ H [t] [y]; simp only [RepsB]; exact ⟨_, _, rfl, r1, rfl⟩
    · show RepsB W F ρ H [u] [z]; simp only [RepsB]; exact ⟨_, _, rfl, r2, rfl⟩
theorem I_zip {m : Md} {is : Es} {e : Expr} {es : List Expr} {p pos tpos : Pos} {elts : List Expr} {kk : Nat} (hm' : m = .e ∨ m = .b) (hK : X.K = W.K) (hg : Gl X "zip") (hm : X.mg "zip" = none) (ha : PA X (e :: es) (tEs W cl fl m is)) (hs : noStar (e :: es) = true) (h2 : es.length = 1) :
    PI X (.Tuple elts kk tpos) (.Call (.Name "zip" p) (e :: es) [] pos) (tI W cl fl m (.zip is)) := by
  have st : ∀ {e : Expr} {r : List Expr}, notStar e = true → starEach (e :: r) X.env = (false, eval e X.env) :: starEach r X.env := fun {e r} h => by
    cases e <;> first | rfl | simp [notStar] at h
  simp only [noStar, List.all_cons, Bool.and_eq_true] at hs
  have hpl : (backTo pos (starEach es X.env)).any (·.1) = false := by
    match es, h2, hs with
    | [a], _, hs =>
      simp only [List.all_cons, List.all_nil, Bool.and_true] at hs
      rw [st hs.2]; rfl
  refine pi_mono (pi_z2 hg hm PyProof.Rows.boot_zip (by decide) (by decide) ha (st hs.1) hpl) fun σ H R q => ?_
  obtain ⟨F, ρ, τ, h, ts, h', rel, p, ev, k⟩ := q
  simp only [evI] at ev
  obtain ⟨xs, h1, e1, g1⟩ := bind_ok ev
  obtain ⟨e2, rfl⟩ := of_ok g1
  refine ⟨F, ρ, τ, h, xs, _, rel, p, e1, fun vs F1 ρ1 H1 x1 p1 r1 => ?_⟩
  unfold zipV at e2
  split at e2
  · obtain ⟨us, e3, e4⟩ := Option.bind_eq_some_iff.mp e2
    obtain ⟨ws, e5, e6⟩ := Option.map_eq_some_iff.mp e4
    subst e6
    obtain ⟨v, w, rfl, q1, q2⟩ := rms2 hm' r1
    obtain ⟨b, a, ys, rfl, sb, rb, stb⟩ := RepsB.one_later hm' p1 e3 q1
    obtain ⟨c, a2, zs, rfl, sc, rc, stc⟩ := RepsB.one_later hm' p1 e5 q2
    exact ⟨b, c, a, a2, ys, zs, rfl, by rw [hK]; exact sb, by rw [hK]; exact sc, by rw [hK]; exact k _ F1 ρ1 H1 x1 p1 (wlk_z2 fun F ρ H h l _ => ⟨(stb F ρ H l).1, (stb F ρ H l).2, (stc F ρ H l).1, (stc F ρ H l).2⟩)⟩
  · cases e2

theorem rev_get {ts : List PV} {k : Nat} {t : PV} (h : ts.reverse[k]? = some t) : k < ts.length ∧ ts[ts.length - 1 - k]? = some t := by
  have hk : k < ts.reverse.length := (List.getElem?_eq_some_iff.mp h).1
  rw [List.length_reverse] at hk
  rw [List.getElem?_reverse hk] at h
  exact ⟨hk, h⟩
theorem I_rev {m : Md} {i : E} {e : Expr} {p pos : Pos} (hm' : m = .e ∨ m = .b) (hK : X.K = W.K) (hg : Gl X "reversed") (hm : X.mg "reversed" = none) (he : PE X e (tE W cl fl m i)) (hs : notStar e = true) :
    PI X tg (.Call (.Name "reversed" p) [e] [] pos) (tI W cl fl m (.rev i)) := by
  have st : starEach [e] X.env = (false, eval e X.env) :: starEach [] X.env := by cases e <;> first | rfl | simp [notStar] at hs
  refine pi_mono (RT.pi_revA hg hm he st) fun σ H R q => ?_
  obtain ⟨F, ρ, τ, h, ts, h', rel, p, ev, k⟩ := q
  simp only [evI] at ev
  obtain ⟨x, h1, e1, g1⟩ := bind_ok ev
  split at g1 <;> try contradiction
  rename_i us
  cases g1
  refine ⟨F, ρ, τ, h, _, _, rel, p, e1, fun v F1 ρ1 H1 x1 p1 r1 => ?_⟩
  obtain ⟨b, a, xs, rfl, hs, rr, stay⟩ := seq_later (ts := us) hm' p1 rfl r1
  have hl := rr.length
  cases b with
  | false =>
    refine ⟨a, xs, rfl, .inr ⟨by rw [hK]; exact hs, ?_⟩⟩
    rw [hK]
    refine k _ F1 ρ1 H1 x1 p1 fun n F2 ρ2 H2 h2 l p2 hn => ?_
    obtain ⟨s2, r2⟩ := stay F2 ρ2 H2 l
    rw [List.length_reverse] at hn ⊢
    refine ⟨fun t ht => ?_, fun e => by show xs.length ≤ n; omega⟩
    obtain ⟨g1, g2⟩ := rev_get ht
    obtain ⟨z, hz, rz⟩ := r2.get g2
    rw [hl] at hz
    refine ⟨⟨by omega, xs, z, s2, hz⟩, fun x H3 ⟨e1, f⟩ => ?_⟩
    subst e1
    have := f xs s2
    rw [hz] at this
    cases this
    exact ⟨p2.ext0, p2, rz⟩
  | true =>
    refine ⟨a, xs, rfl, .inl ⟨by rw [hK]; exact hs, ?_⟩⟩
    rw [hK]
    refine k _ F1 ρ1 H1 x1 p1 fun n F2 ρ2 H2 h2 l p2 hn => ?_
    obtain ⟨s2, r2⟩ := stay F2 ρ2 H2 l
    rw [List.length_reverse] at hn ⊢
    refine ⟨fun t ht => ?_, fun e => by show xs.length ≤ n; omega⟩
    obtain ⟨g1, g2⟩ := rev_get ht
    obtain ⟨z, hz, rz⟩ := r2.get g2
    rw [hl] at hz
    refine ⟨⟨by omega, xs, z, s2, hz⟩, fun x H3 ⟨e1, f⟩ => ?_⟩
    subst e1
    have := f xs s2
    rw [hz] at this
    cases this
    exact ⟨p2.ext0, p2, rz⟩
end
end MP

set_option Elab.async false
set_option linter.all false
set_option maxRecDepth 100000
namespace MP
open PySem PySem.Spec PyProof.Rows L2

section
variable {W : Wd} {cl : CL} {fl : List Nat} {X : Cx}
theorem pts_mono {ifs : List Expr} {t t' : TT} (p : PTs X ifs t) (h : ∀ σ H Q, t' σ H Q → t σ H Q) : PTs X ifs t' := ⟨fun pins s σ H Q I q => p.run pins s σ H Q I (h σ H Q q)⟩
theorem pts_true {c : E} (h : same1 c = true) : PTs X [] (tT W cl fl c) := by
  refine pts_mono pts_nil fun σ H Q q => ?_
  obtain ⟨F, ρ, τ, hh, b, h', rel, p, ev, k⟩ := q
  have hc : c = .con (.bl true) := by
    unfold same1 at h
    split at h
    · rfl
    · cases h
  subst hc
  simp only [evE, Out.ok.injEq, PV.bl.injEq] at ev
  obtain ⟨rfl, rfl⟩ := ev
  exact k F ρ H p.ext0 p
theorem eachL_cons {α : Type} {f : PV → Hs → Out (List α)} {x : PV} {xs : List PV} {h h' : Hs} {ys : List α} (e : eachL f (x :: xs) h = .ok ys h') : ∃ a h1 r, f x h = .ok a h1 ∧ eachL f xs h1 = .ok r h' ∧ ys = a ++ r := by
  simp only [eachL] at e
  split at e <;> try contradiction
  split at e <;> try contradiction
  rename_i a h1 e1 _ r h2 e2
  cases e
  exact ⟨a, h1, r, e1, e2, rfl⟩
/-- what a comprehension's list holds behind i items -/
structure Acc (W : Wd) (F₁ : AS) (ρ₁ : List Addr) (H₁ : Hp) (D : Addr) (F : AS) (ρ : List Addr) (H : Hp) (h : Hs) (acc : List PV) : Prop where
  ext : Ext F₁ ρ₁ H₁ F ρ H
  hps : Hps W F ρ H h
  nf : ¬ F D
  nr : D ∉ ρ
  lst : ∃ xs, H D = some (.lst xs) ∧ Reps W F ρ H acc xs
theorem Acc.app {F₁ F : AS} {ρ₁ ρ : List Addr} {H₁ H : Hp} {D : Addr} {h : Hs} {acc : List PV} {t : PV} {v : V} {xs : List V} (A : Acc W F₁ ρ₁ H₁ D F ρ H h acc) (h0 : H₁ D = none) (hD : H D = some (.lst xs)) (r : Rep W F ρ H t v) :
    Acc W F₁ ρ₁ H₁ D F ρ (upd H D (.lst (xs ++ [v]))) h (acc ++ [t]) := by
  obtain ⟨st, p⟩ := write_own (o := .lst (xs ++ [v])) A.hps hD trivial A.nf A.nr
  obtain ⟨ys, e, rr⟩ := A.lst
  rw [hD] at e
  cases e
  refine ⟨A.ext.write h0 hD trivial, p, A.nf, A.nr, xs ++ [v], upd_same, ?_⟩
  exact (rr.app (by simp only [Reps]; exact ⟨v, [], rfl, r, rfl⟩)).stay st
theorem Acc.step {F₁ F F' : AS} {ρ₁ ρ ρ' : List Addr} {H₁ H H' : Hp} {D : Addr} {h h' : Hs} {acc : List PV} (A : Acc W F₁ ρ₁ H₁ D F ρ H h acc) (x : Ext F ρ H F' ρ' H') (p : Hps W F' ρ' H' h') : Acc W F₁ ρ₁ H₁ D F' ρ' H' h' acc := by
  obtain ⟨ys, e, rr⟩ := A.lst
  exact ⟨A.ext.trans x, p, x.notF e A.nf, x.notin e A.nr, ys, x.keep _ _ e A.nr, rr.stay x.stay⟩
theorem comp_imp {own : List Nat} {elt : E} {t : Tg} {i : I} {c : E} {σ : L2.St} {H : Hp} {Q : VK} (hsub : ∀ j ∈ tgS t, j ∈ own) (q : tE W cl fl .f (.comp own elt t i c) σ H Q) :
    tLc (tI W cl fl .b i) (gM W (without fl own) t) (tT W cl (without fl own) c) (tE W cl (without fl own) .e elt) own σ H Q := by
  obtain ⟨F, ρ, τ, h, u, hE, rel, p, ev, k⟩ := q
  simp only [evE] at ev
  obtain ⟨ts, h1, e1, g1⟩ := bind_ok ev
  obtain ⟨ys, h2, e2, g2⟩ := bind_ok g1
  split at g2
  rotate_left
  · cases g2
  rename_i hz
  cases g2
  refine ⟨F, ρ, τ, h, ts, h1, rel, p, e1, fun J F1 ρ1 H1 x1 p1 wk D hD => ?_⟩
  generalize hf : (fun x h => (Out.of (setT t x (MP.wipe τ own)) h).bind fun σ' h => (evE cl c σ' h).bind fun b h => match b with
        | .bl true => (evE cl elt σ' h).bind fun y h => .ok [y] h
        | .bl false => .ok [] h
        | _ => .bad) = f at e2
  have rel1 := rel.ext x1 p1
  refine ⟨fun n m H' => m = ts.length - n ∧ n ≤ ts.length ∧ ∃ F2 ρ2 hh acc r, Acc W F1 ρ1 H1 D F2 ρ2 H' hh acc ∧ eachL f (ts.drop n) hh = .ok r hE ∧ ys = acc ++ r, ⟨ts.length, by simp, Nat.zero_le _, F1, ρ1, h1, [], ys, ?_, by simpa using e2, rfl⟩, ?_⟩
  · obtain ⟨e, p2⟩ := Ext.new' (o := .lst []) p1 hD
    obtain ⟨n1, n2⟩ := p1.notin hD
    exact ⟨e, p2, n2, n1, [], upd_same, by simp [Reps]⟩
  · rintro n m H2 ⟨rfl, hn, F2, ρ2, hh, acc, r, A, ee, ey⟩
    obtain ⟨w1, w2⟩ := wk n F2 ρ2 H2 hh A.ext A.hps hn
    by_cases hlt : n < ts.length
    · have hget : ts[n]? = some ts[n] := List.getElem?_eq_getElem hlt
      obtain ⟨go, yl⟩ := w1 _ hget
      rw [List.drop_eq_getElem_cons hlt] at ee
      obtain ⟨a, h3, r2, f1, f2, rfl⟩ := eachL_cons ee
      rw [← hf] at f1
      obtain ⟨τ1, h4, f3, f4⟩ := bind_ok f1
      obtain ⟨f5, rfl⟩ := of_ok f3
      obtain ⟨bb, h5, f6, f7⟩ := bind_ok f4
      refine .inr ⟨go, fun H' => ∃ F2 ρ2 hh acc, Acc W F1 ρ1 H1 D F2 ρ2 H' hh acc ∧ eachL f (ts.drop (n + 1)) hh = .ok r2 hE ∧ ys = acc ++ r2, fun H' ⟨F2, ρ2, hh, acc, A, b1, b2⟩ => ⟨ts.length - (n + 1), by omega, rfl, hlt, F2, ρ2, hh, acc, r2, A, b1, b2⟩, fun v H3 hy => ?_⟩
      obtain ⟨x3, p3, r3⟩ := yl v H3 hy
      have A3 := A.step x3 p3
      have relw := (rel1.ext A3.ext p3).wipe (own := own)
      refine ⟨F2, ρ2, _, MP.wipe τ own, ts[n], τ1, relw, p3, f5, r3, fun σ' relt wok => ?_⟩
      have relt' : Rel W F2 ρ2 (without fl own) τ1 σ' H3 := relt.flx fun j => by
        constructor
        · intro z; exact mem_withouts.mpr ⟨z, fun z' => (mem_withouts.mp z).2 (hsub j z')⟩
        · intro z; exact (mem_withouts.mp z).1
      have hwi : L2.wipe (L2.wipe σ own) own = L2.wipe σ own := by
        have key : ∀ vs : List Nat, ∀ σ : L2.St, (∀ j ∈ vs, ∀ x, σ[j]? ≠ some (some x)) → L2.wipe σ vs = σ := by
          intro vs
          induction vs with
          | nil => intro σ _; rfl
          | cons j vs ih =>
            intro σ hj
            unfold L2.wipe
            rw [ih σ fun k hk => hj k (List.mem_cons_of_mem _ hk)]
            refine List.ext_getElem? fun k => ?_
            by_cases hk : j = k
            · subst hk
              by_cases hl : j < σ.length
              · rw [List.getElem?_set_self hl]
                cases q : σ[j] with
                | none => rw [List.getElem?_eq_getElem hl, q]
                | some y => exact absurd (by rw [List.getElem?_eq_getElem hl, q]) (hj j List.mem_cons_self y)
              · rw [List.getElem?_eq_none (by rw [List.length_set]; omega), List.getElem?_eq_none (by omega)]
            · rw [List.getElem?_set_ne hk]
        exact key own _ fun j hj x e => (L2.wipe_some e).2 hj
      have w' := wok own hsub
      rw [hwi] at w'
      refine ⟨w', F2, ρ2, τ1, h4, ?_⟩
      split at f7
      · refine ⟨true, h5, relt', p3, f6, fun F4 ρ4 H4 x4 p4 => ?_⟩
        obtain ⟨y, h6, f8, f9⟩ := bind_ok f7
        cases f9
        rw [if_pos rfl]
        have A4 := A3.step x4 p4
        refine ⟨F4, ρ4, τ1, _, y, _, relt'.ext x4 p4, p4, f8, fun z F5 ρ5 H5 x5 p5 r5 => ?_⟩
        have A5 := A4.step x5 p5
        obtain ⟨xs, hxs, rr⟩ := A5.lst
        refine ⟨xs, hxs, ?_, F5, ρ5, h3, acc ++ [y], A5.app hD hxs r5, f2, by rw [ey]; simp⟩
        have hlen := rr.length
        have := szOk_le hz
        rw [ey] at this hz
        have hz' : (acc ++ ([y] ++ r2)).length ≤ 16000000 := Nat.le_of_ble_eq_true hz
        simp at hz'
        rw [sizeLine_eq]; omega
      · cases f7
        refine ⟨false, _, relt', p3, f6, fun F4 ρ4 H4 x4 p4 => ?_⟩
        simp only [Bool.false_eq_true, if_false]
        exact ⟨F4, ρ4, _, acc, A3.step x4 p4, f2, by rw [ey]; simp⟩
      · cases f7
    · have e : n = ts.length := by omega
      subst e
      refine .inl ⟨w2 rfl, ?_⟩
      rw [List.drop_length] at ee
      simp only [eachL, Out.ok.injEq] at ee
      obtain ⟨rfl, rfl⟩ := ee
      rw [List.append_nil] at ey
      subst ey
      obtain ⟨xs, hxs, rr⟩ := A.lst
      refine k _ F2 ρ2 H2 (x1.trans A.ext) A.hps ⟨?_, fun b _ e => by cases e; exact x1.nn hD⟩
      simp only [Own]
      exact ⟨D, xs, rfl, hxs, A.nf, A.nr, rr⟩
theorem L_comp {own : List Nat} {elt : E} {t : Tg} {i : I} {c : E} {x tg it : Expr} {ifs : List Expr} {s2 : Scope} {ow : List (Str × Nat)} {pos : Pos} (hc : X.calm = true) (hN : X.N.Nodup)
    (hi : PI X tg it (tI W cl fl .b i)) (ok : BlkOk X.N X.env.scope s2 ow) (how : ow.map (·.2) = own)
    (hg : ∀ (s : Shared) (H : Hp) (C : Addr) (cc : List (Str × Addr)) (fp : List Addr), PG (X.blk s H s2 (compEnvC s2 cc C X.env) fp) tg (gM W (without fl own) t))
    (ht : ∀ (s : Shared) (H : Hp) (C : Addr) (cc : List (Str × Addr)) (fp : List Addr), PTs (X.blk s H s2 (compEnvC s2 cc C X.env) fp) ifs (tT W cl (without fl own) c))
    (he : ∀ (s : Shared) (H : Hp) (C : Addr) (cc : List (Str × Addr)) (fp : List Addr), PE (X.blk s H s2 (compEnvC s2 cc C X.env) fp) x (tE W cl (without fl own) .e elt))
    (hsub : ∀ j ∈ tgS t, j ∈ own) (hs : notSetE it = true) : PE X (.ListComp x [⟨tg, it, ifs, 0⟩] s2 pos) (tE W cl fl .f (.comp own elt t i c)) := by
  refine pe_mono (pe_lc hc hN hi ok hg ht he (fold_of hs)) fun σ H Q q => by rw [how]; exact comp_imp hsub q
end
end MP

set_option Elab.async false
set_option linter.all false
set_option maxRecDepth 100000
namespace MP
open PySem PySem.Spec PyProof.Rows L2

section
variable {W : Wd} {cl : CL} {fl : List Nat} {X : Cx}
theorem Stay.rf {F : AS} {ρ : List Addr} {H : Hp} : Stay W F ρ H F ρ H := ⟨fun _ h => h, ⟨[], by simp⟩, fun _ _ _ h => h, fun _ _ h => h, fun _ _ _ h => h⟩
theorem Stay.tr2 {F F' F'' : AS} {ρ ρ' ρ'' : List Addr} {H H' H'' : Hp} (x : Stay W F ρ H F' ρ' H') (y : Stay W F' ρ' H' F'' ρ'' H'') : Stay W F ρ H F'' ρ'' H'' := by
  obtain ⟨m, rfl⟩ := x.pre
  obtain ⟨n, rfl⟩ := y.pre
  exact ⟨fun a h => y.fF a (x.fF a h), ⟨m ++ n, by simp⟩, fun a o hf h => y.kF a o (x.fF a hf) (x.kF a o hf h), fun a xs h => y.tup a xs (x.tup a xs h), fun a o u h => y.frz a o u (x.frz a o u h)⟩
/-- a write elsewhere -/
theorem Rel.off {F : AS} {ρ : List Addr} {H : Hp} {τ : Sl} {σ : L2.St} {D : Addr} {o : HO} (r : Rel W F ρ fl τ σ H) (st : Stay W F ρ H F ρ (upd H D o)) (nd : ∀ i ∈ fl, ∀ t, getS τ i = some t → isMut t = true → σ[i]? ≠ some (some (.ref D))) : Rel W F ρ fl τ σ (upd H D o) := by
  refine ⟨r.len, fun i t q => ?_, r.dis⟩
  obtain ⟨v, hv, h1, h2⟩ := r.slot i t q
  refine ⟨v, hv, fun hi => (h1 hi).stay st, fun hi => ?_⟩
  have ow := h2 hi
  cases m : isMut t with
  | false =>
    have rp := (ow.rep m).stay st
    cases t <;> first | exact rp | cases m
  | true =>
    obtain ⟨a, ob, rfl, ha, hf, hn, mu⟩ := ow.addr m
    have ne : a ≠ D := fun e => nd i hi t q m (by rw [hv, e])
    cases t with
    | lst ts =>
      simp only [Own] at ow ⊢
      obtain ⟨b, xs, e1, hs, f, n, rr⟩ := ow
      cases e1
      exact ⟨a, xs, rfl, by rw [upd_ne ne]; exact hs, f, n, rr.stay st⟩
    | dct ks ts =>
      simp only [Own] at ow ⊢
      obtain ⟨b, bs, xs, e1, hs, f, n, hk, rr⟩ := ow
      cases e1
      exact ⟨a, bs, xs, rfl, hs.hp fun o h => by rw [upd_ne ne]; exact h, f, n, hk.stay st, rr.stay st⟩
    | _ => cases m
theorem swipe2 {σ : L2.St} {own : List Nat} : L2.wipe (L2.wipe σ own) own = L2.wipe σ own := by
  refine List.ext_getElem? fun k => ?_
  by_cases hk : k ∈ own
  · have n1 : ∀ x, (L2.wipe (L2.wipe σ own) own)[k]? ≠ some (some x) := fun x e => (L2.wipe_some e).2 hk
    have n2 : ∀ x, (L2.wipe σ own)[k]? ≠ some (some x) := fun x e => (L2.wipe_some e).2 hk
    have l1 := L2.wipe_length (L2.wipe σ own) own
    have l2 := L2.wipe_length σ own
    by_cases hl : k < σ.length
    · have e1 : k < (L2.wipe (L2.wipe σ own) own).length := by omega
      have e2 : k < (L2.wipe σ own).length := by omega
      rw [List.getElem?_eq_getElem e1, List.getElem?_eq_getElem e2]
      congr 1
      cases q1 : (L2.wipe (L2.wipe σ own) own)[k] with
      | some x => exact absurd (by rw [List.getElem?_eq_getElem e1, q1]) (n1 x)
      | none => cases q2 : (L2.wipe σ own)[k] with
        | some x => exact absurd (by rw [List.getElem?_eq_getElem e2, q2]) (n2 x)
        | none => rfl
    · rw [List.getElem?_eq_none (by omega), List.getElem?_eq_none (by omega)]
  · rw [L2.wipe_out hk]
theorem setT_outC : ∀ {t : Tg} {u : PV} {τ τ' : Sl} {j : Nat}, setT t u τ = some τ' → j ∉ tgS t → getS τ' j = getS τ j := by
  intro t
  refine Tg.rec (motive_1 := fun t => ∀ {u : PV} {τ τ' : Sl} {j : Nat}, setT t u τ = some τ' → j ∉ tgS t → getS τ' j = getS τ j) (motive_2 := fun ts => ∀ {us : List PV} {τ τ' : Sl} {j : Nat}, setTs ts us τ = some τ' → j ∉ tgS.go ts → getS τ' j = getS τ j) ?_ ?_ ?_ ?_ t
  · intro i u τ τ' j e n
    simp only [setT, Option.some.injEq] at e
    subst e
    simp only [tgS, List.mem_singleton] at n
    unfold getS
    rw [List.getElem?_set_ne (Ne.symm n)]
  · intro ts ih u τ τ' j e n
    cases u <;> simp only [setT, reduceCtorEq] at e
    exact ih e n
  · intro us τ τ' j e n
    cases us <;> simp only [setTs, reduceCtorEq, Option.some.injEq] at e
    rw [e]
  · intro t ts ih1 ih2 us τ τ' j e n
    simp only [tgS.go, List.mem_append, not_or] at n
    cases us with
    | nil => simp [setTs] at e
    | cons u us =>
      simp only [setTs] at e
      obtain ⟨τ1, e1, e2⟩ := Option.bind_eq_some_iff.mp e
      rw [ih2 e2 n.2, ih1 e1 n.1]
theorem mwipe_out {τ : Sl} {j : Nat} : ∀ {own : List Nat}, j ∉ own → ∀ {τ : Sl}, getS (MP.wipe τ own) j = getS τ j
  | [], _, _ => rfl
  | k :: own, h, τ => by
    simp only [List.mem_cons, not_or] at h
    show getS (MP.wipe (τ.set k none) own) j = _
    rw [mwipe_out (τ := τ) h.2]
    unfold getS
    rw [List.getElem?_set_ne (Ne.symm h.1)]
theorem comp2_imp {own : List Nat} {elt : E} {t t2 : Tg} {i i2 : I} {σ : L2.St} {H : Hp} {Q : VK} (hsub : ∀ j ∈ tgS t, j ∈ own) (hsub2 : ∀ j ∈ tgS t2, j ∈ own) (q : tE W cl fl .f (.comp2 own elt t i t2 i2) σ H Q) :
    tLc2 (tI W cl fl .b i) (gM W (without fl own) t) (tT W cl (without fl own) (.con (.bl true))) (tI W cl (without fl own) .e i2) (gM W (without fl own) t2) (tT W cl (without fl own) (.con (.bl true))) (tE W cl (without fl own) .e elt) own (tgS t2) σ H Q := by
  obtain ⟨F, ρ, τ, h, u, hE, rel, p, ev, k⟩ := q
  simp only [evE] at ev
  obtain ⟨ts, h1, e1, g1⟩ := bind_ok ev
  obtain ⟨ys, h2, e2, g2⟩ := bind_ok g1
  split at g2
  rotate_left
  · cases g2
  rename_i hz
  cases g2
  refine ⟨F, ρ, τ, h, ts, h1, rel, p, e1, fun J F1 ρ1 H1 x1 p1 wk D hD => ?_⟩
  generalize hf : (fun x h => (Out.of (setT t x (MP.wipe τ own)) h).bind fun σ' h => (evI cl i2 σ' h).bind fun zs h => eachL (fun z h => (Out.of (setT t2 z (MP.wipe σ' (tgS t2))) h).bind fun σ2 h => (evE cl elt σ2 h).bind fun y h => .ok [y] h) zs h) = f at e2
  have rel1 := rel.ext x1 p1
  refine ⟨fun n m H' => m = ts.length - n ∧ n ≤ ts.length ∧ ∃ F2 ρ2 hh acc r, Acc W F1 ρ1 H1 D F2 ρ2 H' hh acc ∧ eachL f (ts.drop n) hh = .ok r hE ∧ ys = acc ++ r, ⟨ts.length, by simp, Nat.zero_le _, F1, ρ1, h1, [], ys, ?_, by simpa using e2, rfl⟩, ?_⟩
  · obtain ⟨e, p2⟩ := Ext.new' (o := .lst []) p1 hD
    obtain ⟨n1, n2⟩ := p1.notin hD
    exact ⟨e, p2, n2, n1, [], upd_same, by simp [Reps]⟩
  · rintro n m H2 ⟨rfl, hn, F2, ρ2, hh, acc, r, A, ee, ey⟩
    obtain ⟨w1, w2⟩ := wk n F2 ρ2 H2 hh A.ext A.hps hn
    by_cases hlt : n < ts.length
    · have hget : ts[n]? = some ts[n] := List.getElem?_eq_getElem hlt
      obtain ⟨go, yl⟩ := w1 _ hget
      rw [List.drop_eq_getElem_cons hlt] at ee
      obtain ⟨a, h3, r2, f1, f2, rfl⟩ := eachL_cons ee
      rw [← hf] at f1
      obtain ⟨τ1, h4, f3, f4⟩ := bind_ok f1
      obtain ⟨f5, rfl⟩ := of_ok f3
      obtain ⟨zs, h5, f6, f7⟩ := bind_ok f4
      refine .inr ⟨go, fun H' => ∃ F2 ρ2 hh acc, Acc W F1 ρ1 H1 D F2 ρ2 H' hh acc ∧ eachL f (ts.drop (n + 1)) hh = .ok r2 hE ∧ ys = acc ++ r2, fun H' ⟨F2, ρ2, hh, acc, A, b1, b2⟩ => ⟨ts.length - (n + 1), by omega, rfl, hlt, F2, ρ2, hh, acc, r2, A, b1, b2⟩, fun v H3 hy => ?_⟩
      obtain ⟨x3, p3, r3⟩ := yl v H3 hy
      have A3 := A.step x3 p3
      have relw := (rel1.ext A3.ext p3).wipe (own := own)
      refine ⟨F2, ρ2, _, MP.wipe τ own, ts[n], τ1, relw, p3, f5, r3, fun σ' relt wok => ?_⟩
      have relt' : Rel W F2 ρ2 (without fl own) τ1 σ' H3 := relt.flx fun j => by
        constructor
        · intro z; exact mem_withouts.mpr ⟨z, fun z' => (mem_withouts.mp z).2 (hsub j z')⟩
        · intro z; exact (mem_withouts.mp z).1
      have w' := wok own hsub
      rw [swipe2] at w'
      have nd : ∀ j ∈ without fl own, ∀ w, getS τ1 j = some w → isMut w = true → σ'[j]? ≠ some (some (.ref D)) := by
        intro j hj w hw mw hs
        obtain ⟨j1, j2⟩ := mem_withouts.mp hj
        have g1 : getS τ1 j = getS τ j := (setT_outC f5 fun z => j2 (hsub j z)).trans (mwipe_out (τ := τ) j2)
        rw [g1] at hw
        obtain ⟨v0, hv0, _, ow⟩ := rel1.slot j w hw
        obtain ⟨a0, ob, rfl, ha, _⟩ := (ow j1).addr mw
        have s1 : σ'[j]? = σ[j]? := by
          have a1 := L2.wipe_out (σ := σ') j2
          have a2 := L2.wipe_out (σ := σ) j2
          rw [w', a2] at a1
          exact a1.symm
        rw [s1, hv0] at hs
        cases hs
        rw [hD] at ha; cases ha
      refine ⟨w', F2, ρ2, τ1, _, true, _, relt', p3, rfl, fun F4 ρ4 H4 x4 p4 => ?_⟩
      show (if (true : Bool) = true then _ else _)
      rw [if_pos rfl]
      refine ⟨F4, ρ4, τ1, _, zs, h5, relt'.ext x4 p4, p4, f6, fun J1 Fb ρb Hb xb pb wk2 => ?_⟩
      generalize hf2 : (fun z h => (Out.of (setT t2 z (MP.wipe τ1 (tgS t2))) h).bind fun σ2 h => (evE cl elt σ2 h).bind fun y h => .ok [y] h) = fi at f7
      have Ab := (A3.step x4 p4).step xb pb
      refine ⟨fun j kk H' => kk = zs.length - j ∧ j ≤ zs.length ∧ ∃ F5 ρ5 hh acc' r' , Acc W F1 ρ1 H1 D F5 ρ5 H' hh acc' ∧ Rel W F5 ρ5 (without fl own) τ1 σ' H' ∧ Stay W Fb ρb Hb F5 ρ5 H' ∧ eachL fi (zs.drop j) hh = .ok r' h3 ∧ ys = acc' ++ (r' ++ r2),
        ⟨zs.length, by simp, Nat.zero_le _, Fb, ρb, h5, acc, a, Ab, (relt'.ext x4 p4).ext xb pb, Stay.rf, by simpa using f7, by rw [ey]⟩, ?_⟩
      rintro j kk H6 ⟨rfl, hj, F6, ρ6, hh6, acc6, r6, A6, rel6, st6, ee6, ey6⟩
      obtain ⟨v1, v2⟩ := wk2 j F6 ρ6 H6 hh6 st6 A6.hps hj
      by_cases hlj : j < zs.length
      · have hgj : zs[j]? = some zs[j] := List.getElem?_eq_getElem hlj
        obtain ⟨go2, yl2⟩ := v1 _ hgj
        rw [List.drop_eq_getElem_cons hlj] at ee6
        obtain ⟨b, h7, r7, q1, q2, rfl⟩ := eachL_cons ee6
        rw [← hf2] at q1
        obtain ⟨τ2, h8, q3, q4⟩ := bind_ok q1
        obtain ⟨q5, rfl⟩ := of_ok q3
        obtain ⟨y, h9, q6, q7⟩ := bind_ok q4
        cases q7
        refine .inr ⟨go2, fun H' => ∃ F5 ρ5 acc', Acc W F1 ρ1 H1 D F5 ρ5 H' _ acc' ∧ Rel W F5 ρ5 (without fl own) τ1 σ' H' ∧ Stay W Fb ρb Hb F5 ρ5 H' ∧ ys = acc' ++ (r7 ++ r2), fun H' ⟨F5, ρ5, acc', A, b0, b1, b2⟩ => ⟨zs.length - (j + 1), by omega, rfl, hlj, F5, ρ5, _, acc', r7, A, b0, b1, q2, b2⟩, fun z H7 hyz => ?_⟩
        obtain ⟨x7, p7, r7'⟩ := yl2 z H7 hyz
        have A7 := A6.step x7 p7
        have rel7 := rel6.ext x7 p7
        have fle : ∀ k, k ∈ without fl own ↔ k ∈ without (without fl own) (tgS t2) := fun k => by
          constructor
          · intro z; exact mem_withouts.mpr ⟨z, fun z' => (mem_withouts.mp z).2 (hsub2 k z')⟩
          · intro z; exact (mem_withouts.mp z).1
        have rel7w : Rel W F6 ρ6 (without fl own) (MP.wipe τ1 (tgS t2)) (L2.wipe σ' (tgS t2)) H7 := (rel7.wipe (own := tgS t2)).flx fle
        refine ⟨F6, ρ6, _, MP.wipe τ1 (tgS t2), zs[j], τ2, rel7w, p7, q5, r7', fun σ3 relu wok2 => ?_⟩
        have wv := wok2 (tgS t2) fun _ h => h
        rw [swipe2] at wv
        have relu' : Rel W F6 ρ6 (without fl own) τ2 σ3 H7 := relu.flx fle
        refine ⟨wv, F6, ρ6, τ2, _, true, _, relu', p7, rfl, fun F8 ρ8 H8 x8 p8 => ?_⟩
        show (if (true : Bool) = true then _ else _)
        rw [if_pos rfl]
        refine ⟨F8, ρ8, τ2, _, y, _, relu'.ext x8 p8, p8, q6, fun zz F9 ρ9 H9 x9 p9 r9 => ?_⟩
        have A9 := (A7.step x8 p8).step x9 p9
        have rel9 := (rel7.ext x8 p8).ext x9 p9
        obtain ⟨xs, hxs, rr⟩ := A9.lst
        obtain ⟨stw, _⟩ := write_own (o := .lst (xs ++ [zz])) A9.hps hxs trivial A9.nf A9.nr
        refine ⟨xs, hxs, ?_, F9, ρ9, acc6 ++ [y], A9.app hD hxs r9, rel9.off stw nd, (((st6.tr2 x7.stay).tr2 x8.stay).tr2 x9.stay).tr2 stw, by rw [ey6]; simp⟩
        have hlen := rr.length
        rw [ey6] at hz
        have hz' : (acc6 ++ ([y] ++ r7 ++ r2)).length ≤ 16000000 := Nat.le_of_ble_eq_true hz
        simp at hz'
        rw [sizeLine_eq]; omega
      · have e : j = zs.length := by omega
        subst e
        refine .inl ⟨v2 rfl, ?_⟩
        rw [List.drop_length] at ee6
        simp only [eachL, Out.ok.injEq] at ee6
        obtain ⟨rfl, rfl⟩ := ee6
        exact ⟨F6, ρ6, _, acc6, A6, f2, by rw [ey6]; simp⟩
    · have e : n = ts.length := by omega
      subst e
      refine .inl ⟨w2 rfl, ?_⟩
      rw [List.drop_length] at ee
      simp only [eachL, Out.ok.injEq] at ee
      obtain ⟨rfl, rfl⟩ := ee
      rw [List.append_nil] at ey
      subst ey
      obtain ⟨xs, hxs, rr⟩ := A.lst
      refine k _ F2 ρ2 H2 (x1.trans A.ext) A.hps ⟨?_, fun b _ e => by cases e; exact x1.nn hD⟩
      simp only [Own]
      exact ⟨D, xs, rfl, hxs, A.nf, A.nr, rr⟩
theorem L_comp2 {own : List Nat} {elt : E} {t t2 : Tg} {i i2 : I} {x tg it tg2 it2 : Expr} {s2 : Scope} {ow : List (Str × Nat)} {pos : Pos} (hc : X.calm = true) (hN : X.N.Nodup)
    (hi : PI X tg it (tI W cl fl .b i)) (ok : BlkOk X.N X.env.scope s2 ow) (how : ow.map (·.2) = own)
    (hg : ∀ (s : Shared) (H : Hp) (C : Addr) (cc : List (Str × Addr)) (fp : List Addr), PG (X.blk s H s2 (compEnvC s2 cc C X.env) fp) tg (gM W (without fl own) t))
    (ht : ∀ (s : Shared) (H : Hp) (C : Addr) (cc : List (Str × Addr)) (fp : List Addr), PTs (X.blk s H s2 (compEnvC s2 cc C X.env) fp) [] (tT W cl (without fl own) (.con (.bl true))))
    (hi2 : ∀ (s : Shared) (H : Hp) (C : Addr) (cc : List (Str × Addr)) (fp : List Addr), PI (X.blk s H s2 (compEnvC s2 cc C X.env) fp) tg2 it2 (tI W cl (without fl own) .e i2))
    (hg2 : ∀ (s : Shared) (H : Hp) (C : Addr) (cc : List (Str × Addr)) (fp : List Addr), PG (X.blk s H s2 (compEnvC s2 cc C X.env) fp) tg2 (gM W (without fl own) t2))
    (he : ∀ (s : Shared) (H : Hp) (C : Addr) (cc : List (Str × Addr)) (fp : List Addr), PE (X.blk s H s2 (compEnvC s2 cc C X.env) fp) x (tE W cl (without fl own) .e elt))
    (hsub : ∀ j ∈ tgS t, j ∈ own) (hsub2 : ∀ j ∈ tgS t2, j ∈ own) (hs : notSetE it = true) (hs2 : notSetE it2 = true) : PE X (.ListComp x [⟨tg, it, [], 0⟩, ⟨tg2, it2, [], 0⟩] s2 pos) (tE W cl fl .f (.comp2 own elt t i t2 i2)) := by
  refine pe_mono (pe_lc2 (vs1 := tgS t2) hc hN hi ok (by rw [how]; exact hsub2) hg ht hi2 hg2 ht he (fold_of hs) fun env x => fold_of hs2 x) fun σ H Q q => by rw [how]; exact comp2_imp hsub hsub2 q
end
end MP

set_option Elab.async false
set_option linter.all false
set_option maxRecDepth 100000
set_option maxHeartbeats 4000000
/-! {k: v for target in iter}, keys of any kind that MPPut takes. -/
namespace MP
open PySem PySem.Spec PyProof.Rows L2
section
variable {W : Wd} {cl : CL} {fl : List Nat} {X : Cx}
/-- one more entry of the dict at D -/
def PutM (W : Wd) (D : Addr) (y z : V) (H : Hp) (Nx : Hp → Prop) : Prop := ∃ (F : AS) (ρ : List Addr) (ks vs : List PV) (bs xs : List V) (k v : PV), DictAt W H D ks bs xs ∧ Reps W F ρ H ks bs ∧ Reps W F ρ H vs xs ∧
  dkOk k ks = true ∧ szOk ks.length = true ∧ Rep W F ρ H k y ∧ Rep W F ρ H v z ∧ ∀ (o : HO) (bs' xs' : List V), DictAt W (upd H D o) D (put k v ks vs).1 bs' xs' → Reps W F ρ H (put k v ks vs).1 bs' → Reps W F ρ H (put k v ks vs).2 xs' → Nx (upd H D o)
def tDcM (W : Wd) (wi : TI) (g : TG) (tk tv : TE) (vs : List Nat) : TE := fun σ H Q => wi σ H fun J H1 => ∀ D, H1 D = none → ∃ V : Nat → Nat → Hp → Prop, (∃ m, V 0 m (upd H1 D (.dK []))) ∧ ∀ i m H, V i m H →
  (J.stop i H ∧ Q (.ref D) H) ∨ (J.go i H ∧ ∃ Nx : Hp → Prop, (∀ H', Nx H' → ∃ m', m' < m ∧ V (i + 1) m' H') ∧ ∀ x H', J.yld i H x H' → g x (L2.wipe σ vs) H' fun σ2 H2 => L2.wipe σ2 vs = L2.wipe σ vs ∧ tk σ2 H2 fun y H4 => tv σ2 H4 fun z H5 => PutM W D y z H5 Nx)
section
variable {kx vx tg iter : Expr} {sc : Scope} {own : List (Str × Nat)} {pos pos' : Pos} {wi : TI} {g : TG} {tk tv : TE}
theorem dcm_core {pins : List (Addr × Obj)} {s : Shared} {σ : L2.St} {H : Hp} {Q : VK} {use : Option (Value → Sem Unit)} {Qf : Value → Shared → Prop} (calm : X.calm = true) (hu : X.A.units + 20 < cLine) (hK : X.K = W.K) (hw : X.w = W.w) (nodup : X.N.Nodup) (I : Inv X pins σ H s) (hi : PI X tg iter wi) (ok : BlkOk X.N X.env.scope sc own)
    (hg : ∀ (s : Shared) (H : Hp) (C : Addr) (cc : List (Str × Addr)) (fp : List Addr), PG (X.blk s H sc (compEnvC sc cc C X.env) fp) tg g)
    (hk : ∀ (s : Shared) (H : Hp) (C : Addr) (cc : List (Str × Addr)) (fp : List Addr), PE (X.blk s H sc (compEnvC sc cc C X.env) fp) kx tk)
    (hv : ∀ (s : Shared) (H : Hp) (C : Addr) (cc : List (Str × Addr)) (fp : List Addr), PE (X.blk s H sc (compEnvC sc cc C X.env) fp) vx tv) (nofold : ∀ x, foldedSetIterable iter X.env x = pure x)
    (h : tDcM W wi g tk tv (own.map (·.2)) σ H Q)
    (post : ∀ D C z m G, Inv X pins σ G z → Q (.ref D) G → z.heap.Ns C m → FpOk X pins G C → compPost (model X.prog X.w) X.A X.xe use Qf (.ref D) C (.ok .next) z) :
    wpAny (model X.prog X.w) X.A (comprehension (.DictComp kx vx [⟨tg, iter, [], 0⟩] sc pos) sc X.env pos' newDict false (eval iter X.env) use) Qf X.xe s := by
  have cellsOf : ∀ y ∈ sc.names, y.2 = .free → ∃ c, X.env.cells.lookup y.1 = some c := fun y hy e => (ok.free y hy e).elim (fun q => I.ok.has _ (.inl q)) fun q => I.ok.has _ (.inr q)
  refine wpAny_comprehension_free (use := use) rfl nofold (closure_ok cellsOf) ok.kind (fun y hy e => by rw [ok.uniq y hy, e]) (thn (hi.run pins s σ H _ I h) fun _ _ p1 => thn p1 fun _ s2 p2 => ?_)
  obtain ⟨it, fp, tn, J, H2, rfl, I2, T, st2, f2, q⟩ := p2
  refine wpAny_newObj_type (newEnv_comp ?_)
  generalize eD : s2.heap.objs.size = D
  have Dnew : H2 D = none := I2.hok.fresh (Nat.le_of_eq eD)
  obtain ⟨V, ⟨m0, v0⟩, turn⟩ := q D Dnew
  generalize e3 : ({ s2 with heap := s2.heap.push { cls := .type "dict", data := .dict #[] } } : Shared) = s3
  have h3 : s3.heap = s2.heap.push { cls := .type "dict", data := .dict #[] } := by rw [← e3]
  have I3 : Inv X pins σ (upd H2 D (.dK [])) s3 := by
    rw [← e3]
    exact I2.laid (t' := s2.toks) (fun _ _ e => Heap.get?_push_of_some _ e) (Nat.le_of_eq eD) (by rw [← eD]; exact dk_empty s2.heap I2.big)
  have small : ∀ b ∈ fp, b < s2.heap.objs.size := fun b hb => (T.obj _ _ st2 b hb).elim fun _ e => Heap.lt_size e.1
  have f3 : ∀ b ∈ fp, FpOk X pins (upd H2 D (.dK [])) b ∧ b < s3.heap.objs.size := fun b hb => by
    have lt := small b hb
    have ne : b ≠ D := by rw [← eD]; exact Nat.ne_of_lt lt
    exact ⟨⟨by rw [upd_ne ne]; exact (f2 b hb).1, (f2 b hb).2⟩, by rw [h3, Heap.size_push]; exact Nat.lt_succ_of_lt lt⟩
  have st3 : tn 0 s3.heap := T.keep _ _ _ st2 fun b _ o e => by rw [h3]; exact Heap.get?_push_of_some _ e
  have I4 := block_start I3 ok nodup f3
  generalize eC : s3.heap.objs.size = C at I4
  have pg := hg s3 (upd H2 D (.dK [])) C (cellsFrom (C + 1) sc.names (cloFrom X.env.cells sc.names [])) fp
  have pk := hk s3 (upd H2 D (.dK [])) C (cellsFrom (C + 1) sc.names (cloFrom X.env.cells sc.names [])) fp
  have pv := hv s3 (upd H2 D (.dK [])) C (cellsFrom (C + 1) sc.names (cloFrom X.env.cells sc.names [])) fp
  show codeAny _ _ (.compStart (.DictComp kx vx [⟨tg, iter, [], 0⟩] sc pos) 0 (.ref it) (.ref D) (compEnvC sc (cellsFrom (C + 1) sc.names (cloFrom X.env.cells sc.names [])) C X.env)) (compPost (model X.prog X.w) X.A X.xe use Qf (.ref D) C) { s3 with heap := pushCells (s3.heap.push { cls := .type "dict", data := .dict #[] }) sc.names }
  have noneFp : ∀ b ∈ fp, (upd H2 D (.dK [])) b = none := fun b hb => (f3 b hb).1.1
  generalize eE : compEnvC sc (cellsFrom (C + 1) sc.names (cloFrom X.env.cells sc.names [])) C X.env = ce at I4 pg pk pv ⊢
  have locC : ce.locals = C := by rw [← eE]; rfl
  generalize eH : upd H2 D (.dK []) = H3 at I3 I4 pg pk pv v0 noneFp f3
  generalize e4 : ({ s3 with heap := pushCells (s3.heap.push { cls := .type "dict", data := .dict #[] }) sc.names } : Shared) = s4 at I4 ⊢
  have st4 : tn 0 s4.heap := T.keep _ _ _ st3 fun b _ o e => by rw [← e4]; exact pushCells_keeps _ _ _ _ (Heap.get?_push_of_some _ e)
  have calmFp : ∀ {θ : L2.St} {G : Hp} {z : Shared}, Inv (X.blk s3 H3 sc ce fp) [] θ G z → (∀ b ∈ fp, G b = none) → ∀ b ∈ fp, FpOk (X.blk s3 H3 sc ce fp) [] G b := by
    intro θ G z J' hn b hb
    have q := J'.ok.exf b hb
    exact ⟨hn b hb, q.1, J'.ok.exfs b hb, .inl hb, fun x c e => q.2 x c e, fun p hp => by cases hp⟩
  refine codeAny_compStart_dict ?loop (T.self X.A 0 _ _ _ st4 ?loop)
  refine compLoop_anyD (fun n z => ∃ i G, Inv (X.blk s3 H3 sc ce fp) [] (L2.wipe σ (own.map (·.2))) G z ∧ tn i z.heap ∧ (∀ b ∈ fp, G b = none) ∧ V i n G) ?_ m0 ⟨0, H3, I4, st4, noneFp, v0⟩
  rintro n s5 ⟨i, H5, I5, st5, n5, v5⟩
  rcases turn i n H5 v5 with ⟨stop, fin⟩ | ⟨go, Nx, less, step⟩
  · have dn := T.done (X.blk s3 H3 sc ce fp) rfl rfl rfl calm i [] s5 _ H5 (fun _ _ => False) I5 (calmFp I5 n5) st5 stop
    refine thnF dn fun r s6 ⟨er, I6⟩ => ?_
    rw [er]
    have I7 : Inv X pins σ H5 s6 := I3.call' (ch := fp) I6.os I6.base I6.hok I6.bare fun b hb => by
      obtain ⟨_, a1, a2, a3, a4, a5⟩ := (f3 b hb).1
      exact ⟨a3, a1, a4, a5⟩
    have freeC : H5 C = none := by
      have fr : H5 ce.locals = none := I6.free
      rwa [locC] at fr
    obtain ⟨m, nsC, _⟩ := I6.loc
    have nsC2 : s6.heap.Ns ce.locals m := nsC
    rw [locC] at nsC2
    exact post D C s6 m H5 I7 fin nsC2 (I3.fpOk (Nat.le_of_eq eC) freeC)
  · have im := T.item (X.blk s3 H3 sc ce fp) rfl rfl rfl calm i [] s5 _ H5 (fun _ _ => False) I5 (calmFp I5 n5) st5 go
    refine thnF im fun r s6 ⟨u, er, p6⟩ => ?_
    rw [er]
    refine thnF p6 fun _ s7 ⟨x, H7, I7, r7, y7, st7, n7⟩ => ?_
    have P7 := I7.pinned (calmFp I7 n7) (T.obj _ _ st7)
    refine thnF (pg.run _ s7 _ H7 x u _ P7 r7 (step x H7 y7)) fun _ s8 ⟨σ8, H8, I8, w8, q8⟩ => ?_
    refine thnF ((pts_nil (X := X.blk s3 H3 sc ce fp)).run _ s8 σ8 H8 (fun b G => b = true ∧ G = H8) I8 ⟨rfl, rfl⟩) fun b s9 ⟨H9, I9, eb, e9⟩ => ?_
    subst eb e9
    rw [if_pos rfl]
    refine thnF (pk.run _ s9 σ8 H9 _ I9 q8) fun a s10 ⟨ya, H10, I10, ra, q10⟩ => ?_
    refine thnF (pv.run _ s10 σ8 H10 _ I10 q10) fun c s11 ⟨yc, H11, I11, rc, F, ρ, ks, vs, bs, xs, k, v, dAt, rks, rvs, dk, sz, rk, rv, nx⟩ => ?_
    refine dm_dictSet (X := X.blk s3 H3 sc ce fp) hu hK hw I11 dAt rks rvs dk sz rk ra rv rc fun s12 ⟨⟨o, bs', xs', I12, d12, r1, r2⟩⟩ => ?_
    obtain ⟨m', lt, v'⟩ := less _ (nx o bs' xs' d12 r1 r2)
    have pinned : ∀ b ∈ fp, ∀ ob, s7.heap.get? b = some ob → s12.heap.get? b = some ob ∧ (upd H11 D o) b = none := fun b hb ob e => by
      have z := I12.pin (b, ob) (List.mem_append_right _ (List.mem_append_right _ (mem_pinsAt hb e)))
      exact ⟨z.1, z.2.1⟩
    refine ⟨m', lt, i + 1, upd H11 D o, (I12.unpinned (pins := [])).weak (by rw [← w8, L2.wipe_length]) (fun j t e => ?_), T.keep _ _ _ st7 fun b hb ob e => (pinned b hb ob e).1, fun b hb => ?_, v'⟩
    · rw [← w8] at e
      exact (L2.wipe_some e).1
    · obtain ⟨ob, e, _⟩ := T.obj _ _ st7 b hb
      exact (pinned b hb ob e).2
theorem pe_dcm (calm : X.calm = true) (hu : X.A.units + 20 < cLine) (hK : X.K = W.K) (hw : X.w = W.w) (nodup : X.N.Nodup) (hi : PI X tg iter wi) (ok : BlkOk X.N X.env.scope sc own)
    (hg : ∀ (s : Shared) (H : Hp) (C : Addr) (cc : List (Str × Addr)) (fp : List Addr), PG (X.blk s H sc (compEnvC sc cc C X.env) fp) tg g)
    (hk : ∀ (s : Shared) (H : Hp) (C : Addr) (cc : List (Str × Addr)) (fp : List Addr), PE (X.blk s H sc (compEnvC sc cc C X.env) fp) kx tk)
    (hv : ∀ (s : Shared) (H : Hp) (C : Addr) (cc : List (Str × Addr)) (fp : List Addr), PE (X.blk s H sc (compEnvC sc cc C X.env) fp) vx tv) (nofold : ∀ x, foldedSetIterable iter X.env x = pure x) :
    PE X (.DictComp kx vx [⟨tg, iter, [], 0⟩] sc pos) (tDcM W wi g tk tv (own.map (·.2))) := by
  constructor
  intro pins s σ H Q I h
  rw [arm_eval_DictComp]
  refine dcm_core calm hu hK hw nodup I hi ok hg hk hv nofold h ?_
  rintro D C z m G I' q ns ⟨f0, f1, f2, f3, f4, f5⟩
  exact ⟨m, ns, fun g sb => ⟨.ref D, G, I'.turned (t' := z.toks) (fun b o hb e => (sb.2 b hb).trans e) f0 f1 f3 f4 f5, rfl, q⟩⟩
/-- name = {..} on one line -/
theorem ps_setDcm {i : Nat} {y : Str} {py spos : Pos} (calm : X.calm = true) (hu : X.A.units + 20 < cLine) (hK : X.K = W.K) (hw : X.w = W.w) (nodup : X.N.Nodup) (hy : X.N[i]? = some y) (loc : X.env.scope.names.lookup y = some .local)
    (sw : swapsWith (.DictComp kx vx [⟨tg, iter, [], 0⟩] sc pos) (some (.Name y py)) spos.line X.env = pure true) (hi : PI X tg iter wi) (ok : BlkOk X.N X.env.scope sc own)
    (hg : ∀ (s : Shared) (H : Hp) (C : Addr) (cc : List (Str × Addr)) (fp : List Addr), PG (X.blk s H sc (compEnvC sc cc C X.env) fp) tg g)
    (hk : ∀ (s : Shared) (H : Hp) (C : Addr) (cc : List (Str × Addr)) (fp : List Addr), PE (X.blk s H sc (compEnvC sc cc C X.env) fp) kx tk)
    (hv : ∀ (s : Shared) (H : Hp) (C : Addr) (cc : List (Str × Addr)) (fp : List Addr), PE (X.blk s H sc (compEnvC sc cc C X.env) fp) vx tv) (nofold : ∀ x, foldedSetIterable iter X.env x = pure x) :
    PS X (.Assign [.Name y py] (.DictComp kx vx [⟨tg, iter, [], 0⟩] sc pos) spos) (tAsg (tDcM W wi g tk tv (own.map (·.2))) (gName i)) := by
  constructor
  intro pins s σ H D I h
  rw [exec_Assign_Name_used _ _ _ _ sw]
  refine wpAny_bind (wpAny_standAt (wpAny_bind ?_))
  show wpAny _ X.A (do let _ ← comprehension (.DictComp kx vx [⟨tg, iter, [], 0⟩] sc pos) sc X.env (firstIterPos [⟨tg, iter, [], 0⟩] pos) newDict false (eval iter X.env) (some (assign (.Name y py) X.env))) _ _ s
  have h2 : tDcM W wi g tk tv (own.map (·.2)) σ H (fun x G => gName i x σ G D.nx) := h
  refine wpAny_bind (thn (dcm_core (Qf := fun _ z => SP X pins D .next z) calm hu hK hw nodup I hi ok hg hk hv nofold h2 ?_) fun _ z hq => wpAny_pure (wpAny_pure hq))
  rintro L C z m G I' q ns ⟨f0, f1, f2, f3, f4, f5⟩
  show wpAny _ _ (assign (.Name y py) X.env (.ref L)) _ _ _
  refine wpAny_assign_Name (store_ok2 (v := V.ref L) I' nodup hy (.inl loc) rfl (fun s2 I2 ⟨a, sb, ha⟩ => ?_) (.inr loc))
  have ne : C ≠ a := by
    rcases ha with q | q
    · rw [q]; exact f1
    · exact fun e => f4 y a q e.symm
  exact ⟨m, ns.sameBut sb ne, fun h3 sb3 => ⟨_, G, I2.turned (t' := s2.toks) (fun b o hb e => (sb3.2 b hb).trans e) f0 f1 f3 f4 f5, q⟩⟩
end
theorem putAll_app : ∀ (a r : List (PV × PV)) (ks vs : List PV), putAll ks vs ((a ++ r).map (·.1)) ((a ++ r).map (·.2)) = (putAll ks vs (a.map (·.1)) (a.map (·.2))).bind fun p => putAll p.1 p.2 (r.map (·.1)) (r.map (·.2))
  | [], r, ks, vs => by simp [putAll]
  | (k, v) :: a, r, ks, vs => by
    simp only [List.cons_append, List.map_cons, putAll]
    split
    · exact putAll_app a r _ _
    · rfl
theorem put_len (k v : PV) : ∀ (ks vs : List PV), (put k v ks vs).1.length ≤ ks.length + 1
  | [], vs => by cases vs <;> simp [put]
  | a :: ks, [] => by simp [put]
  | a :: ks, w :: vs => by
    have := put_len k v ks vs
    unfold put
    split
    · simp
    · simp only [List.length_cons]; omega
theorem putAll_len : ∀ (a : List (PV × PV)) (ks vs : List PV) (p : List PV × List PV), putAll ks vs (a.map (·.1)) (a.map (·.2)) = some p → p.1.length ≤ ks.length + a.length
  | [], ks, vs, p, h => by simp [putAll] at h; subst h; simp
  | (k, v) :: a, ks, vs, p, h => by
    simp only [List.map_cons, putAll] at h
    split at h
    · have l1 := putAll_len a _ _ p h
      have l2 := put_len k v ks vs
      simp only [List.length_cons]; omega
    · cases h
/-- what the dict holds behind some items -/
structure AccD (W : Wd) (F₁ : AS) (ρ₁ : List Addr) (H₁ : Hp) (D : Addr) (F : AS) (ρ : List Addr) (H : Hp) (h : Hs) (ks vs : List PV) : Prop where
  ext : Ext F₁ ρ₁ H₁ F ρ H
  hps : Hps W F ρ H h
  nf : ¬ F D
  nr : D ∉ ρ
  dct : ∃ bs xs, DictAt W H D ks bs xs ∧ Reps W F ρ H ks bs ∧ Reps W F ρ H vs xs
theorem AccD.step {F₁ F F' : AS} {ρ₁ ρ ρ' : List Addr} {H₁ H H' : Hp} {D : Addr} {h h' : Hs} {ks vs : List PV} (A : AccD W F₁ ρ₁ H₁ D F ρ H h ks vs) (x : Ext F ρ H F' ρ' H') (p : Hps W F' ρ' H' h') : AccD W F₁ ρ₁ H₁ D F' ρ' H' h' ks vs := by
  obtain ⟨bs, xs, d, r1, r2⟩ := A.dct
  obtain ⟨o, ho, _, _⟩ := d.tracked
  exact ⟨A.ext.trans x, p, x.notF ho A.nf, x.notin ho A.nr, bs, xs, d.hp fun u e => x.keep _ _ e A.nr, r1.stay x.stay, r2.stay x.stay⟩
theorem dcomp_imp {own : List Nat} {k v : E} {t : Tg} {i : I} {σ : L2.St} {H : Hp} {Q : VK} (hsub : ∀ j ∈ tgS t, j ∈ own) (q : tE W cl fl .f (.dcomp own k v t i) σ H Q) :
    tDcM W (tI W cl fl .b i) (gM W (without fl own) t) (tE W cl (without fl own) .e k) (tE W cl (without fl own) .e v) own σ H Q := by
  obtain ⟨F, ρ, τ, h, u, hE, rel, p, ev, kk⟩ := q
  simp only [evE] at ev
  obtain ⟨ts, h1, e1, g1⟩ := bind_ok ev
  obtain ⟨ys, h2, e2, g2⟩ := bind_ok g1
  obtain ⟨pp, h3, e3, g3⟩ := bind_ok g2
  obtain ⟨e4, rfl⟩ := of_ok e3
  simp only [Out.ok.injEq] at g3
  obtain ⟨rfl, rfl⟩ := g3
  refine ⟨F, ρ, τ, h, ts, h1, rel, p, e1, fun J F1 ρ1 H1 x1 p1 wk D hD => ?_⟩
  generalize hf : (fun x h => (Out.of (setT t x (MP.wipe τ own)) h).bind fun σ' h => (evE cl k σ' h).bind fun a h => (evE cl v σ' h).bind fun b h => if szOk ts.length = true then Out.ok [(a, b)] h else .bad) = f at e2
  have rel1 := rel.ext x1 p1
  refine ⟨fun n m H' => m = ts.length - n ∧ n ≤ ts.length ∧ ∃ F2 ρ2 hh acc r ks vs, AccD W F1 ρ1 H1 D F2 ρ2 H' hh ks vs ∧ putAll [] [] (acc.map (·.1)) (acc.map (·.2)) = some (ks, vs) ∧ acc.length = n ∧ eachL f (ts.drop n) hh = .ok r h3 ∧ ys = acc ++ r,
    ⟨ts.length, by simp, Nat.zero_le _, F1, ρ1, h1, [], ys, [], [], ?_, rfl, rfl, by simpa using e2, rfl⟩, ?_⟩
  · obtain ⟨e, p2⟩ := Ext.new' (o := .dK []) p1 hD
    obtain ⟨n1, n2⟩ := p1.notin hD
    exact ⟨e, p2, n2, n1, [], [], .inl ⟨[], rfl, rfl, upd_same⟩, by simp [Reps], by simp [Reps]⟩
  · rintro n m H2 ⟨rfl, hn, F2, ρ2, hh, acc, r, ks, vs, A, pa, la, ee, ey⟩
    obtain ⟨w1, w2⟩ := wk n F2 ρ2 H2 hh A.ext A.hps hn
    by_cases hlt : n < ts.length
    · have hget : ts[n]? = some ts[n] := List.getElem?_eq_getElem hlt
      obtain ⟨go, yl⟩ := w1 _ hget
      rw [List.drop_eq_getElem_cons hlt] at ee
      obtain ⟨a0, h4, r2, f1, f2, rfl⟩ := eachL_cons ee
      rw [← hf] at f1
      obtain ⟨τ1, h5, f3, f4⟩ := bind_ok f1
      obtain ⟨f5, rfl⟩ := of_ok f3
      obtain ⟨ka, h6, f6, f7⟩ := bind_ok f4
      obtain ⟨va, h7, f8, f9⟩ := bind_ok f7
      split at f9
      rotate_left
      · cases f9
      rename_i hz
      cases f9
      have pall := e4
      rw [ey, putAll_app, pa] at pall
      simp only [Option.bind_some, List.cons_append, List.nil_append, List.map_cons, putAll] at pall
      split at pall
      rotate_left
      · cases pall
      rename_i dk
      have kl := putAll_len acc [] [] _ pa
      simp only [List.length_nil, Nat.zero_add] at kl
      have hz' : ts.length ≤ 16000000 := Nat.le_of_ble_eq_true hz
      refine .inr ⟨go, fun H' => ∃ F2 ρ2 hh ks' vs', AccD W F1 ρ1 H1 D F2 ρ2 H' hh ks' vs' ∧ putAll [] [] ((acc ++ [(ka, va)]).map (·.1)) ((acc ++ [(ka, va)]).map (·.2)) = some (ks', vs') ∧ eachL f (ts.drop (n + 1)) hh = .ok r2 h3,
        fun H' ⟨F2, ρ2, hh, ks', vs', A, b1, b2⟩ => ⟨ts.length - (n + 1), by omega, rfl, hlt, F2, ρ2, hh, acc ++ [(ka, va)], r2, ks', vs', A, b1, by simp [la], b2, by rw [ey]; simp⟩, fun x H3 hy => ?_⟩
      obtain ⟨x3, p3, r3⟩ := yl x H3 hy
      have A3 := A.step x3 p3
      have relw := (rel1.ext A3.ext p3).wipe (own := own)
      refine ⟨F2, ρ2, _, MP.wipe τ own, ts[n], τ1, relw, p3, f5, r3, fun σ' relt wok => ?_⟩
      have relt' : Rel W F2 ρ2 (without fl own) τ1 σ' H3 := relt.flx fun j => by
        constructor
        · intro z; exact mem_withouts.mpr ⟨z, fun z' => (mem_withouts.mp z).2 (hsub j z')⟩
        · intro z; exact (mem_withouts.mp z).1
      have w' := wok own hsub
      rw [swipe2] at w'
      refine ⟨w', F2, ρ2, τ1, _, ka, h6, relt', p3, f6, fun y F4 ρ4 H4 x4 p4 r4 => ?_⟩
      refine ⟨F4, ρ4, τ1, h6, va, _, relt'.ext x4 p4, p4, f8, fun z F5 ρ5 H5 x5 p5 r5 => ?_⟩
      have A5 := (A3.step x4 p4).step x5 p5
      obtain ⟨bs, xs, d, rk, rv⟩ := A5.dct
      obtain ⟨ob, hob, mu, _⟩ := d.tracked
      have r4' : Rep W F4 ρ4 H4 ka y := r4
      have r5' : Rep W F5 ρ5 H5 va z := r5
      refine ⟨F5, ρ5, ks, vs, bs, xs, ka, va, d, rk, rv, dk, Nat.ble_eq_true_of_le (by omega), r4'.stay x5.stay, r5', fun o bs' xs' d' rk' rv' => ?_⟩
      obtain ⟨st, pw⟩ := write_own (o := o) A5.hps hob mu A5.nf A5.nr
      refine ⟨F5, ρ5, _, (put ka va ks vs).1, (put ka va ks vs).2, ⟨A5.ext.write hD hob mu, pw, A5.nf, A5.nr, bs', xs', d', rk'.stay st, rv'.stay st⟩, ?_, f2⟩
      rw [putAll_app, pa]
      simp only [Option.bind_some, List.map_cons, List.map_nil, putAll, dk, if_true]
    · have e : n = ts.length := by omega
      subst e
      refine .inl ⟨w2 rfl, ?_⟩
      rw [List.drop_length] at ee
      simp only [eachL, Out.ok.injEq] at ee
      obtain ⟨rfl, rfl⟩ := ee
      rw [List.append_nil] at ey
      subst ey
      rw [pa] at e4
      cases e4
      obtain ⟨bs, xs, d, rk, rv⟩ := A.dct
      refine kk _ F2 ρ2 H2 (x1.trans A.ext) A.hps ⟨?_, fun b _ e => by cases e; exact x1.nn hD⟩
      simp only [Own]
      exact ⟨D, bs, xs, rfl, d, A.nf, A.nr, rk, rv⟩
theorem L_dcomp {own : List Nat} {k v : E} {t : Tg} {i : I} {x y tg it : Expr} {s2 : Scope} {ow : List (Str × Nat)} {pos : Pos} (hc : X.calm = true) (hu : X.A.units + 20 < cLine) (hK : X.K = W.K) (hw : X.w = W.w) (hN : X.N.Nodup)
    (hi : PI X tg it (tI W cl fl .b i)) (ok : BlkOk X.N X.env.scope s2 ow) (how : ow.map (·.2) = own)
    (hg : ∀ (s : Shared) (H : Hp) (C : Addr) (cc : List (Str × Addr)) (fp : List Addr), PG (X.blk s H s2 (compEnvC s2 cc C X.env) fp) tg (gM W (without fl own) t))
    (hk : ∀ (s : Shared) (H : Hp) (C : Addr) (cc : List (Str × Addr)) (fp : List Addr), PE (X.blk s H s2 (compEnvC s2 cc C X.env) fp) x (tE W cl (without fl own) .e k))
    (hv : ∀ (s : Shared) (H : Hp) (C : Addr) (cc : List (Str × Addr)) (fp : List Addr), PE (X.blk s H s2 (compEnvC s2 cc C X.env) fp) y (tE W cl (without fl own) .e v))
    (hsub : ∀ j ∈ tgS t, j ∈ own) (hs : notSetE it = true) : PE X (.DictComp x y [⟨tg, it, [], 0⟩] s2 pos) (tE W cl fl .f (.dcomp own k v t i)) := by
  refine pe_mono (pe_dcm hc hu hK hw hN hi ok hg hk hv (fold_of hs)) fun σ H Q q => by rw [how]; exact dcomp_imp hsub q
end
end MP

set_option Elab.async false
set_option linter.all false
set_option maxRecDepth 100000
namespace MP
open PySem PySem.Spec PyProof.Rows L2

/-! ### defs -/
def NoX : CXT := fun _ _ _ _ _ _ => False
def Ex0 : XK := fun _ _ _ => False
def rmOf (b : Bool) : Md := if b = true then .f else .e
/-- what a def promises: what the run tells -/
def spG (W : Wd) (cl : CL) (fr : Nat → Bool) (f : Nat) : Sp := fun vs H Q _ => ∃ F ρ h ts t h', Hps W F ρ H h ∧ Reps W F ρ H ts vs ∧ cl f ts h = .ok t h' ∧
  ∀ v F' ρ' H', Ext F ρ H F' ρ' H' → Hps W F' ρ' H' h' → Rm (rmOf (fr f)) W F' ρ' H H' t v → Q v H'
/-- a def keeps its promise, where no repr is under way -/
structure FnG (P : Program) (w : World) (K : PySem.W.Frag) (mg : Str → Option Value) (base : Heap) (k : Nat) (f : Addr) (fd : FuncData) (ps : List Str) (sp : Sp) : Prop where
  run : ∀ (A : Around) (outer : List Env) (s : Shared) (H : Hp) (args : Args) (us : List Value) (vs : List V) (Q : VK) (E : XK), Room k A → A.guards = some [] → Env0 P w K mg base A outer s H → BindsTo s fd args (ps.zip us) → Vals vs us → vs.length = ps.length → sp vs H Q E →
    codeAny (model P w) A (.call (.ref f) args) (CR NoX outer P w H s Q E) s
section
variable {X : Cx} {k : Nat} {f : Addr} {fd : FuncData} {ps : List Str} {sp : Sp}
theorem run_g {pins : List (Addr × Obj)} {σ : L2.St} {H : Hp} {s : Shared} {Q : VK} {us : List Value} {vs : List V} (F : FnG X.prog X.w X.K X.mg X.base k f fd ps sp) (hr : Room k X.A) (hg : X.A.guards = some []) (hb : Binds X.K fd ps [])
    (I : Inv X pins σ H s) (r : Vals vs us) (hl : vs.length = ps.length) (h : sp vs H Q Ex0) : wpAny (model X.prog X.w) X.A (call (.ref f) us) (EP X pins σ Q) X.xe s := by
  have hl2 : (us ++ []).length = ps.length := by rw [List.append_nil, ← r.length]; exact hl
  have b := hb s us I.kIn hl2
  rw [List.append_nil] at b
  apply wpAny_call
  refine codeAny_mono (F.run X.A X.stack s H ⟨us, []⟩ us vs Q Ex0 hr hg I.env0 b r hl h) ?_
  intro r' s' hq
  match r', hq with
  | .ok (.ret u), hq => exact I.after hq
  | .error e, hq => exact False.elim hq
end
theorem guards_deeper {A : Around} {env : Env} (h : A.guards = some []) : (A.deeper env).guards = some [] := h
/-- a def of the text, by its body -/
theorem fn_g {P : Program} {w : World} {K : PySem.W.Frag} {mg : Str → Option Value} {base : Heap} {k : Nat} {f : Addr} {x qual : Str} {params : Arguments} {body : List Stmt} {scope : Scope} {dvs : List V} {kws : List (Str × V)} {fd : FuncData} {N ps : List Str} {sp : Sp}
    (D : FunD K x qual params body scope dvs kws f fd) (S : FnScope N ps scope)
    (hbody : ∀ (cdv : Value) (A : Around) (outer : List Env) (s : Shared) (H : Hp) (vs : List V) (Q : VK) (E : XK), Room k (A.deeper (envOfC qual scope s.heap.objs.size f cdv)) → A.guards = some [] → vs.length = ps.length → sp vs H Q E →
      ∃ t, PSs (cxOf NoX P w K mg base N qual scope f cdv A outer s H E) body t ∧ t { nx := fun _ H' => Q .non H', rt := Q } (start N vs) H) :
    FnG P w K mg base (k + 1) f fd ps sp := by
  obtain ⟨oc, od, dV, kV, doc, pm, an, cdv, ct, osl, rfl, lk, hcd, _, _⟩ := D.ex
  constructor
  intro A outer s H args us vs Q E hr hg e0 hb r hvl hsp
  have hl : us.length = ps.length := by rw [← r.length]; exact hvl
  have kx : K.In s.heap := e0.mod.kin.keeps fun b o e => (e0.bs b o e).1
  have nl : s.heap.NoLimit := e0.mod.nolimit.keeps fun b o e => (e0.bs b o e).1
  have kinds : ∀ y ∈ ps.zip us, scope.names.lookup y.1 = some .local ∨ (scope.names.lookup y.1 = some .cell ∧ ((cellsFrom (s.heap.objs.size + 1) scope.names []).lookup y.1).isSome = true) := by
    intro y hy
    have hy1 : y.1 ∈ ps := (List.of_mem_zip hy).1
    cases S.par y.1 hy1 with
    | inl q => exact .inl q
    | inr q => exact .inr ⟨q, PySem.W.cellsFrom_some _ _ _ (.inl q)⟩
  apply codeAny_call_function hr.depth (kx _ _ lk) rfl S.co S.gen rfl (PySem.W.codeRec_of kx hcd) (hb _ _ _ _ ?_)
  apply wpAny_newFunctionEnv_cells S.kind kinds
  intro env he s1 hx
  subst he
  refine ⟨nl.keeps hx.toInCall.keep, codeAny_func ?_⟩
  obtain ⟨t, ht, hq⟩ := hbody cdv A outer s H vs Q E (hr.deeper _) hg hvl hsp
  have I := inv_start (CX := NoX) (E := E) S hr.hd e0 hvl r hx
  refine wpAny_mono (ht.run [] s1 (start N vs) H _ I hq) ?_ (fun e s' hs => hs)
  intro fl s' hs
  match fl, hs with
  | .ret u, ⟨v, σ', H', J, rv, q⟩ => exact ⟨v, H', J.os, J.bare, J.base, J.hok, rv, q⟩
  | .next, ⟨σ', H', J, q⟩ => exact ⟨.non, H', J.os, J.bare, J.base, J.hok, rfl, q⟩
  | .brk, ⟨_, _, _, q⟩ => exact False.elim q
  | .cont, ⟨_, _, _, q⟩ => exact False.elim q
/-! ### contexts -/
def bltNames : List Str := ["len", "abs", "int", "tuple", "list", "sorted", "sum", "all", "any", "min", "max", "repr", "dict", "set", "range", "enumerate", "zip", "reversed", "isinstance", "bool", "str"]
structure GoodE (W : Wd) (C : TC) (cl : CL) (fr : Nat → Bool) (np : Nat → Nat) (k : Nat) (X : Cx) (sc : Scope) : Prop extends Good W C X sc where
  guards : X.A.guards = some []
  room : Room k X.A
  fns : ∀ x f, glook C.gl x = some (.fn f) → ∃ a fd ps, X.mg x = some (.ref a) ∧ PySem.W.keepIn X.K (.ref a) = true ∧ Binds X.K fd ps [] ∧ ps.length = np f ∧ FnG X.prog X.w X.K X.mg X.base k a fd ps (spG W cl fr f)
  cons : ∀ x v, glook C.gl x = some (.con v) → ∃ vv u, X.mg x = some u ∧ RelV vv u ∧ ∀ F ρ H, Rep W F ρ H v vv
  free : ∀ x, x ∈ bltNames → glook C.gl x = none → X.mg x = none
theorem GoodE.units {W : Wd} {C : TC} {cl : CL} {fr : Nat → Bool} {np : Nat → Nat} {k : Nat} {X : Cx} {sc : Scope} (G : GoodE W C cl fr np k X sc) : X.A.units + 100 < cLine := by have := G.room.un; omega
theorem GoodE.blk {W : Wd} {C : TC} {cl : CL} {fr : Nat → Bool} {np : Nat → Nat} {k : Nat} {X : Cx} {sc : Scope} (G : GoodE W C cl fr np k X sc) (s2 : Scope) (s : Shared) (H : Hp) (D : Addr) (cc : List (Str × Addr)) (fp : List Addr) :
    GoodE W C cl fr np k (X.blk s H s2 (compEnvC s2 cc D X.env) fp) s2 where
  N := G.N
  scope := relabel_ok s2 X.env
  nd := G.nd
  calm := G.calm
  K := G.K
  w := G.w
  fnc := fun x h => by show (s2.names.lookup x == some .cell) = true; rw [h]; rfl
  guards := G.guards
  room := G.room
  fns := G.fns
  cons := G.cons
  free := G.free
theorem gl_of {sc : Scope} {X : Cx} {x : Str} (hs : ScOk X.env.scope sc) (h : isGl sc x = true) : Gl X x := by
  unfold isGl at h
  split at h
  · rename_i e
    show X.env.kindOf x = _
    unfold Env.kindOf
    exact hs.glo x e
  · cases h
section
variable {W : Wd} {cl : CL} {fl : List Nat} {X : Cx} {C : TC} {fr : Nat → Bool} {np : Nat → Nat} {k : Nat} {sc : Scope}
theorem evEs_len : ∀ {is : Es} {τ : Sl} {h h' : Hs} {ts : List PV} {es : List Expr} {C : TC} {sc : Scope}, mEs C is sc es = true → noStar es = true → evEs cl is τ h = .ok ts h' → ts.length = es.length
  | .nil, τ, h, h', ts, es, C, sc, hm, _, e => by
    simp only [mEs, List.isEmpty_iff] at hm
    subst hm
    simp only [evEs, Out.ok.injEq] at e
    rw [← e.1]; rfl
  | .cons i is, τ, h, h', ts, es, C, sc, hm, hs, e => by
    cases es with
    | nil => simp [mEs] at hm
    | cons x es =>
      simp only [mEs, Bool.and_eq_true] at hm
      simp only [noStar, List.all_cons, Bool.and_eq_true] at hs
      simp only [evEs] at e
      obtain ⟨v, h1, e1, g1⟩ := bind_ok e
      obtain ⟨vs, h2, e2, g2⟩ := bind_ok g1
      cases g2
      simp [evEs_len hm.1.2 hs.2 e2]
  | .star i is, τ, h, h', ts, es, C, sc, hm, hs, e => by
    cases es with
    | nil => simp [mEs] at hm
    | cons x es => cases x <;> simp [mEs, noStar, notStar] at hm hs
theorem star_of {e : Expr} {r : List Expr} {env : Env} (h : notStar e = true) : starEach (e :: r) env = (false, eval e env) :: starEach r env := by cases e <;> first | rfl | simp [notStar] at h
theorem plain_of {pos : Pos} {env : Env} : ∀ {es : List Expr}, noStar es = true → (backTo pos (starEach es env)).any (·.1) = false
  | [], _ => rfl
  | e :: es, h => by
    simp only [noStar, List.all_cons, Bool.and_eq_true] at h
    rw [star_of h.1]
    have := plain_of (pos := pos) (env := env) (es := es) h.2
    simp only [backTo, List.map_cons, List.any_cons] at this ⊢
    rw [this]; rfl
/-- a call of a def of the text -/
theorem L_call {f : Nat} {is : Es} {x : Str} {es : List Expr} {pp pos : Pos} (G : GoodE W C cl fr np k X sc) (hg : isGl sc x = true) (hf : glook C.gl x = some (.fn f)) (hd : notDbg x = true) (ha : PA X es (tEs W cl fl .e is)) (hs : noStar es = true) (hn : es.length = np f) (hm : mEs C is sc es = true) :
    PE X (.Call (.Name x pp) es [] pos) (tE W cl fl (rmOf (fr f)) (.call f is)) := by
  obtain ⟨a, fd, ps, h1, h2, h3, h4, h5⟩ := G.fns x f hf
  have hgl := gl_of G.scope hg
  have go : ∀ {pins : List (Addr × Obj)} {s : Shared} {σ : L2.St} {H : Hp} {Q : VK}, Inv X pins σ H s → tE W cl fl (rmOf (fr f)) (.call f is) σ H Q → tEs W cl fl .e is σ H fun vs H1 => vs.length = ps.length ∧ spG W cl fr f vs H1 Q Ex0 := fun {pins s σ H Q} I q => by
    obtain ⟨F, ρ, τ, h, t, h', rel, p, ev, kk⟩ := q
    simp only [evE] at ev
    obtain ⟨ts, h1', e1, g1⟩ := bind_ok ev
    refine ⟨F, ρ, τ, h, ts, h1', rel, p, e1, fun vs F1 ρ1 H1 x1 p1 r1 => ⟨?_, F1, ρ1, h1', ts, t, h', p1, r1, g1, fun v F2 ρ2 H2 x2 p2 r2 => kk v F2 ρ2 H2 (x1.trans x2) p2 ?_⟩⟩
    · have r1' : Reps W F1 ρ1 H1 ts vs := r1
      rw [← r1'.length, evEs_len hm hs e1, hn, h4]
    · cases hb : fr f with
      | false => rw [hb] at r2; exact r2
      | true => rw [hb] at r2; exact ⟨r2.1, fun a m e => x1.nn (r2.2 a m e)⟩
  cases es with
  | nil =>
    refine ⟨fun pins s σ H Q I q => ?_⟩
    have q2 := go I q
    refine wpAny_Call_Name_kw (ld_glob I hgl h1 ?_ (notDbg_of hd).1)
    obtain ⟨F, ρ, τ, h, ts, h', rel, p, ev, kk⟩ := q2
    have hz : ts = [] := by
      have := evEs_len hm hs ev
      exact List.eq_nil_of_length_eq_zero this
    subst hz
    have hx : is = .nil := by cases is <;> first | rfl | simp [mEs] at hm
    subst hx
    simp only [evEs, Out.ok.injEq, true_and] at ev
    subst ev
    obtain ⟨hl, hsp⟩ := kk [] F ρ H p.ext0 p (show Reps W F ρ H [] [] from by simp [Reps])
    exact PySem.W.callWith_K0 I.kIn h2 (run_g (us := []) h5 G.room G.guards h3 I .nil hl hsp)
  | cons e es =>
    simp only [noStar, List.all_cons, Bool.and_eq_true] at hs
    refine ⟨fun pins s σ H Q I q => ?_⟩
    refine wpAny_Call_Name_kw (ld_glob I hgl h1 ?_ (notDbg_of hd).1)
    refine PySem.W.callWith_K (h₀ := X.base) I.ok.mod.kin h2 (thn (ha.run pos pins s σ H _ I (go I q)) fun us s1 ⟨vs, H1, I1, r, hl, hsp⟩ => ⟨I1.kIn, ?_⟩) (star_of hs.1) (plain_of hs.2)
    exact run_g h5 G.room G.guards h3 I1 r hl hsp
end
end MP

set_option Elab.async false
set_option linter.all false
set_option maxRecDepth 100000
namespace MP
open PySem PySem.Spec PyProof.Rows L2

def tyS : PV → Option String
  | .non => some "NoneType"
  | .bl _ => some "bool"
  | .int _ => some "int"
  | .str _ => some "str"
  | .tup _ => some "tuple"
  | .lst _ => some "list"
  | _ => none
theorem kitTab : (∀ b ∈ ["int", "bool", "tuple", "str", "list"], ∀ a ∈ ["NoneType", "bool", "int", "str", "tuple", "list"], (kitB a b).isSome = true) ∧
    kitB "NoneType" "int" = some false ∧ kitB "NoneType" "bool" = some false ∧ kitB "NoneType" "tuple" = some false ∧ kitB "NoneType" "str" = some false ∧ kitB "NoneType" "list" = some false ∧
    kitB "bool" "int" = some true ∧ kitB "bool" "bool" = some true ∧ kitB "bool" "tuple" = some false ∧ kitB "bool" "str" = some false ∧ kitB "bool" "list" = some false ∧
    kitB "int" "int" = some true ∧ kitB "int" "bool" = some false ∧ kitB "int" "tuple" = some false ∧ kitB "int" "str" = some false ∧ kitB "int" "list" = some false ∧
    kitB "str" "int" = some false ∧ kitB "str" "bool" = some false ∧ kitB "str" "tuple" = some false ∧ kitB "str" "str" = some true ∧ kitB "str" "list" = some false ∧
    kitB "tuple" "int" = some false ∧ kitB "tuple" "bool" = some false ∧ kitB "tuple" "tuple" = some true ∧ kitB "tuple" "str" = some false ∧ kitB "tuple" "list" = some false ∧
    kitB "list" "int" = some false ∧ kitB "list" "bool" = some false ∧ kitB "list" "tuple" = some false ∧ kitB "list" "str" = some false ∧ kitB "list" "list" = some true := by decide +kernel
def tyN : Ty → Option String
  | .int => some "int" | .bool => some "bool" | .tuple => some "tuple" | .str => some "str" | .list => some "list" | _ => none
theorem isTy_kit {x : PV} {t : Ty} {r : Bool} (h : isTy x t = some r) : ∃ a b, tyS x = some a ∧ tyN t = some b ∧ kitB a b = some r := by
  obtain ⟨_, a1, a2, a3, a4, a5, b1, b2, b3, b4, b5, c1, c2, c3, c4, c5, d1, d2, d3, d4, d5, e1, e2, e3, e4, e5, f1, f2, f3, f4, f5⟩ := kitTab
  cases x <;> cases t <;> simp only [isTy, Option.some.injEq, reduceCtorEq] at h <;> subst h <;> exact ⟨_, _, rfl, rfl, by assumption⟩
section
variable {W : Wd} {cl : CL} {fl : List Nat} {X : Cx} {C : TC} {fr : Nat → Bool} {np : Nat → Nat} {k : Nat} {sc : Scope}
theorem Rm.ty {m : Md} {F : AS} {ρ : List Addr} {H₁ H : Hp} {x : PV} {v : V} {a : String} (e : tyS x = some a) (r : Rm m W F ρ H₁ H x v) : TyX W.K H v (.type a) := by
  cases x <;> simp only [tyS, Option.some.injEq, reduceCtorEq] at e <;> subst e
  · rw [r.non]; exact .base .non
  · rw [r.bl]; exact .base (.bl _)
  · rw [r.int]; exact .base (.int _)
  · rw [r.str]; exact .base (.str _)
  · obtain ⟨a, xs, rfl, h, _⟩ := r.tup
    rcases h with (h | ⟨o, h⟩) | ⟨o, its, n, hk, hc, _⟩
    · exact .base (.tup h)
    · exact .fTuple h
    · exact .kTuple hk hc
  · obtain ⟨a, xs, rfl, h, _⟩ := r.lst
    exact .base (.lst h)
theorem L_isin {a : E} {t : Ty} {n : String} {o : Expr} {y : Str} {pp pq pos : Pos} (hK : X.K = W.K) (hg : Gl X "isinstance") (hm : X.mg "isinstance" = none) (hgy : Gl X y) (hmy : X.mg y = none) (hvy : bootBuiltins y = some (.type n)) (hny : y ≠ "__name__") (hdy : (y == ("__debug__" : Str)) = false)
    (hn : tyN t = some n) (ha : PE X o (tE W cl fl .b a)) (hs : notStar o = true) : PE X (.Call (.Name "isinstance" pp) [o, .Name y pq] [] pos) (tE W cl fl .e (.isin a t)) := by
  have hpl : (backTo pos (starEach [.Name y pq] X.env)).any (·.1) = false := by rfl
  refine pe_mono (pe_callB (call_isi (X := X)) hg hm PyProof.Rows.boot_isinstance (pa_cons ha (pa_cons (pe_bltn hgy hmy hvy (v := .ty n) rfl hny hdy) pa_nil) (star_of hs)) (by decide) (by decide) (star_of hs) hpl) fun σ H Q q => ?_
  obtain ⟨F, ρ, τ, h, u, h', rel, p, ev, kk⟩ := q
  simp only [evE] at ev
  obtain ⟨x, h1, e1, g1⟩ := bind_ok ev
  obtain ⟨b, h2, g2, g3⟩ := bind_ok g1
  obtain ⟨e2, rfl⟩ := of_ok g2
  cases g3
  obtain ⟨aa, bb, t1, t2, t3⟩ := isTy_kit e2
  rw [hn] at t2
  cases t2
  refine ⟨F, ρ, τ, h, x, _, rel, p, e1, fun v F1 ρ1 H1 x1 p1 r1 => ?_⟩
  refine ⟨v, .ty n, .type aa, .type n, b, rfl, .ty n, by rw [hK]; exact r1.ty t1, kit_ty t3, ?_⟩
  exact kk _ F1 ρ1 H1 x1 p1 (by simp only [Rm, Rep])
/-! ### list(range(..)), tuple(range(..)), list(enumerate(..)), list(zip(..)) -/
theorem rgV_reps {F : AS} {ρ : List Addr} {H : Hp} : ∀ (n : Nat) (lo : Int), Reps W F ρ H (rangeL lo n) ((List.range n).map fun i => V.int (lo + (i : Nat)))
  | 0, _ => by simp [rangeL, Reps]
  | n + 1, lo => by
    rw [List.range_succ_eq_map, List.map_cons, List.map_map]
    simp only [rangeL, Reps, Rep]
    refine ⟨_, _, rfl, by simp, ?_⟩
    have := rgV_reps (F := F) (ρ := ρ) (H := H) n (lo + 1)
    have e : ((fun i : Nat => V.int (lo + (i : Nat))) ∘ Nat.succ) = fun i : Nat => V.int (lo + 1 + (i : Nat)) := by
      funext i
      simp only [Function.comp]
      congr 1
      omega
    rw [e]
    exact this
def tRg (W : Wd) (cl : CL) (fl : List Nat) (is : Es) : L2.St → Hp → (Int → Int → Hp → Prop) → Prop := fun σ H Q => ∃ F ρ τ h ts h', Rel W F ρ fl τ σ H ∧ Hps W F ρ H h ∧ evI cl (.range is) τ h = .ok ts h' ∧
  ∀ a b F' ρ' H', Ext F ρ H F' ρ' H' → Hps W F' ρ' H' h' → RgOk a b → ts = rangeL a (b - a).toNat → Q a b H'
theorem prg_of {is : Es} {es : List Expr} {p pos : Pos} (hg : Gl X "range") (hm : X.mg "range" = none) (ha : PA X es (tEs W cl fl .e is)) (hl : es.length = 1 ∨ es.length = 2) (hs : noStar es = true) : PRg X (.Call (.Name "range" p) es [] pos) (tRg W cl fl is) := by
  have key : ∀ {σ : L2.St} {H : Hp} {R : Int → Int → Hp → Prop}, tRg W cl fl is σ H R → tEs W cl fl .e is σ H fun vs H1 => (∃ j : Int, vs = [.int j] ∧ R 0 j H1) ∨ (∃ i j : Int, vs = [.int i, .int j] ∧ R i j H1) := fun {σ H R} q => by
    obtain ⟨F, ρ, τ, h, ts, h', rel, p, ev, k⟩ := q
    simp only [evI] at ev
    obtain ⟨xs, h1, e1, g1⟩ := bind_ok ev
    obtain ⟨e2, rfl⟩ := of_ok g1
    refine ⟨F, ρ, τ, h, xs, _, rel, p, e1, fun vs F1 ρ1 H1 x1 p1 r1 => ?_⟩
    have r1' : Reps W F1 ρ1 H1 xs vs := r1
    unfold rangeV at e2
    split at e2 <;> try contradiction
    · rename_i j
      split at e2 <;> try contradiction
      rename_i hj
      cases e2
      rw [Bool.and_eq_true] at hj
      have e := r1'.ints (is := [j]) (by simp [intsOf])
      have hb := Nat.le_of_ble_eq_true hj.2
      have hb1 := small_of hj.1
      exact .inl ⟨j, e, k 0 j F1 ρ1 H1 x1 p1 ⟨by omega, by omega, hb1.1, hb1.2, by omega⟩ (by simp)⟩
    · rename_i i j
      split at e2 <;> try contradiction
      rename_i hj
      cases e2
      rw [Bool.and_eq_true, Bool.and_eq_true] at hj
      have e := r1'.ints (is := [i, j]) (by simp [intsOf])
      have hb := Nat.le_of_ble_eq_true hj.2
      have hb1 := small_of hj.1.1
      have hb2 := small_of hj.1.2
      exact .inr ⟨i, j, e, k i j F1 ρ1 H1 x1 p1 ⟨hb1.1, hb1.2, hb2.1, hb2.2, by omega⟩ rfl⟩
  intro pins s σ H Q I h
  have q := key h
  match es, hl, hs, ha with
  | [a], _, hs, ha =>
    simp only [noStar, List.all_cons, List.all_nil, Bool.and_true] at hs
    refine Call_ (ld_blt I hg hm boot_range (PyProof.Rows.callWith_type1 (thn (ha.run pos pins s σ H _ I q) fun us s1 ⟨vs, H1, I1, r1, q1⟩ => ?_) (star_of hs) rfl))
    rcases q1 with ⟨j, rfl, q⟩ | ⟨i, j, rfl, q⟩
    · obtain ⟨u, rfl, t, rfl⟩ := vals1 r1
      exact call_range_1 ⟨_, 0, j, _, _, _, H1, rfl, IsRange.new _ _ _ _ _ _ _, I1.kept fun b u e => Heap.get?_push_of_some _ e, q⟩
    · obtain ⟨u, u2, rfl, ⟨t, rfl⟩, ⟨t', rfl⟩⟩ := vals2 r1
      exact call_range_2 ⟨_, i, j, _, _, _, H1, rfl, IsRange.new _ _ _ _ _ _ _, I1.kept fun b u e => Heap.get?_push_of_some _ e, q⟩
  | [a, b], _, hs, ha =>
    simp only [noStar, List.all_cons, List.all_nil, Bool.and_true, Bool.and_eq_true] at hs
    refine Call_ (ld_blt I hg hm boot_range (PyProof.Rows.callWith_type1 (thn (ha.run pos pins s σ H _ I q) fun us s1 ⟨vs, H1, I1, r1, q1⟩ => ?_) (star_of hs.1) (by rw [star_of hs.2]; rfl)))
    rcases q1 with ⟨j, rfl, q⟩ | ⟨i, j, rfl, q⟩
    · obtain ⟨u, rfl, t, rfl⟩ := vals1 r1
      exact call_range_1 ⟨_, 0, j, _, _, _, H1, rfl, IsRange.new _ _ _ _ _ _ _, I1.kept fun b u e => Heap.get?_push_of_some _ e, q⟩
    · obtain ⟨u, u2, rfl, ⟨t, rfl⟩, ⟨t', rfl⟩⟩ := vals2 r1
      exact call_range_2 ⟨_, i, j, _, _, _, H1, rfl, IsRange.new _ _ _ _ _ _ _, I1.kept fun b u e => Heap.get?_push_of_some _ e, q⟩
theorem L_lstRg {is : Es} {es : List Expr} {p p2 pos pos2 : Pos} (hc : X.calm = true) (hgl : Gl X "list") (hml : X.mg "list" = none) (hg : Gl X "range") (hm : X.mg "range" = none) (ha : PA X es (tEs W cl fl .e is)) (hl : es.length = 1 ∨ es.length = 2) (hs : noStar es = true) :
    PE X (.Call (.Name "list" p) [.Call (.Name "range" p2) es [] pos2] [] pos) (tE W cl fl .f (.listOf (.range is))) := by
  refine pe_mono (pe_listRg hc hgl hml (prg_of hg hm ha hl hs)) fun σ H Q q => ?_
  obtain ⟨F, ρ, τ, h, u, h', rel, p, ev, kk⟩ := q
  simp only [evE] at ev
  obtain ⟨xs, h1, e1, g1⟩ := bind_ok ev
  split at g1 <;> cases g1
  refine ⟨F, ρ, τ, h, xs, _, rel, p, e1, fun a b F1 ρ1 H1 x1 p1 ok e => ⟨ok, fun q hq => ?_⟩⟩
  subst e
  obtain ⟨x2, p2, r2⟩ := new_lst x1 p1 hq (rgV_reps (W := W) (F := F1) (ρ := ρ1) (H := H1) (b - a).toNat a)
  exact kk _ F1 ρ1 _ x2 p2 r2
theorem L_tupRg {is : Es} {es : List Expr} {p p2 pos pos2 : Pos} (hc : X.calm = true) (hgl : Gl X "tuple") (hml : X.mg "tuple" = none) (hg : Gl X "range") (hm : X.mg "range" = none) (ha : PA X es (tEs W cl fl .e is)) (hl : es.length = 1 ∨ es.length = 2) (hs : noStar es = true) :
    PE X (.Call (.Name "tuple" p) [.Call (.Name "range" p2) es [] pos2] [] pos) (tE W cl fl .e (.tupOf (.range is))) := by
  refine pe_mono (pe_tupRgN hc hgl hml (prg_of hg hm ha hl hs)) fun σ H Q q => ?_
  obtain ⟨F, ρ, τ, h, u, h', rel, p, ev, kk⟩ := q
  simp only [evE] at ev
  obtain ⟨xs, h1, e1, g1⟩ := bind_ok ev
  split at g1 <;> cases g1
  refine ⟨F, ρ, τ, h, xs, _, rel, p, e1, fun a b F1 ρ1 H1 x1 p1 ok e => ⟨ok, fun q o hq ho => ?_⟩⟩
  subst e
  obtain ⟨x2, p2, r2⟩ := new_tup x1 p1 hq ho (rgV_reps (W := W) (F := F1) (ρ := ρ1) (H := H1) (b - a).toNat a)
  exact kk _ F1 ρ1 _ x2 p2 r2
/-! ### methods -/
/-- the receiver's type, read when it stands -/
def TyR (X : Cx) (T : String) (ty : V → Hp → Prop) : Prop := ∀ (pins : List (Addr × Obj)) (σ : L2.St) (H : Hp) (s : Shared) (x : V) (v : Value), Inv X pins σ H s → RelV x v → ty x H → s.TypeIs v T ∧ ∀ a, v = .ref a → ∃ ob, s.heap.get? a = some ob ∧ ob.dict = none
def tMG (ty : V → Hp → Prop) (r : V → List V → Hp → VK → Prop) (to : TE) (t : TA) : TE := fun σ H Q => to σ H fun x H1 => ty x H1 ∧ t σ H1 fun xs H2 => r x xs H2 Q
def tMO (ty ty' : V → Hp → Prop) (r r' : V → List V → Hp → VK → Prop) (to : TE) (t : TA) : TE := fun σ H Q => to σ H fun x H1 => (ty x H1 ∧ t σ H1 fun xs H2 => r x xs H2 Q) ∨ (ty' x H1 ∧ t σ H1 fun xs H2 => r' x xs H2 Q)
theorem base_of {o : Expr} {n : Str} {env : Env} (h : baseOk o = true) : attributeBase o n env (eval o env) = eval o env := by
  unfold attributeBase
  split
  · simp [baseOk] at h
  · rfl
theorem pe_mG {o e : Expr} {es : List Expr} {to : TE} {t : TA} {name : Str} {apos cpos : Pos} {T id : String} {ty : V → Hp → Prop} {r : V → List V → Hp → VK → Prop} (pa : PlainAttrs T) (slot : Slot T name id) (hty : typeOf (.builtin id) = pure (.type "method_descriptor")) (hm : MtR X id r) (tr : TyR X T ty) (ho : PE X o to) (ha : PA X (e :: es) t)
    (hb : baseOk o = true) (hs : noStar (e :: es) = true) (hn : (e :: es).length < 20) (hline : (apos.endLine == cpos.line) = true) : PE X (.Call (.Attribute o name apos) (e :: es) [] cpos) (tMG ty r to t) := by
  have hs' := hs
  simp only [noStar, List.all_cons, Bool.and_eq_true] at hs
  have hst := star_of (env := X.env) (r := es) hs.1
  have hplain := plain_of (pos := cpos) (env := X.env) (es := es) hs.2
  have hall : ∀ {es : List Expr}, noStar es = true → (backTo cpos (starEach es X.env)).all (fun x => !x.1) = true := fun {es} h => by
    induction es with
    | nil => rfl
    | cons e es ih =>
      simp only [noStar, List.all_cons, Bool.and_eq_true] at h
      rw [star_of h.1]
      have := ih h.2
      simp only [backTo, List.map_cons, List.all_cons] at this ⊢
      rw [this]; rfl
  have hfew : ((backTo cpos (starEach (e :: es) X.env)).all (fun x => !x.1) && (backToKw cpos (keywordEach [] X.env)).all (fun x => x.1.isSome)
      && decide ((e :: es).length + ([] : List Keyword).length + (if ([] : List Keyword).isEmpty then 0 else 1) < 30)) = true := by
    rw [hall hs', Bool.true_and]
    have : (e :: es).length + ([] : List Keyword).length + (if ([] : List Keyword).isEmpty then 0 else 1) < 30 := by simp only [List.length_nil, List.isEmpty_nil, if_true]; omega
    rw [decide_eq_true this]; rfl
  refine ⟨fun pins s σ H Q I h => ?_⟩
  refine wpAny_Call_method_late (base_of hb) hfew hline rfl (thn (ho.run pins s σ H _ I h) fun v s1 ⟨x, H1, I1, r1, tyx, q1⟩ => ?_)
  obtain ⟨h1, h2⟩ := tr pins σ H1 s1 x v I1 r1 tyx
  refine ⟨T, id, pa, slot, hty, h1, h2, ?_⟩
  have hA := ha.run cpos pins s1 σ H1 _ I1 q1
  rw [hst] at hA ⊢
  refine Calls.callWith_builtin (by show (false || (backTo cpos (starEach es X.env)).any (·.1)) = false; rw [hplain]; rfl) (Calls.evalArgs_plain ?_)
  exact thn hA fun us s2 ⟨vs, H2, I2, r2, q2⟩ => hm pins s2 σ H2 x vs v us Q I2 r1 r2 q2
theorem pe_mO {o e : Expr} {es : List Expr} {to : TE} {t : TA} {name : Str} {apos cpos : Pos} {T id T' id' : String} {ty ty' : V → Hp → Prop} {r r' : V → List V → Hp → VK → Prop} (pa : PlainAttrs T) (slot : Slot T name id) (hty : typeOf (.builtin id) = pure (.type "method_descriptor")) (hm : MtR X id r) (tr : TyR X T ty)
    (pa' : PlainAttrs T') (slot' : Slot T' name id') (hty' : typeOf (.builtin id') = pure (.type "method_descriptor")) (hm' : MtR X id' r') (tr' : TyR X T' ty') (ho : PE X o to) (ha : PA X (e :: es) t)
    (hb : baseOk o = true) (hs : noStar (e :: es) = true) (hn : (e :: es).length < 20) (hline : (apos.endLine == cpos.line) = true) : PE X (.Call (.Attribute o name apos) (e :: es) [] cpos) (tMO ty ty' r r' to t) := by
  have hs' := hs
  simp only [noStar, List.all_cons, Bool.and_eq_true] at hs
  have hst := star_of (env := X.env) (r := es) hs.1
  have hplain := plain_of (pos := cpos) (env := X.env) (es := es) hs.2
  have hall : ∀ {es : List Expr}, noStar es = true → (backTo cpos (starEach es X.env)).all (fun x => !x.1) = true := fun {es} h => by
    induction es with
    | nil => rfl
    | cons e es ih =>
      simp only [noStar, List.all_cons, Bool.and_eq_true] at h
      rw [star_of h.1]
      have := ih h.2
      simp only [backTo, List.map_cons, List.all_cons] at this ⊢
      rw [this]; rfl
  have hfew : ((backTo cpos (starEach (e :: es) X.env)).all (fun x => !x.1) && (backToKw cpos (keywordEach [] X.env)).all (fun x => x.1.isSome)
      && decide ((e :: es).length + ([] : List Keyword).length + (if ([] : List Keyword).isEmpty then 0 else 1) < 30)) = true := by
    rw [hall hs', Bool.true_and]
    have : (e :: es).length + ([] : List Keyword).length + (if ([] : List Keyword).isEmpty then 0 else 1) < 30 := by simp only [List.length_nil, List.isEmpty_nil, if_true]; omega
    rw [decide_eq_true this]; rfl
  refine ⟨fun pins s σ H Q I h => ?_⟩
  refine wpAny_Call_method_late (base_of hb) hfew hline rfl (thn (ho.run pins s σ H _ I h) fun v s1 ⟨x, H1, I1, r1, qq⟩ => ?_)
  rcases qq with ⟨tyx, q1⟩ | ⟨tyx, q1⟩
  · obtain ⟨h1, h2⟩ := tr pins σ H1 s1 x v I1 r1 tyx
    refine ⟨T, id, pa, slot, hty, h1, h2, ?_⟩
    have hA := ha.run cpos pins s1 σ H1 _ I1 q1
    rw [hst] at hA ⊢
    refine Calls.callWith_builtin (by show (false || (backTo cpos (starEach es X.env)).any (·.1)) = false; rw [hplain]; rfl) (Calls.evalArgs_plain ?_)
    exact thn hA fun us s2 ⟨vs, H2, I2, r2, q2⟩ => hm pins s2 σ H2 x vs v us Q I2 r1 r2 q2
  · obtain ⟨h1, h2⟩ := tr' pins σ H1 s1 x v I1 r1 tyx
    refine ⟨T', id', pa', slot', hty', h1, h2, ?_⟩
    have hA := ha.run cpos pins s1 σ H1 _ I1 q1
    rw [hst] at hA ⊢
    refine Calls.callWith_builtin (by show (false || (backTo cpos (starEach es X.env)).any (·.1)) = false; rw [hplain]; rfl) (Calls.evalArgs_plain ?_)
    exact thn hA fun us s2 ⟨vs, H2, I2, r2, q2⟩ => hm' pins s2 σ H2 x vs v us Q I2 r1 r2 q2
end
end MP

set_option Elab.async false
set_option linter.all false
set_option maxRecDepth 100000
namespace MP
open PySem PySem.Spec PyProof.Rows L2

section
variable {W : Wd} {cl : CL} {fl : List Nat} {X : Cx}
def tyDict (W : Wd) : V → Hp → Prop := fun x H => ∃ a ks bs xs, x = .ref a ∧ DictAt W H a ks bs xs
theorem tyR_dict : TyR X "dict" (tyDict W) := by
  intro pins σ H s x v I r h
  obtain ⟨a, ks, bs, xs, rfl, D⟩ := h
  cases r
  refine ⟨dict_type I D, fun b e => ?_⟩
  cases e
  rcases D with ⟨kk, _, _, h3⟩ | ⟨es, h1, _⟩
  · obtain ⟨_, _, vs, _, d⟩ := dk_of I.hok h3
    obtain ⟨o, _, _, ho, ex, _⟩ := d
    exact ⟨o, ho, ex.2.1⟩
  · obtain ⟨⟨o, arr, ep, g1, g2, _, _⟩, _, _⟩ := I.hok a _ h1
    exact ⟨o, g1, g2.2.1⟩
def tyList (K : PySem.W.Frag) : V → Hp → Prop := fun x H => ∃ a xs, x = .ref a ∧ SqL K H a xs
theorem tyR_list : TyR X "list" (tyList X.K) := by
  intro pins σ H s x v I r h
  obtain ⟨a, xs, rfl, hq⟩ := h
  cases r
  obtain ⟨its, _, pl, _⟩ := I.list hq
  refine ⟨pl.isList.typeIs, fun b e => ?_⟩
  cases e
  obtain ⟨o, n, e, c, hd, _⟩ := pl
  exact ⟨o, e, hd⟩
def rGetM (W : Wd) : V → List V → Hp → VK → Prop := fun x xs H Q => ∃ F ρ a ks vs bs zs k d y z, x = V.ref a ∧ xs = [y, z] ∧ DictAt W H a ks bs zs ∧ Reps W F ρ H ks bs ∧ Reps W F ρ H vs zs ∧ dkOk k ks = true ∧ Rep W F ρ H k y ∧ Rep W F ρ H d z ∧
  ∀ v, Rep W F ρ H ((look k ks vs).getD d) v → Q v H
theorem mt_getM (hu : X.A.units + 20 < cLine) (hK : X.K = W.K) (hw : X.w = W.w) : MtR X "dict.get" (rGetM W) := by
  intro pins s σ H x xs v us Q I rx rxs h
  obtain ⟨F, ρ, a, ks, vs, bs, zs, k, d, y, z, rfl, rfl, D, R, Rv, ok, rk, rd, q⟩ := h
  cases rx
  obtain ⟨u1, u2, rfl, r1, r2⟩ := vals2 rxs
  exact dm_get2 hu I hK hw D R Rv ok rk r1 rd r2 fun x w' s' I' ra rb => ⟨x, H, I', ra, q x rb⟩
theorem L_get {a : E} {is : Es} {o e : Expr} {es : List Expr} {apos cpos : Pos} (hu : X.A.units + 20 < cLine) (hK : X.K = W.K) (hw : X.w = W.w) (ho : PE X o (tE W cl fl .b a)) (ha : PA X (e :: es) (tEs W cl fl .e is))
    (hb : baseOk o = true) (hs : noStar (e :: es) = true) (hn : (e :: es).length < 20) (hline : (apos.endLine == cpos.line) = true) : PE X (.Call (.Attribute o "get" apos) (e :: es) [] cpos) (tE W cl fl .e (.meth .get a is)) := by
  refine pe_mono (pe_mG PySem.F.plainAttrs_dict PySem.F.slot_dict_get PySem.F.type_dict_get (mt_getM hu hK hw) (tyR_dict (W := W)) ho ha hb hs hn hline) fun σ H Q q => ?_
  obtain ⟨F, ρ, τ, h, t, h', rel, p, ev, k⟩ := q
  simp only [evE] at ev
  obtain ⟨x, h1, e1, g1⟩ := bind_ok ev
  obtain ⟨ys, h2, e2, g2⟩ := bind_ok g1
  obtain ⟨e3, rfl⟩ := of_ok g2
  refine ⟨F, ρ, τ, h, x, h1, rel, p, e1, fun v F1 ρ1 H1 x1 p1 r1 => ?_⟩
  unfold methV at e3
  split at e3 <;> try contradiction
  split at e3 <;> try contradiction
  rename_i ks vs kk d _ ok
  cases e3
  obtain ⟨c, bs, xs, rfl, D, R, Rv⟩ := r1.dct
  refine ⟨⟨c, ks, bs, xs, rfl, D⟩, F1, ρ1, τ, h1, [kk, d], _, rel.ext x1 p1, p1, e2, fun ws F2 ρ2 H2 x2 p2 r2 => ?_⟩
  have r2' : Reps W F2 ρ2 H2 [kk, d] ws := r2
  simp only [Reps] at r2'
  obtain ⟨y, _, rfl, q1, z, _, rfl, q2, rfl⟩ := r2'
  have r3 : Rm .b W F2 ρ2 H1 H2 (.dct ks vs) (.ref c) := r1.imp (fun o => o.stay x2 p2) (Rep.stay x2.stay)
  obtain ⟨c', bs', xs', ec, D', R', Rv'⟩ := r3.dct
  cases ec
  exact ⟨F2, ρ2, c, ks, vs, bs', xs', kk, d, y, z, rfl, rfl, D', R', Rv', ok, q1, q2, fun v rv => k v F2 ρ2 H2 (x1.trans x2) p2 rv⟩
theorem posOf_at {x : PV} (px : plain depthLine x = true) : ∀ {ys : List PV} {j : Nat}, plains depthLine ys = true → posOf x ys = some j → ∃ z, (toDs ys)[j]? = some z ∧ PyData.eqv z (toD x) = true ∧ ∀ (m : Nat) (z' : PyData), m < j → (toDs ys)[m]? = some z' → PyData.eqv z' (toD x) = false
  | [], j, _, h => by simp [posOf] at h
  | y :: ys, j, p, h => by
    simp only [plains, Bool.and_eq_true] at p
    simp only [posOf] at h
    simp only [toDs]
    split at h
    · rename_i he
      cases h
      exact ⟨toD y, rfl, by rw [eqv_toD p.1 px]; exact he, fun m z' hm => absurd hm (by omega)⟩
    · rename_i he
      obtain ⟨j', h1, rfl⟩ := Option.map_eq_some_iff.mp h
      obtain ⟨z, a1, a2, a3⟩ := posOf_at px p.2 h1
      refine ⟨z, by simpa using a1, a2, fun m z' hm hz => ?_⟩
      cases m with
      | zero => simp at hz; rw [← hz, eqv_toD p.1 px]; simpa using he
      | succ m => exact a3 m z' (by omega) (by simpa using hz)
/-- the receiver is a tuple of no dict -/
def tyTup (K : PySem.W.Frag) : V → Hp → Prop := fun x H => ∃ a xs, x = .ref a ∧ SqN K H a xs
theorem tyR_tup : TyR X "tuple" (tyTup X.K) := by
  intro pins σ H s x v I r h
  obtain ⟨a, xs, rfl, hq⟩ := h
  cases r
  obtain ⟨its, _, pl, _⟩ := I.tuple hq.t
  refine ⟨pl.typeIs, fun b e => ?_⟩
  cases e
  rcases hq with ⟨o, ho, hn⟩ | ⟨o, its, n, hk, _, hn, _⟩
  · exact ⟨o, (I.hok a _ ho).1, hn⟩
  · exact ⟨o, I.kIn a o hk, hn⟩
/-- t.index(x): the first place of an equal one -/
def rIndexT (K : PySem.W.Frag) : V → List V → Hp → VK → Prop := fun x xs H Q => ∃ (a : Addr) (zs : List V) (y : V) (d : PyData) (ds : List PyData) (j : Nat) (z : PyData), x = V.ref a ∧ xs = [y] ∧ SqT K H a zs ∧ DpAll K H zs ds ∧ Dp K H y d ∧
  SeqAt.shaped (.list ds) = true ∧ SeqAt.shaped d = true ∧ ds[j]? = some z ∧ PyData.eqv z d = true ∧ (∀ (m : Nat) (z' : PyData), m < j → ds[m]? = some z' → PyData.eqv z' d = false) ∧ Q (.int (j : Nat)) H
theorem mt_indexT (hu : X.A.units + 65 < cLine) : MtR X "tuple.index" (rIndexT X.K) := by
  rintro pins s σ H x xs v us Q I rx rxs ⟨a, zs, y, d, ds, j, z, rfl, rfl, hs, ha, hy, sl, sd, hz, hzj, hno, q⟩
  cases rx
  obtain ⟨uy, rfl, ry⟩ := vals1 rxs
  obtain ⟨bs, r1⟩ := Dp.reads I d y uy hy ry
  have lay : PyData.canLayAll0 ds = true := SeqAt.canLay_of_shaped sl
  have room : X.A.units + 1 + min (PyData.depthAll ds) d.depth < cLine := room_in_shaped sd hu
  obtain ⟨its, rv, ⟨⟨oc, od, dt, os⟩, ho, isT, n, isD⟩, _⟩ := I.tuple hs
  have isT2 : oc = .type "tuple" := isT
  have isD2 : dt = .seq its.toArray n := isD
  rw [isT2, isD2] at ho
  obtain ⟨as, h4⟩ := Dp.readsAll I ds _ its ha rv
  have hn : its.length = ds.length := SeqAt.ReadsAll.length ds its as h4
  have hmap : its.map (SeqAt.readOf s.heap) = ds := SeqAt.readsAll_map ds its as lay h4
  obtain ⟨jd, _⟩ := List.getElem?_eq_some_iff.mp hz
  have jl : j < its.toArray.size := by rw [List.size_toArray, hn]; exact jd
  let e : Nat → Bool := fun m => match ds[m]? with
    | some z => PyData.eqv z d
    | none => false
  have eqs := SeqAt.items_eqAt (vs := its.toArray) (show ReadsAll s.heap its.toArray.toList ds as from h4) r1 lay (SeqAt.canLay_of_shaped sd) room
  refine call_meets PySem.F.slot_tuple_index ⟨_, ho, rfl⟩ PySem.F.entry_tuple_index (PySem.F.args_tuple_index_2 _ _)
    (SeqAt.tuple_index2_found a its.toArray n od os uy e j jl (Nat.zero_le _) jl (by show (match ds[j]? with | some z => PyData.eqv z d | none => false) = true; rw [hz]; exact hzj) fun m hm _ mj => ?_) ⟨ho, fun m hm => ?_, ?_⟩
  · show (match ds[m]? with | some z => PyData.eqv z d | none => false) = false
    cases q : ds[m]? with
    | none => rfl
    | some z' => exact hno m z' mj q
  · have ml : m < its.length := by simpa using hm
    have dm : ds[m]? = some (SeqAt.readOf s.heap its[m]) := by rw [← hmap, List.getElem?_map, List.getElem?_eq_getElem ml]; rfl
    have := eqs its.toArray[m] (Array.getElem_mem hm)
    have ee : e m = PyData.eqv (SeqAt.readOf s.heap its.toArray[m]) d := by
      show (match ds[m]? with | some z => PyData.eqv z d | none => false) = _
      rw [dm]
      simp
    rw [ee]
    exact this
  · exact ⟨.int (j : Nat), H, I.tok _, ⟨_, rfl⟩, q⟩
theorem L_index {a : E} {is : Es} {o e : Expr} {es : List Expr} {apos cpos : Pos} (hu : X.A.units + 100 < cLine) (hK : X.K = W.K) (ho : PE X o (tE W cl fl .b a)) (ha : PA X (e :: es) (tEs W cl fl .b is))
    (hb : baseOk o = true) (hs : noStar (e :: es) = true) (hn : (e :: es).length < 20) (hline : (apos.endLine == cpos.line) = true) : PE X (.Call (.Attribute o "index" apos) (e :: es) [] cpos) (tE W cl fl .e (.meth .index a is)) := by
  refine pe_mono (pe_mO PySem.F.plainAttrs_list PySem.F.slot_list_index PySem.F.type_list_index (mt_indexD (X := X) (by omega)) tyR_list PySem.F.plainAttrs_tuple PySem.F.slot_tuple_index PySem.F.type_tuple_index (mt_indexT (X := X) (by omega)) tyR_tup ho ha hb hs hn hline) fun σ H Q q => ?_
  obtain ⟨F, ρ, τ, h, t, h', rel, p, ev, k⟩ := q
  simp only [evE] at ev
  obtain ⟨x, h1, e1, g1⟩ := bind_ok ev
  obtain ⟨ys, h2, e2, g2⟩ := bind_ok g1
  obtain ⟨e3, rfl⟩ := of_ok g2
  refine ⟨F, ρ, τ, h, x, h1, rel, p, e1, fun v F1 ρ1 H1 x1 p1 r1 => ?_⟩
  unfold methV at e3
  split at e3 <;> try contradiction
  · split at e3 <;> try contradiction
    rename_i xs y _ ok
    rw [Bool.and_eq_true] at ok
    obtain ⟨j, hj, rfl⟩ := Option.map_eq_some_iff.mp e3
    obtain ⟨c, zs, rfl, hc, rr⟩ := r1.lst
    refine .inl ⟨⟨c, zs, rfl, SqL.of hc⟩, F1, ρ1, τ, h1, [y], _, rel.ext x1 p1, p1, e2, fun ws F2 ρ2 H2 x2 p2 r2 => ?_⟩
    obtain ⟨w, rfl, rw'⟩ := rb1 r2
    have r3 : Rm .b W F2 ρ2 H1 H2 (.lst xs) (.ref c) := r1.imp (fun o => o.stay x2 p2) (Rep.stay x2.stay)
    have py : plain (depthLine + 1) (.lst xs) = true := by simp only [plain]; exact ok.2
    obtain ⟨z, a1, a2, a3⟩ := posOf_at ok.1 ok.2 hj
    obtain ⟨c1, c2⟩ := toDs_plain ok.2
    refine ⟨c, w, toD y, toDs xs, j, z, rfl, rfl, ?_, ?_, ?_, shaped_of ok.1, a1, a2, a3, k _ F2 ρ2 H2 (x1.trans x2) p2 (by simp only [Rm, Rep])⟩
    · have := r3.dp py
      rw [hK]
      simpa only [toD] using this
    · rw [hK]; exact rw'.dp ok.1
    · unfold SeqAt.shaped
      simp only [PyData.canLay0, PyData.depth, c1, Bool.true_and]
      exact decide_eq_true (by have : depthLine = 60 := rfl; omega)
  · split at e3 <;> try contradiction
    rename_i xs y _ ok
    rw [Bool.and_eq_true] at ok
    obtain ⟨j, hj, rfl⟩ := Option.map_eq_some_iff.mp e3
    obtain ⟨c, zs, rfl, hc, rr⟩ := r1.tupN
    refine .inr ⟨⟨c, zs, rfl, by rw [hK]; exact hc⟩, F1, ρ1, τ, h1, [y], _, rel.ext x1 p1, p1, e2, fun ws F2 ρ2 H2 x2 p2 r2 => ?_⟩
    obtain ⟨w, rfl, rw'⟩ := rb1 r2
    have py : plains depthLine xs = true := ok.2
    obtain ⟨z, a1, a2, a3⟩ := posOf_at ok.1 ok.2 hj
    obtain ⟨c1, c2⟩ := toDs_plain ok.2
    refine ⟨c, zs, w, toD y, toDs xs, j, z, rfl, rfl, ?_, ?_, ?_, ?_, shaped_of ok.1, a1, a2, a3, k _ F2 ρ2 H2 (x1.trans x2) p2 (by simp only [Rm, Rep])⟩
    · rw [hK]; exact SqT.ext x2 hc.t
    · rw [hK]; exact (rr.stay x2.stay).dps py
    · rw [hK]; exact rw'.dp ok.1
    · unfold SeqAt.shaped
      simp only [PyData.canLay0, PyData.depth, c1, Bool.true_and]
      exact decide_eq_true (by have : depthLine = 60 := rfl; omega)
end
end MP

set_option Elab.async false
set_option linter.all false
set_option maxRecDepth 100000
namespace MP
open PySem PySem.Spec PyProof.Rows L2

/-! ### what may be read where: own names are read, not handed on -/
def esLen : Es → Nat
  | .nil => 0
  | .cons _ es => esLen es + 1
  | .star _ es => esLen es + 1
def isTgT : Tg → Bool
  | .t _ => true
  | .v _ => false
def needT : I → Bool
  | .enum _ => true
  | .zip _ => true
  | _ => false
section
variable (fr : Nat → Bool) (np : Nat → Nat)
def notF : Md → Bool
  | .f => false
  | _ => true
def isE : Md → Bool
  | .e => true
  | _ => false
def isRg : I → Bool
  | .range _ => true
  | _ => false
mutual
def okM (m : Md) (fl : List Nat) : E → Bool
  | .var i => (match m with
    | .b => true
    | .e => !fl.contains i
    | .f => false)
  | .con _ => notF m
  | .bin op a b => (match op with
    | .Add => okM .b fl a && okM .b fl b
    | .Mult => okM .b fl a && okM .b fl b
    | .Sub => okM .e fl a && okM .e fl b
    | .FloorDiv => okM .e fl a && okM .e fl b
    | .Mod => okM .e fl a && okM .e fl b
    | .Pow => okM .e fl a && okM .e fl b
    | _ => false)
  | .neg a => notF m && okM .e fl a
  | .not a => notF m && okM .e fl a
  | .cmp _ a b => notF m && (okM .b fl a && okM .b fl b)
  | .chain _ _ a b c => notF m && (okM .b fl a && okM .b fl b && okM .b fl c)
  | .and a b => notF m && (okM .e fl a && okM .e fl b)
  | .or a b => notF m && (okM .e fl a && okM .e fl b)
  | .ite c a b => notF m && (okT fl c && okM .e fl a && okM .e fl b)
  | .tup es => notF m && okEs .e fl es
  | .lst es => okEs .e fl es
  | .shr es => notF m && okEs .e fl es
  | .dnew => true
  | .idx a b => notF m && (okM .b fl a && okM .e fl b)
  | .slc a lo hi => okM .b fl a && okM .e fl lo && okM .e fl hi
  | .rev a => okM .b fl a
  | .bi _ es => okEs .b fl es
  | .call f es => okEs .e fl es && (esLen es == np f) && (notF m || fr f)
  | .callv _ _ => false
  | .meth mi a es => notF m && (okM .b fl a && (match mi with
    | .get => okEs .e fl es
    | .index => okEs .b fl es
    | _ => false))
  | .isin a _ => notF m && okM .b fl a
  | .listOf i => isRg i && okI .b fl i
  | .tupOf i => notF m && isRg i && okI .b fl i
  | .fld _ _ => false
  | .comp own elt t i c => okI .b fl i && okM .e (without fl own) elt && okT (without fl own) c && (!needT i || isTgT t)
  | .comp2 own elt t i t2 i2 => okI .b fl i && okM .e (without fl own) elt && okI .e (without fl own) i2 && (!needT i || isTgT t) && (!needT i2 || isTgT t2)
  | .dcomp own k v t i => okI .b fl i && okM .e (without fl own) k && okM .e (without fl own) v && (!needT i || isTgT t)
def okT (fl : List Nat) : E → Bool
  | .not a => okT fl a
  | .cmp _ a b => okM .b fl a && okM .b fl b
  | .chain _ _ a b c => okM .b fl a && okM .b fl b && okM .b fl c
  | .and a b => okT fl a && okT fl b
  | .or a b => okT fl a && okT fl b
  | .var i => !fl.contains i
  | .con _ => true
  | .idx a b => okM .b fl a && okM .e fl b
  | .bi _ es => okEs .b fl es
  | .call f es => okEs .e fl es && (esLen es == np f)
  | .isin a _ => okM .b fl a
  | _ => false
def okEs (m : Md) (fl : List Nat) : Es → Bool
  | .nil => true
  | .cons e es => okM m fl e && okEs m fl es
  | .star e es => isE m && (okM .b fl e && okEs .e fl es)
def okI (m : Md) (fl : List Nat) : I → Bool
  | .it e => okM m fl e
  | .range es => okEs .e fl es && (esLen es == 1 || esLen es == 2)
  | .enum e => okM m fl e
  | .zip es => okEs m fl es && (esLen es == 2)
  | .rev e => okM m fl e
end
end

/-! ### built-ins by name -/
def biVal : BI → Value
  | .len => .builtin "len" | .abs => .builtin "abs" | .sorted => .builtin "sorted" | .setSorted => .builtin "sorted" | .sum => .builtin "sum" | .all => .builtin "all" | .any => .builtin "any" | .min => .builtin "min" | .max => .builtin "max" | .repr => .builtin "repr"
  | .int => .type "int" | .tuple => .type "tuple" | .list => .type "list" | .dict => .type "dict"
theorem bi_boot : ∀ f : BI, bootBuiltins (biName f) = some (biVal f)
  | .len => boot_len | .abs => boot_abs | .sorted => boot_sorted | .setSorted => boot_sorted | .sum => boot_sum | .all => boot_all | .any => boot_any | .min => boot_min | .max => boot_max | .repr => boot_repr
  | .int => boot_int | .tuple => boot_tuple | .list => boot_list | .dict => boot_dict
theorem bi_in : ∀ f : BI, biName f ∈ bltNames := by
  intro f
  cases f <;> simp [biName, bltNames]
theorem bi_notset {f : BI} (h : f ≠ .setSorted) {W : Wd} {X : Cx} (hc : X.calm = true) (hu : X.A.units + 100 < cLine) (hK : X.K = W.K) (hw : X.w = W.w) (hg : X.A.guards = some []) : BiR W X (biVal f) f := by
  cases f
  · exact bi_len hK hw
  · exact bi_abs
  · exact bi_int
  · exact bi_tuple hK
  · exact bi_list hK
  · exact bi_sorted hK
  · exact absurd rfl h
  · exact bi_sum hc
  · exact bi_all hc
  · exact bi_any hc
  · exact bi_min hc
  · exact bi_max hc
  · exact bi_repr hu hK hg
  · exact bi_dict hc hu hK hw
section
variable {W : Wd} {cl : CL} {X : Cx} {C : TC} {fr : Nat → Bool} {np : Nat → Nat} {k : Nat} {sc : Scope}
theorem mEs_len : ∀ {is : Es} {es : List Expr}, mEs C is sc es = true → es.length = esLen is
  | .nil, es, h => by simp only [mEs, List.isEmpty_iff] at h; subst h; rfl
  | .cons i is, es, h => by
    cases es with
    | nil => simp [mEs] at h
    | cons e es => simp only [mEs, Bool.and_eq_true] at h; simp [esLen, mEs_len h.1.2]
  | .star i is, es, h => by
    cases es with
    | nil => simp [mEs] at h
    | cons e es => cases e <;> simp [mEs] at h; simp [esLen, mEs_len h.2]
theorem upF {i : E} {fl : List Nat} {e : Expr} (h : PE X e (tE W cl fl .f i)) : ∀ m, PE X e (tE W cl fl m i)
  | .f => h
  | .e => pe_mono h fun _ _ _ q => tE_fe q
  | .b => pe_mono h fun _ _ _ q => tE_bf q
theorem upE {i : E} {fl : List Nat} {e : Expr} (h : PE X e (tE W cl fl .e i)) : ∀ {m}, notF m = true → PE X e (tE W cl fl m i)
  | .f, z => by simp [notF] at z
  | .e, _ => h
  | .b, _ => pe_mono h fun _ _ _ q => tE_be q
structure Blt (C : TC) (X : Cx) (sc : Scope) (x y : Str) : Prop where
  eq : x = y
  gl : Gl X x
  mg : X.mg x = none
  nn : x ≠ "__name__"
  nd : (x == ("__debug__" : Str)) = false
theorem GoodE.blt (G : GoodE W C cl fr np k X sc) {x y : Str} (h : MP.blt C sc x y = true) (hy : y ∈ bltNames) : Blt C X sc x y := by
  simp only [MP.blt, Bool.and_eq_true, decide_eq_true_eq] at h
  obtain ⟨⟨⟨rfl, h2⟩, h3⟩, h4⟩ := h
  have d := notDbg_of h4
  refine ⟨rfl, gl_of G.scope h2, G.free x hy ?_, d.2.2, d.1⟩
  cases q : glook C.gl x with
  | none => rfl
  | some g => rw [q] at h3; cases h3
theorem GoodE.nm (G : GoodE W C cl fr np k X sc) {i : Nat} {x : Str} (h : nmOk C sc i x = true) : X.N[i]? = some x ∧ Vis X.env.scope x ∧ (x == ("__debug__" : Str)) = false ∧ (x == ("__classdict__" : Str)) = false := by
  simp only [nmOk, Bool.and_eq_true, decide_eq_true_eq] at h
  have d := notDbg_of h.2
  exact ⟨by rw [G.N]; exact h.1.1, G.scope.vis (vis_of h.1.2), d.1, d.2.1⟩
end
end MP

set_option Elab.async false
set_option linter.all false
set_option maxRecDepth 100000
set_option maxHeartbeats 1000000
namespace MP
open PySem PySem.Spec PyProof.Rows L2

section
variable {W : Wd} {cl : CL} {C : TC} {fr : Nat → Bool} {np : Nat → Nat} {k : Nat}
theorem mE_notSet {i : E} {sc : Scope} {e : Expr} (h : mE C i sc e = true) : notSetE e = true := by
  cases e <;> first | rfl | skip
  cases i <;> first | (simp [mE] at h; done) | skip
  rename_i f _
  cases f <;> simp [mE] at h
theorem mI_notSet {i : I} {sc : Scope} {e : Expr} (h : mI C i sc e = true) : notSetE e = true := by
  cases i
  · simp only [mI] at h; exact mE_notSet h
  all_goals (cases e <;> first | rfl | simp [mI] at h)
def isTupE : Expr → Bool
  | .Tuple .. => true
  | _ => false
theorem tupE_of {e : Expr} (h : isTupE e = true) : ∃ a b c, e = .Tuple a b c := by cases e <;> first | exact ⟨_, _, _, rfl⟩ | simp [isTupE] at h
theorem mTg_tup {sc : Scope} {t : Tg} {e : Expr} (h : mTg C sc t e = true) (ht : isTgT t = true) : isTupE e = true := by
  cases t
  · simp [isTgT] at ht
  · cases e <;> first | rfl | simp [mTg] at h
theorem owned_map {own : List Nat} : (owned C own).map (·.2) = own := by
  unfold owned
  rw [List.map_map]
  conv => rhs; rw [← List.map_id own]
  rfl
theorem BlkOk.sc {N : List Str} {sc e s2 : Scope} {own : List (Str × Nat)} (S : ScOk e sc) (h : BlkOk N sc s2 own) : BlkOk N e s2 own :=
  ⟨h.kind, h.uniq, h.ix, fun y hy q => by
    rcases h.free y hy q with z | z
    · exact .inl (S.cel _ z)
    · exact (S.fre _ z).symm, h.own⟩
def plainT : Expr → Bool
  | .BoolOp .. => false
  | .UnaryOp .Not _ _ => false
  | .Compare .. => false
  | .IfExp .. => false
  | _ => true
theorem T_val {X : Cx} {i : E} {fl : List Nat} {e : Expr} (h : PE X e (tE W cl fl .e i)) (hp : plainT e = true) : PT X e (tT W cl fl i) := by
  refine pt_mono (pt_val h ?_) fun σ H Q q => tB_of q
  intro whole
  cases e <;> first | rfl | skip
  all_goals first | (simp [plainT] at hp; done) | skip
  rename_i op _ _
  cases op <;> first | rfl | simp [plainT] at hp
theorem mE_set {es : Es} {sc : Scope} {e : Expr} (h : mE C (.bi .setSorted es) sc e = true) : ∃ x pp y pq z pos2 pos, e = .Call (.Name x pp) [.Call (.Name y pq) [z] [] pos2] [] pos ∧ blt C sc x "sorted" = true ∧ blt C sc y "set" = true ∧ mEs C es sc [z] = true := by
  unfold mE at h
  split at h <;> try contradiction
  simp only [Bool.and_eq_true, decide_eq_true_eq] at h
  obtain ⟨⟨⟨h1, h2⟩, h3⟩, h4⟩ := h
  rename_i x pp y pq ys pos2 pos
  match ys, h4, h3 with
  | [z], _, h3 => exact ⟨x, pp, y, pq, z, pos2, pos, rfl, h1, h2, h3⟩
theorem mE_bi {f : BI} {es : Es} {sc : Scope} {e : Expr} (hne : f ≠ .setSorted) (h : mE C (.bi f es) sc e = true) : ∃ x pp z zs pos, e = .Call (.Name x pp) (z :: zs) [] pos ∧ blt C sc x (biName f) = true ∧ mEs C es sc (z :: zs) = true ∧ noStar (z :: zs) = true := by
  cases f <;> first | exact absurd rfl hne | skip
  all_goals
    unfold mE at h
    split at h <;> try contradiction
    rename_i x pp xs pos
    simp only [Bool.and_eq_true, Bool.not_eq_true'] at h
    obtain ⟨⟨⟨h1, h2⟩, h3⟩, h4⟩ := h
    cases xs with
    | nil => simp at h4
    | cons z zs => exact ⟨x, pp, z, zs, pos, rfl, h1, h2, h3⟩
theorem mE_call {f : Nat} {es : Es} {sc : Scope} {e : Expr} (h : mE C (.call f es) sc e = true) : ∃ x pp xs pos, e = .Call (.Name x pp) xs [] pos ∧ isGl sc x = true ∧ notDbg x = true ∧ glook C.gl x = some (.fn f) ∧ mEs C es sc xs = true ∧ noStar xs = true := by
  unfold mE at h
  split at h <;> try contradiction
  simp only [Bool.and_eq_true] at h
  obtain ⟨⟨⟨⟨h1, h2⟩, h3⟩, h4⟩, h5⟩ := h
  split at h3 <;> try contradiction
  rename_i g hg
  have e1 : g = f := by simpa using h3
  subst e1
  exact ⟨_, _, _, _, rfl, h1, h2, hg, h4, h5⟩
theorem mE_plain {i : E} {sc : Scope} {e : Expr} (h : mE C i sc e = true) (hi : (match i with
    | .var _ => true | .con _ => true | .idx .. => true | .bi .. => true | .call .. => true | .isin .. => true | _ => false) = true) : plainT e = true := by
  cases i <;> simp only [Bool.false_eq_true] at hi
  · cases e <;> first | rfl | simp [mE] at h
  · cases e <;> first | rfl | simp [mE] at h
  · cases e <;> first | rfl | simp [mE] at h
  · rename_i f es
    by_cases hne : f = .setSorted
    · subst hne
      obtain ⟨x, pp, y, pq, z, pos2, pos, rfl, _⟩ := mE_set h
      rfl
    · obtain ⟨x, pp, z, zs, pos, rfl, _⟩ := mE_bi hne h
      rfl
  · obtain ⟨x, pp, xs, pos, rfl, _⟩ := mE_call h
    rfl
  · cases e <;> first | rfl | simp [mE] at h
mutual
theorem mainE : ∀ (i : E) (m : Md) (fl : List Nat) (X : Cx) (sc : Scope) (e : Expr), GoodE W C cl fr np k X sc → mE C i sc e = true → okM fr np m fl i = true → PE X e (tE W cl fl m i)
  | .var i, m, fl, X, sc, e, G, h, o => by
    cases e <;> simp only [mE, Bool.false_eq_true] at h
    obtain ⟨h1, h2, h3, h4⟩ := G.nm h
    cases m with
    | b => exact L_var h1 h2 h3 h4
    | e => exact L_varE h1 h2 h3 h4 (by simpa [okM] using o)
    | f => simp [okM] at o
  | .con v, m, fl, X, sc, e, G, h, o => by
    simp only [okM] at o
    refine upE ?_ o
    cases e <;> simp only [mE, Bool.false_eq_true] at h
    · exact L_const h
    · simp only [Bool.and_eq_true] at h
      obtain ⟨⟨h1, h2⟩, h3⟩ := h
      split at h3
      · rename_i w hw
        have e1 := same_eq h3
        subst e1
        obtain ⟨vv, u, q1, q2, q3⟩ := G.cons _ _ hw
        exact L_glob (gl_of G.scope h1) q1 q2 q3 (notDbg_of h2).1
      · cases h3
  | .bin op a b, m, fl, X, sc, e, G, h, o => by
    cases e <;> simp only [mE, Bool.false_eq_true, Bool.and_eq_true, decide_eq_true_eq] at h
    obtain ⟨⟨rfl, h1⟩, h2⟩ := h
    refine upF ?_ m
    rename_i l op r pos
    cases op <;> simp only [okM, Bool.and_eq_true, Bool.false_eq_true] at o
    · exact L_add (mainE a .b fl X sc _ G h1 o.1) (mainE b .b fl X sc _ G h2 o.2) G.K
    · exact L_sub (mainE a .e fl X sc _ G h1 o.1) (mainE b .e fl X sc _ G h2 o.2)
    · exact L_mul (mainE a .b fl X sc _ G h1 o.1) (mainE b .b fl X sc _ G h2 o.2) G.K
    · exact L_mod (mainE a .e fl X sc _ G h1 o.1) (mainE b .e fl X sc _ G h2 o.2)
    · exact L_pow (mainE a .e fl X sc _ G h1 o.1) (mainE b .e fl X sc _ G h2 o.2)
    · exact L_fdiv (mainE a .e fl X sc _ G h1 o.1) (mainE b .e fl X sc _ G h2 o.2)
  | .neg a, m, fl, X, sc, e, G, h, o => by
    cases e <;> simp only [mE, Bool.false_eq_true] at h
    rename_i op x pos
    cases op <;> simp only [mE, Bool.false_eq_true] at h
    simp only [okM, Bool.and_eq_true] at o
    exact upE (L_neg (mainE a .e fl X sc _ G h o.2)) o.1
  | .not a, m, fl, X, sc, e, G, h, o => by
    cases e <;> simp only [mE, Bool.false_eq_true] at h
    rename_i op x pos
    cases op <;> simp only [mE, Bool.false_eq_true] at h
    simp only [okM, Bool.and_eq_true] at o
    exact upE (L_not (mainE a .e fl X sc _ G h o.2)) o.1
  | .cmp op a b, m, fl, X, sc, e, G, h, o => by
    simp only [okM, Bool.and_eq_true] at o
    refine upE ?_ o.1
    unfold mE at h
    split at h <;> try contradiction
    simp only [Bool.and_eq_true, decide_eq_true_eq, Bool.not_eq_true'] at h
    obtain ⟨⟨⟨rfl, h1⟩, h2⟩, h3⟩ := h
    exact L_cmp G.units G.K G.w (mainE a .b fl X sc _ G h1 o.2.1) (mainE b .b fl X sc _ G h2 o.2.2) h3
  | .chain o1 o2 a b c, m, fl, X, sc, e, G, h, o => by
    simp only [okM, Bool.and_eq_true] at o
    refine upE ?_ o.1
    unfold mE at h
    split at h <;> try contradiction
    simp only [Bool.and_eq_true, decide_eq_true_eq, Bool.not_eq_true'] at h
    obtain ⟨⟨⟨⟨⟨rfl, rfl⟩, h1⟩, h2⟩, h3⟩, h4⟩ := h
    exact L_chain G.units G.K G.w (mainE a .b fl X sc _ G h1 o.2.1.1) (mainE b .b fl X sc _ G h2 o.2.1.2) (mainE c .b fl X sc _ G h3 o.2.2) h4
  | .and a b, m, fl, X, sc, e, G, h, o => by
    simp only [okM, Bool.and_eq_true] at o
    refine upE ?_ o.1
    unfold mE at h
    split at h <;> try contradiction
    · simp only [Bool.and_eq_true] at h
      exact L_and (mainE a .e fl X sc _ G h.1 o.2.1) (pe_one (mainE b .e fl X sc _ G h.2 o.2.2))
    · simp only [Bool.and_eq_true] at h
      exact L_and (mainE a .e fl X sc _ G h.1 o.2.1) (mainAnd b fl X sc _ _ _ _ G h.2 o.2.2)
  | .or a b, m, fl, X, sc, e, G, h, o => by
    simp only [okM, Bool.and_eq_true] at o
    refine upE ?_ o.1
    unfold mE at h
    split at h <;> try contradiction
    · simp only [Bool.and_eq_true] at h
      exact L_or (mainE a .e fl X sc _ G h.1 o.2.1) (pe_one (mainE b .e fl X sc _ G h.2 o.2.2))
    · simp only [Bool.and_eq_true] at h
      exact L_or (mainE a .e fl X sc _ G h.1 o.2.1) (mainOr b fl X sc _ _ _ _ G h.2 o.2.2)
  | .ite c a b, m, fl, X, sc, e, G, h, o => by
    simp only [okM, Bool.and_eq_true] at o
    refine upE ?_ o.1
    unfold mE at h
    split at h <;> try contradiction
    simp only [Bool.and_eq_true] at h
    exact L_ite (mainT c fl X sc _ G h.1.1 o.2.1.1) (mainE a .e fl X sc _ G h.1.2 o.2.1.2) (mainE b .e fl X sc _ G h.2 o.2.2)
  | .tup es, m, fl, X, sc, e, G, h, o => by
    simp only [okM, Bool.and_eq_true] at o
    refine upE ?_ o.1
    unfold mE at h
    split at h <;> try contradiction
    exact L_tup (mainA es .e fl X sc _ G h o.2 (by intro z; cases z))
  | .lst es, m, fl, X, sc, e, G, h, o => by
    simp only [okM] at o
    refine upF ?_ m
    unfold mE at h
    split at h <;> try contradiction
    exact L_lst (mainA es .e fl X sc _ G h o (by intro z; cases z))
  | .shr es, m, fl, X, sc, e, G, h, o => by
    simp only [okM, Bool.and_eq_true] at o
    refine upE ?_ o.1
    unfold mE at h
    split at h <;> try contradiction
    exact L_shr (mainA es .e fl X sc _ G h o.2 (by intro z; cases z))
  | .dnew, m, fl, X, sc, e, G, h, o => by
    refine upF ?_ m
    unfold mE at h
    split at h <;> try contradiction
    exact L_dnew
  | .idx a b, m, fl, X, sc, e, G, h, o => by
    simp only [okM, Bool.and_eq_true] at o
    refine upE ?_ o.1
    unfold mE at h
    split at h <;> try contradiction
    simp only [Bool.and_eq_true] at h
    exact L_idx (by have := G.units; omega) G.K G.w (mainE a .b fl X sc _ G h.1.1 o.2.1) (mainE b .e fl X sc _ G h.1.2 o.2.2) h.2
  | .slc a lo hi, m, fl, X, sc, e, G, h, o => by
    simp only [okM, Bool.and_eq_true] at o
    refine upF ?_ m
    unfold mE at h
    split at h <;> try contradiction
    simp only [Bool.and_eq_true] at h
    rename_i x l u p2 pos
    refine L_slc G.K (mainE a .b fl X sc _ G h.1.1 o.1.1) ?_ ?_
    · cases l with
      | none => exact po_none' h.1.2
      | some e => exact po_some' (mainE lo .e fl X sc _ G h.1.2 o.1.2)
    · cases u with
      | none => exact po_none' h.2
      | some e => exact po_some' (mainE hi .e fl X sc _ G h.2 o.2)
  | .rev a, m, fl, X, sc, e, G, h, o => by
    simp only [okM] at o
    refine upF ?_ m
    unfold mE at h
    split at h <;> try contradiction
    exact L_rev G.K (mainE a .b fl X sc _ G h o)
  | .bi f es, m, fl, X, sc, e, G, h, o => by
    simp only [okM] at o
    refine upF ?_ m
    by_cases hne : f = .setSorted
    · subst hne
      obtain ⟨x, pp, y, pq, z, pos2, pos, rfl, h1, h2, h3⟩ := mE_set h
      have b1 := G.blt h1 (by simp [bltNames])
      have b2 := G.blt h2 (by simp [bltNames])
      have hz : notStar z = true := by
        cases es with
        | nil => simp [mEs] at h3
        | cons i is => simp only [mEs, Bool.and_eq_true] at h3; exact h3.2
        | star i is => simp [okEs, isE] at o
      have e1 := b1.eq
      have e2 := b2.eq
      subst e1
      subst e2
      exact L_setSorted G.calm G.K b1.gl b1.mg boot_sorted b2.gl b2.mg boot_set (mainA es .b fl X sc _ G h3 o (by intro z; cases z)) b1.nn b1.nd b2.nn b2.nd (star_of hz)
    · obtain ⟨x, pp, z, zs, pos, rfl, h1, h2, h3⟩ := mE_bi hne h
      have b1 := G.blt h1 (bi_in f)
      have e1 := b1.eq
      simp only [noStar, List.all_cons, Bool.and_eq_true] at h3
      have B := bi_notset hne G.calm G.units G.K G.w G.guards
      have A := mainA es .b fl X sc _ G h2 o (by intro z; cases z)
      have hb := bi_boot f
      rw [← e1] at hb
      cases f <;> first | exact absurd rfl hne | exact L_biB B b1.gl b1.mg hb A b1.nn b1.nd (star_of h3.1) (plain_of h3.2) | exact L_biT B b1.gl b1.mg hb A b1.nn b1.nd (star_of h3.1) (plain_of h3.2)
  | .call f es, m, fl, X, sc, e, G, h, o => by
    simp only [okM, Bool.and_eq_true, beq_iff_eq, Bool.or_eq_true] at o
    obtain ⟨x, pp, xs, pos, rfl, h1, h2, hg, h4, h5⟩ := mE_call h
    have L := L_call (fl := fl) (pp := pp) (pos := pos) G h1 hg h2 (mainA es .e fl X sc _ G h4 o.1.1 (by intro z; cases z)) h5 (by rw [mEs_len h4, o.1.2]) h4
    cases q : fr f with
    | true => rw [q] at L; exact upF L m
    | false =>
      rw [q] at L
      refine upE L ?_
      rcases o.2 with z | z
      · exact z
      · rw [q] at z; cases z
  | .callv _ _, m, fl, X, sc, e, G, h, o => by simp [okM] at o
  | .meth mi a es, m, fl, X, sc, e, G, h, o => by
    simp only [okM, Bool.and_eq_true] at o
    refine upE ?_ o.1
    unfold mE at h
    split at h <;> try contradiction
    simp only [Bool.and_eq_true, decide_eq_true_eq, Bool.not_eq_true'] at h
    obtain ⟨⟨⟨⟨⟨⟨⟨h1, h2⟩, h3⟩, h4⟩, h5⟩, h6⟩, h7⟩, h8⟩ := h
    rename_i oo n ap xs pos
    cases xs with
    | nil => simp at h5
    | cons z zs =>
      subst h1
      cases mi <;> simp only [Bool.false_eq_true, and_false] at o
      · exact L_index G.units G.K (mainE a .b fl X sc _ G h2 o.2.1) (mainA es .b fl X sc _ G h3 o.2.2 (by intro z; cases z)) h7 h4 h8 h6
      · exact L_get (by have := G.units; omega) G.K G.w (mainE a .b fl X sc _ G h2 o.2.1) (mainA es .e fl X sc _ G h3 o.2.2 (by intro z; cases z)) h7 h4 h8 h6
  | .isin a t, m, fl, X, sc, e, G, h, o => by
    simp only [okM, Bool.and_eq_true] at o
    refine upE ?_ o.1
    unfold mE at h
    split at h <;> try contradiction
    simp only [Bool.and_eq_true] at h
    obtain ⟨⟨⟨h1, h2⟩, h3⟩, h4⟩ := h
    have b1 := G.blt h1 (by simp [bltNames])
    split at h3 <;> try contradiction
    rename_i n hn
    have hs := h4
    simp only [noStar, List.all_cons, List.all_nil, Bool.and_true] at hs
    have e1 := b1.eq
    cases t <;> simp only [tyName, Option.some.injEq, reduceCtorEq] at hn <;> subst hn
    · have b2 := G.blt h3 (by simp [bltNames]); rw [e1] at b1 ⊢; exact L_isin (n := "int") G.K b1.gl b1.mg b2.gl b2.mg (by rw [b2.eq]; exact boot_int) b2.nn b2.nd rfl (mainE a .b fl X sc _ G h2 o.2) hs
    · have b2 := G.blt h3 (by simp [bltNames]); rw [e1] at b1 ⊢; exact L_isin (n := "bool") G.K b1.gl b1.mg b2.gl b2.mg (by rw [b2.eq]; exact boot_bool) b2.nn b2.nd rfl (mainE a .b fl X sc _ G h2 o.2) hs
    · have b2 := G.blt h3 (by simp [bltNames]); rw [e1] at b1 ⊢; exact L_isin (n := "tuple") G.K b1.gl b1.mg b2.gl b2.mg (by rw [b2.eq]; exact boot_tuple) b2.nn b2.nd rfl (mainE a .b fl X sc _ G h2 o.2) hs
    · have b2 := G.blt h3 (by simp [bltNames]); rw [e1] at b1 ⊢; exact L_isin (n := "str") G.K b1.gl b1.mg b2.gl b2.mg (by rw [b2.eq]; exact boot_str) b2.nn b2.nd rfl (mainE a .b fl X sc _ G h2 o.2) hs
    · have b2 := G.blt h3 (by simp [bltNames]); rw [e1] at b1 ⊢; exact L_isin (n := "list") G.K b1.gl b1.mg b2.gl b2.mg (by rw [b2.eq]; exact boot_list) b2.nn b2.nd rfl (mainE a .b fl X sc _ G h2 o.2) hs
  | .listOf i, m, fl, X, sc, e, G, h, o => by
    simp only [okM, Bool.and_eq_true] at o
    refine upF ?_ m
    unfold mE at h
    split at h <;> try contradiction
    simp only [Bool.and_eq_true] at h
    have b1 := G.blt h.1 (by simp [bltNames])
    cases i <;> simp only [isRg, Bool.false_eq_true, false_and] at o
    rename_i es
    have h2 := h.2
    unfold mI at h2
    split at h2 <;> try contradiction
    simp only [Bool.and_eq_true] at h2
    simp only [okI, Bool.and_eq_true, Bool.or_eq_true, beq_iff_eq] at o
    have b2 := G.blt h2.1.1 (by simp [bltNames])
    have e1 := b1.eq
    have e2 := b2.eq
    subst e1
    subst e2
    exact L_lstRg G.calm b1.gl b1.mg b2.gl b2.mg (mainA es .e fl X sc _ G h2.1.2 o.2.1 (by intro z; cases z)) (by rw [mEs_len h2.1.2]; exact o.2.2) h2.2
  | .tupOf i, m, fl, X, sc, e, G, h, o => by
    simp only [okM, Bool.and_eq_true] at o
    refine upE ?_ o.1.1
    unfold mE at h
    split at h <;> try contradiction
    simp only [Bool.and_eq_true] at h
    have b1 := G.blt h.1 (by simp [bltNames])
    cases i <;> simp only [isRg, Bool.false_eq_true, false_and, and_false] at o
    rename_i es
    have h2 := h.2
    unfold mI at h2
    split at h2 <;> try contradiction
    simp only [Bool.and_eq_true] at h2
    simp only [okI, Bool.and_eq_true, Bool.or_eq_true, beq_iff_eq] at o
    have b2 := G.blt h2.1.1 (by simp [bltNames])
    have e1 := b1.eq
    have e2 := b2.eq
    subst e1
    subst e2
    exact L_tupRg G.calm b1.gl b1.mg b2.gl b2.mg (mainA es .e fl X sc _ G h2.1.2 o.2.1 (by intro z; cases z)) (by rw [mEs_len h2.1.2]; exact o.2.2) h2.2
  | .fld _ _, m, fl, X, sc, e, G, h, o => by simp [okM] at o
  | .comp own elt t i c, m, fl, X, sc, e, G, h, o => by
    simp only [okM, Bool.and_eq_true, Bool.or_eq_true, Bool.not_eq_true'] at o
    refine upF ?_ m
    unfold mE at h
    split at h <;> try contradiction
    rename_i x tg it ifs aa s2 pos
    simp only [Bool.and_eq_true, decide_eq_true_eq] at h
    obtain ⟨⟨⟨⟨⟨⟨rfl, h1⟩, h2⟩, h3⟩, h4⟩, h5⟩, h6⟩ := h
    have hb : BlkOk X.N X.env.scope s2 (owned C own) := by rw [G.N]; exact MP.BlkOk.sc G.scope (blkOk_by h1)
    have hsub : ∀ j ∈ tgS t, j ∈ own := fun j hj => by simpa using List.all_eq_true.mp h5 j hj
    refine L_comp G.calm (by rw [G.N]; exact G.nd) (mainI i .b fl X sc tg it G h2 o.1.1.1 (Or.inr rfl) fun hn => ?_) hb owned_map (fun s H D cc fp => pg_M (G.blk s2 s H D cc fp).toGood t (without fl own) tg h3) (fun s H D cc fp => ?_)
      (fun s H D cc fp => mainE elt .e (without fl own) _ s2 x (G.blk s2 s H D cc fp) h4 o.1.1.2) hsub (mI_notSet h2)
    · rcases o.2 with z | z
      · rw [hn] at z; cases z
      · exact mTg_tup h3 z
    · split at h6
      · exact pts_true h6
      · exact pts_one (mainT c (without fl own) _ s2 _ (G.blk s2 s H D cc fp) h6 o.1.2)
      · cases h6
  | .comp2 own elt t i t2 i2, m, fl, X, sc, e, G, h, o => by
    simp only [okM, Bool.and_eq_true, Bool.or_eq_true, Bool.not_eq_true'] at o
    refine upF ?_ m
    unfold mE at h
    split at h <;> try contradiction
    rename_i x tg it aa tg2 it2 a2 s2 pos
    simp only [Bool.and_eq_true, decide_eq_true_eq] at h
    obtain ⟨⟨⟨⟨⟨⟨⟨⟨⟨rfl, rfl⟩, h1⟩, h2⟩, h3⟩, h4⟩, h5⟩, h6⟩, h7⟩, h8⟩ := h
    obtain ⟨⟨⟨⟨o1, o2⟩, o3⟩, o4⟩, o5⟩ := o
    have hb : BlkOk X.N X.env.scope s2 (owned C own) := by rw [G.N]; exact MP.BlkOk.sc G.scope (blkOk_by h1)
    have hsub : ∀ j ∈ tgS t, j ∈ own := fun j hj => by simpa using List.all_eq_true.mp h7 j hj
    have hsub2 : ∀ j ∈ tgS t2, j ∈ own := fun j hj => by simpa using List.all_eq_true.mp h8 j hj
    refine L_comp2 G.calm (by rw [G.N]; exact G.nd) (mainI i .b fl X sc tg it G h2 o1 (Or.inr rfl) fun hn => ?_) hb owned_map (fun s H D cc fp => pg_M (G.blk s2 s H D cc fp).toGood t (without fl own) tg h3) (fun s H D cc fp => pts_true rfl)
      (fun s H D cc fp => mainI i2 .e (without fl own) _ s2 tg2 it2 (G.blk s2 s H D cc fp) h5 o3 (Or.inl rfl) fun hn => ?_) (fun s H D cc fp => pg_M (G.blk s2 s H D cc fp).toGood t2 (without fl own) tg2 h6)
      (fun s H D cc fp => mainE elt .e (without fl own) _ s2 x (G.blk s2 s H D cc fp) h4 o2) hsub hsub2 (mI_notSet h2) (mI_notSet h5)
    · rcases o4 with z | z
      · rw [hn] at z; cases z
      · exact mTg_tup h3 z
    · rcases o5 with z | z
      · rw [hn] at z; cases z
      · exact mTg_tup h6 z
  | .dcomp own kk vv t i, m, fl, X, sc, e, G, h, o => by
    simp only [okM, Bool.and_eq_true, Bool.or_eq_true, Bool.not_eq_true'] at o
    refine upF ?_ m
    unfold mE at h
    split at h <;> try contradiction
    rename_i x y tg it aa s2 pos
    simp only [Bool.and_eq_true, decide_eq_true_eq] at h
    obtain ⟨⟨⟨⟨⟨⟨rfl, h1⟩, h2⟩, h3⟩, h4⟩, h5⟩, h6⟩ := h
    obtain ⟨⟨⟨o1, o2⟩, o3⟩, o4⟩ := o
    have hb : BlkOk X.N X.env.scope s2 (owned C own) := by rw [G.N]; exact MP.BlkOk.sc G.scope (blkOk_by h1)
    have hsub : ∀ j ∈ tgS t, j ∈ own := fun j hj => by simpa using List.all_eq_true.mp h6 j hj
    have hu := G.units
    refine L_dcomp G.calm (by omega) G.K G.w (by rw [G.N]; exact G.nd) (mainI i .b fl X sc tg it G h2 o1 (Or.inr rfl) fun hn => ?_) hb owned_map (fun s H D cc fp => pg_M (G.blk s2 s H D cc fp).toGood t (without fl own) tg h3)
      (fun s H D cc fp => mainE kk .e (without fl own) _ s2 x (G.blk s2 s H D cc fp) h4 o2) (fun s H D cc fp => mainE vv .e (without fl own) _ s2 y (G.blk s2 s H D cc fp) h5 o3) hsub (mI_notSet h2)
    rcases o4 with z | z
    · rw [hn] at z; cases z
    · exact mTg_tup h3 z
termination_by i => (sizeOf i, 0)
theorem mainAnd : ∀ (i : E) (fl : List Nat) (X : Cx) (sc : Scope) (y z : Expr) (r : List Expr) (pos : Pos), GoodE W C cl fr np k X sc → mAnd C i sc y z r = true → okM fr np .e fl i = true → PE X (.BoolOp .And (y :: z :: r) pos) (tE W cl fl .e i)
  | i, fl, X, sc, y, z, r, pos, G, h, o => by
    cases i <;> first | (simp [mAnd] at h; done) | skip
    rename_i a b
    simp only [okM, Bool.and_eq_true] at o
    simp only [mAnd, Bool.and_eq_true] at h
    cases r with
    | nil => exact L_and (mainE a .e fl X sc _ G h.1 o.2.1) (pe_one (mainE b .e fl X sc _ G h.2 o.2.2))
    | cons w r => exact L_and (mainE a .e fl X sc _ G h.1 o.2.1) (mainAnd b fl X sc _ _ _ _ G h.2 o.2.2)
termination_by i => (sizeOf i, 0)
theorem mainOr : ∀ (i : E) (fl : List Nat) (X : Cx) (sc : Scope) (y z : Expr) (r : List Expr) (pos : Pos), GoodE W C cl fr np k X sc → mOr C i sc y z r = true → okM fr np .e fl i = true → PE X (.BoolOp .Or (y :: z :: r) pos) (tE W cl fl .e i)
  | i, fl, X, sc, y, z, r, pos, G, h, o => by
    cases i <;> first | (simp [mOr] at h; done) | skip
    rename_i a b
    simp only [okM, Bool.and_eq_true] at o
    simp only [mOr, Bool.and_eq_true] at h
    cases r with
    | nil => exact L_or (mainE a .e fl X sc _ G h.1 o.2.1) (pe_one (mainE b .e fl X sc _ G h.2 o.2.2))
    | cons w r => exact L_or (mainE a .e fl X sc _ G h.1 o.2.1) (mainOr b fl X sc _ _ _ _ G h.2 o.2.2)
termination_by i => (sizeOf i, 0)
theorem mainT : ∀ (i : E) (fl : List Nat) (X : Cx) (sc : Scope) (e : Expr), GoodE W C cl fr np k X sc → mE C i sc e = true → okT fr np fl i = true → PT X e (tT W cl fl i)
  | .not a, fl, X, sc, e, G, h, o => by
    simp only [okT] at o
    cases e <;> simp only [mE, Bool.false_eq_true] at h
    rename_i op x pos
    cases op <;> simp only [mE, Bool.false_eq_true] at h
    exact T_not (mainT a fl X sc _ G h o)
  | .cmp op a b, fl, X, sc, e, G, h, o => by
    simp only [okT, Bool.and_eq_true] at o
    unfold mE at h
    split at h <;> try contradiction
    simp only [Bool.and_eq_true, decide_eq_true_eq, Bool.not_eq_true'] at h
    obtain ⟨⟨⟨rfl, h1⟩, h2⟩, h3⟩ := h
    exact T_cmp G.units G.K G.w (mainE a .b fl X sc _ G h1 o.1) (mainE b .b fl X sc _ G h2 o.2) h3
  | .chain o1 o2 a b c, fl, X, sc, e, G, h, o => by
    simp only [okT, Bool.and_eq_true] at o
    unfold mE at h
    split at h <;> try contradiction
    simp only [Bool.and_eq_true, decide_eq_true_eq, Bool.not_eq_true'] at h
    obtain ⟨⟨⟨⟨⟨rfl, rfl⟩, h1⟩, h2⟩, h3⟩, h4⟩ := h
    exact T_chain G.units G.K G.w (mainE a .b fl X sc _ G h1 o.1.1) (mainE b .b fl X sc _ G h2 o.1.2) (mainE c .b fl X sc _ G h3 o.2) h4
  | .and a b, fl, X, sc, e, G, h, o => by
    simp only [okT, Bool.and_eq_true] at o
    unfold mE at h
    split at h <;> try contradiction
    · simp only [Bool.and_eq_true] at h
      exact (T_and (mainT a fl X sc _ G h.1 o.1) (pw_and1 (mainT b fl X sc _ G h.2 o.2))).pt
    · simp only [Bool.and_eq_true] at h
      exact (T_and (mainT a fl X sc _ G h.1 o.1) (mainTAnd b fl X sc _ _ _ _ G h.2 o.2)).pt
  | .or a b, fl, X, sc, e, G, h, o => by
    simp only [okT, Bool.and_eq_true] at o
    unfold mE at h
    split at h <;> try contradiction
    · simp only [Bool.and_eq_true] at h
      exact (T_or (mainT a fl X sc _ G h.1 o.1) (pw_or1 (mainT b fl X sc _ G h.2 o.2))).pt
    · simp only [Bool.and_eq_true] at h
      exact (T_or (mainT a fl X sc _ G h.1 o.1) (mainTOr b fl X sc _ _ _ _ G h.2 o.2)).pt
  | .var i, fl, X, sc, e, G, h, o => T_val (mainE (.var i) .e fl X sc e G h (by simpa [okM, okT] using o)) (mE_plain h rfl)
  | .con v, fl, X, sc, e, G, h, o => T_val (mainE (.con v) .e fl X sc e G h (by simp [okM, notF])) (mE_plain h rfl)
  | .idx a b, fl, X, sc, e, G, h, o => T_val (mainE (.idx a b) .e fl X sc e G h (by simpa [okM, okT, notF] using o)) (mE_plain h rfl)
  | .bi f es, fl, X, sc, e, G, h, o => T_val (mainE (.bi f es) .e fl X sc e G h (by simpa [okM, okT] using o)) (mE_plain h rfl)
  | .call f es, fl, X, sc, e, G, h, o => T_val (mainE (.call f es) .e fl X sc e G h (by simpa [okM, okT, notF] using o)) (mE_plain h rfl)
  | .isin a t, fl, X, sc, e, G, h, o => T_val (mainE (.isin a t) .e fl X sc e G h (by simpa [okM, okT, notF] using o)) (mE_plain h rfl)
  | .bin .., _, _, _, _, _, _, o | .neg _, _, _, _, _, _, _, o | .ite .., _, _, _, _, _, _, o | .tup _, _, _, _, _, _, _, o | .lst _, _, _, _, _, _, _, o | .shr _, _, _, _, _, _, _, o | .dnew, _, _, _, _, _, _, o | .slc .., _, _, _, _, _, _, o | .rev _, _, _, _, _, _, _, o
  | .callv .., _, _, _, _, _, _, o | .meth .., _, _, _, _, _, _, o | .listOf _, _, _, _, _, _, _, o | .tupOf _, _, _, _, _, _, _, o | .fld .., _, _, _, _, _, _, o | .comp .., _, _, _, _, _, _, o | .comp2 .., _, _, _, _, _, _, o | .dcomp .., _, _, _, _, _, _, o => by simp [okT] at o
termination_by i => (sizeOf i, 1)
theorem mainTAnd : ∀ (i : E) (fl : List Nat) (X : Cx) (sc : Scope) (y z : Expr) (r : List Expr) (pos : Pos), GoodE W C cl fr np k X sc → mAnd C i sc y z r = true → okT fr np fl i = true → PW X (.BoolOp .And (y :: z :: r) pos) (tT W cl fl i)
  | i, fl, X, sc, y, z, r, pos, G, h, o => by
    cases i <;> first | (simp [mAnd] at h; done) | skip
    rename_i a b
    simp only [okT, Bool.and_eq_true] at o
    simp only [mAnd, Bool.and_eq_true] at h
    cases r with
    | nil => exact T_and (mainT a fl X sc _ G h.1 o.1) (pw_and1 (mainT b fl X sc _ G h.2 o.2))
    | cons w r => exact T_and (mainT a fl X sc _ G h.1 o.1) (mainTAnd b fl X sc _ _ _ _ G h.2 o.2)
termination_by i => (sizeOf i, 0)
theorem mainTOr : ∀ (i : E) (fl : List Nat) (X : Cx) (sc : Scope) (y z : Expr) (r : List Expr) (pos : Pos), GoodE W C cl fr np k X sc → mOr C i sc y z r = true → okT fr np fl i = true → PW X (.BoolOp .Or (y :: z :: r) pos) (tT W cl fl i)
  | i, fl, X, sc, y, z, r, pos, G, h, o => by
    cases i <;> first | (simp [mOr] at h; done) | skip
    rename_i a b
    simp only [okT, Bool.and_eq_true] at o
    simp only [mOr, Bool.and_eq_true] at h
    cases r with
    | nil => exact T_or (mainT a fl X sc _ G h.1 o.1) (pw_or1 (mainT b fl X sc _ G h.2 o.2))
    | cons w r => exact T_or (mainT a fl X sc _ G h.1 o.1) (mainTOr b fl X sc _ _ _ _ G h.2 o.2)
termination_by i => (sizeOf i, 0)
theorem mainA : ∀ (is : Es) (m : Md) (fl : List Nat) (X : Cx) (sc : Scope) (es : List Expr), GoodE W C cl fr np k X sc → mEs C is sc es = true → okEs fr np m fl is = true → m ≠ .f → PA X es (tEs W cl fl m is)
  | .nil, m, fl, X, sc, es, G, h, o, hm => by
    simp only [mEs, List.isEmpty_iff] at h
    subst h
    exact A_nil
  | .cons i is, m, fl, X, sc, es, G, h, o, hm => by
    cases es with
    | nil => simp [mEs] at h
    | cons e es =>
      simp only [mEs, Bool.and_eq_true] at h
      simp only [okEs, Bool.and_eq_true] at o
      exact A_cons hm (mainE i m fl X sc _ G h.1.1 o.1) (mainA is m fl X sc _ G h.1.2 o.2 hm) h.2
  | .star i is, m, fl, X, sc, es, G, h, o, hm => by
    cases es with
    | nil => simp [mEs] at h
    | cons e es =>
      cases e <;> simp only [mEs, Bool.false_eq_true, Bool.and_eq_true] at h
      simp only [okEs, Bool.and_eq_true] at o
      cases m <;> simp only [isE, Bool.false_eq_true, false_and] at o
      exact A_star G.calm G.K (mainE i .b fl X sc _ G h.1 o.2.1) (mainA is .e fl X sc _ G h.2 o.2.2 hm)
termination_by i => (sizeOf i, 0)
theorem mainI : ∀ (i : I) (m : Md) (fl : List Nat) (X : Cx) (sc : Scope) (tg e : Expr), GoodE W C cl fr np k X sc → mI C i sc e = true → okI fr np m fl i = true → (m = .e ∨ m = .b) → (needT i = true → isTupE tg = true) → PI X tg e (tI W cl fl m i)
  | .it i, m, fl, X, sc, tg, e, G, h, o, hm, hn => by
    simp only [mI] at h
    simp only [okI] at o
    exact I_it hm G.K (mainE i m fl X sc _ G h o)
  | .range es, m, fl, X, sc, tg, e, G, h, o, hm, hn => by
    unfold mI at h
    split at h <;> try contradiction
    simp only [Bool.and_eq_true] at h
    simp only [okI, Bool.and_eq_true, Bool.or_eq_true, beq_iff_eq] at o
    have b1 := G.blt h.1.1 (by simp [bltNames])
    have e1 := b1.eq
    subst e1
    exact I_range b1.gl b1.mg (mainA es .e fl X sc _ G h.1.2 o.1 (by intro z; cases z)) (by rw [mEs_len h.1.2]; exact o.2) h.2
  | .enum i, m, fl, X, sc, tg, e, G, h, o, hm, hn => by
    unfold mI at h
    split at h <;> try contradiction
    simp only [Bool.and_eq_true] at h
    simp only [okI] at o
    have b1 := G.blt h.1.1 (by simp [bltNames])
    have e1 := b1.eq
    subst e1
    obtain ⟨a, b, c, rfl⟩ := tupE_of (hn rfl)
    exact I_enum hm G.K b1.gl b1.mg (mainE i m fl X sc _ G h.1.2 o) h.2
  | .zip es, m, fl, X, sc, tg, e, G, h, o, hm, hn => by
    unfold mI at h
    split at h <;> try contradiction
    simp only [Bool.and_eq_true] at h
    simp only [okI, Bool.and_eq_true, beq_iff_eq] at o
    have b1 := G.blt h.1.1 (by simp [bltNames])
    have e1 := b1.eq
    subst e1
    obtain ⟨a, b, c, rfl⟩ := tupE_of (hn rfl)
    rename_i xs pos
    have hl := mEs_len h.1.2
    rw [o.2] at hl
    have A := mainA es m fl X sc _ G h.1.2 o.1 (by rcases hm with z | z <;> (rw [z]; intro q; cases q))
    match xs, hl, A, h.2 with
    | [x, y], _, A, hs => exact I_zip hm G.K b1.gl b1.mg A hs rfl
  | .rev i, m, fl, X, sc, tg, e, G, h, o, hm, hn => by
    unfold mI at h
    split at h <;> try contradiction
    simp only [Bool.and_eq_true] at h
    simp only [okI] at o
    have b1 := G.blt h.1.1 (by simp [bltNames])
    have e1 := b1.eq
    subst e1
    exact I_rev hm G.K b1.gl b1.mg (mainE i m fl X sc _ G h.1.2 o) h.2
termination_by i => (sizeOf i, 0)
end
end
end MP

set_option Elab.async false
set_option linter.all false
set_option maxRecDepth 100000
namespace MP
open PySem PySem.Spec PyProof.Rows L2

section
variable {W : Wd} {F₀ F F' : AS} {ρ₀ ρ ρ' : List Addr} {H₀ H H' H₁ : Hp} {h h' : Hs} {fl fl' : List Nat} {τ : Sl} {σ : L2.St}
/-- fewer own names -/
theorem StR.sub (r : StR W F₀ ρ₀ H₀ fl τ h F ρ σ H) (hs : ∀ i, i ∈ fl' → i ∈ fl) : ∃ F', Stay W F ρ H F' ρ H ∧ StR W F₀ ρ₀ H₀ fl' τ h F' ρ σ H := by
  obtain ⟨F', kf, r'⟩ := r.freezes (fl.filter fun i => !fl'.contains i)
  have e : ∀ i, i ∈ fl' ↔ i ∈ without fl (fl.filter fun i => !fl'.contains i) := fun i => by
    rw [mem_withouts]
    constructor
    · intro z
      refine ⟨hs i z, fun z' => ?_⟩
      simp only [List.mem_filter, Bool.not_eq_true', List.contains_eq_mem, decide_eq_false_iff_not] at z'
      exact z'.2 z
    · rintro ⟨z, z'⟩
      exact Classical.byContradiction fun n => z' (by simp only [List.mem_filter, Bool.not_eq_true', List.contains_eq_mem, decide_eq_false_iff_not]; exact ⟨z, n⟩)
  exact ⟨F', ⟨kf, ⟨[], by simp⟩, fun _ _ _ h => h, fun _ _ h => h, fun _ _ _ h => h⟩, r'.rel.flx e, r'.hps, r'.ext, fun i t a hi => r'.own i t a ((e i).mp hi)⟩
theorem Stay.refl : Stay W F ρ H F ρ H := ⟨fun _ h => h, ⟨[], by simp⟩, fun _ _ _ h => h, fun _ _ h => h, fun _ _ _ h => h⟩
theorem Stay.trans {F'' : AS} {ρ'' : List Addr} {H'' : Hp} (x : Stay W F ρ H F' ρ' H') (y : Stay W F' ρ' H' F'' ρ'' H'') : Stay W F ρ H F'' ρ'' H'' where
  fF := fun a z => y.fF a (x.fF a z)
  pre := by
    obtain ⟨m, rfl⟩ := x.pre
    obtain ⟨m', rfl⟩ := y.pre
    exact ⟨m ++ m', by simp⟩
  kF := fun a o hf h => y.kF a o (x.fF a hf) (x.kF a o hf h)
  tup := fun a xs h => y.tup a xs (x.tup a xs h)
  frz := fun a o u h => y.frz a o u (x.frz a o u h)
/-- a name takes a frozen value -/
theorem StR.set (r : StR W F₀ ρ₀ H₀ fl τ h F ρ σ H) {i : Nat} {t : PV} {v : V} (q : Rep W F ρ H t v) : StR W F₀ ρ₀ H₀ (without fl [i]) (τ.set i (some t)) h F ρ (σ.set i (some v)) H := by
  refine ⟨r.rel.set q, r.hps, r.ext, fun j u a hj e m es => ?_⟩
  have hj' := mem_withouts.mp hj
  simp only [List.mem_singleton] at hj'
  rcases getS_set e with ⟨z, _⟩ | ⟨_, e⟩
  · exact absurd z hj'.2
  · rw [List.getElem?_set_ne (Ne.symm hj'.2)] at es
    exact r.own j u a hj'.1 e m es
/-- a name takes a fresh value -/
theorem StR.setF (r : StR W F₀ ρ₀ H₀ fl τ h F ρ σ H) (x : Ext F ρ H F' ρ' H') (p : Hps W F' ρ' H' h') {i : Nat} {t : PV} {v : V} (q : Rm .f W F' ρ' H H' t v) :
    StR W F₀ ρ₀ H₀ (i :: without fl [i]) (τ.set i (some t)) h' F' ρ' (σ.set i (some v)) H' := by
  obtain ⟨o, hn⟩ := q
  have r1 := r.expr x p
  have far : ∀ j u, j ∈ fl → j ≠ i → getS τ j = some u → isMut u = true → isMut t = true → σ[j]? ≠ some (some v) := fun j u hj hji e mu mt z => by
    obtain ⟨w, hw, _, h2⟩ := r.rel.slot j u e
    have oj := h2 hj
    obtain ⟨a, ob, rfl, ha, _⟩ := oj.addr mu
    rw [hw] at z
    cases z
    rw [hn a mt rfl] at ha
    cases ha
  refine ⟨⟨by simp [r1.rel.len], fun j u e => ?_, fun j k u w njk hj hk ej ek mu mw => ?_⟩, p, r1.ext, fun j u a hj e m es => ?_⟩
  · rcases getS_set e with ⟨rfl, e1, hl⟩ | ⟨hj, e1⟩
    · cases e1
      exact ⟨v, by rw [List.getElem?_set_self (by rw [← r1.rel.len]; exact hl)], fun z => absurd List.mem_cons_self z, fun _ => o⟩
    · obtain ⟨w, hw, h1, h2⟩ := r1.rel.slot j u e1
      refine ⟨w, by rw [List.getElem?_set_ne (Ne.symm hj)]; exact hw, fun z => h1 fun z' => z (List.mem_cons_of_mem _ (mem_withouts.mpr ⟨z', by simpa using hj⟩)), fun z => h2 ?_⟩
      rcases List.mem_cons.mp z with z | z
      · exact absurd z hj
      · exact (mem_withouts.mp z).1
  · rcases getS_set ej with ⟨hji, e1, hl⟩ | ⟨hj1, ej3⟩
    · cases e1
      rcases getS_set ek with ⟨hki, _⟩ | ⟨hk1, ek2⟩
      · exact absurd (hji.trans hki.symm) njk
      · subst hji
        have hk' : k ∈ fl := by
          rcases List.mem_cons.mp hk with z | z
          · exact absurd z hk1
          · exact (mem_withouts.mp z).1
        rw [List.getElem?_set_self (by rw [← r1.rel.len]; exact hl), List.getElem?_set_ne (Ne.symm hk1)]
        exact fun z => far k w hk' hk1 ek2 mw mu z.symm
    · have hj' : j ∈ fl := by
        rcases List.mem_cons.mp hj with z | z
        · exact absurd z hj1
        · exact (mem_withouts.mp z).1
      rcases getS_set ek with ⟨hki, e1, hl⟩ | ⟨hk1, ek⟩
      · cases e1
        subst hki
        rw [List.getElem?_set_self (by rw [← r1.rel.len]; exact hl), List.getElem?_set_ne (Ne.symm hj1)]
        exact far j u hj' hj1 ej3 mu mw
      · have hk' : k ∈ fl := by
          rcases List.mem_cons.mp hk with z | z
          · exact absurd z hk1
          · exact (mem_withouts.mp z).1
        rw [List.getElem?_set_ne (Ne.symm hj1), List.getElem?_set_ne (Ne.symm hk1)]
        exact r1.rel.dis j k u w njk hj' hk' ej3 ek mu mw
  · rcases getS_set e with ⟨rfl, e1, hl⟩ | ⟨hj1, e1⟩
    · cases e1
      rw [List.getElem?_set_self (by rw [← r1.rel.len]; exact hl)] at es
      cases es
      exact r.ext.nn (hn a m rfl)
    · have hj' : j ∈ fl := by
        rcases List.mem_cons.mp hj with z | z
        · exact absurd z hj1
        · exact (mem_withouts.mp z).1
      rw [List.getElem?_set_ne (Ne.symm hj1)] at es
      exact r1.own j u a hj' e1 m es
/-! ### readings of statements -/
def SPost (W : Wd) (F₀ : AS) (ρ₀ : List Addr) (H₀ : Hp) (rm : Md) (lp out : List Nat) (Fp : AS) (ρp : List Addr) (Hp' : Hp) (D : Ends) : Fl → Hs → Prop
  | .nx τ, h => ∀ F ρ σ H, Stay W Fp ρp Hp' F ρ H → StR W F₀ ρ₀ H₀ out τ h F ρ σ H → D.nx σ H
  | .bk τ, h => ∀ F ρ σ H, Stay W Fp ρp Hp' F ρ H → StR W F₀ ρ₀ H₀ lp τ h F ρ σ H → D.bk σ H
  | .ct τ, h => ∀ F ρ σ H, Stay W Fp ρp Hp' F ρ H → StR W F₀ ρ₀ H₀ lp τ h F ρ σ H → D.ct σ H
  | .rt t, h => ∀ v F ρ H, Ext F₀ ρ₀ H₀ F ρ H → Hps W F ρ H h → Rm rm W F ρ H₀ H t v → D.rt v H
def tS (W : Wd) (F₀ : AS) (ρ₀ : List Addr) (H₀ : Hp) (rm : Md) (lp fl out : List Nat) (run : Sl → Hs → Out Fl) : TS := fun D σ H => ∃ F ρ τ h r h', StR W F₀ ρ₀ H₀ fl τ h F ρ σ H ∧ run τ h = .ok r h' ∧ SPost W F₀ ρ₀ H₀ rm lp out F ρ H D r h'
/-- from an earlier state -/
theorem SPost.pre {rm : Md} {lp out : List Nat} {D : Ends} {r : Fl} {hh : Hs} (st : Stay W F ρ H F' ρ' H') (q : SPost W F₀ ρ₀ H₀ rm lp out F ρ H D r hh) : SPost W F₀ ρ₀ H₀ rm lp out F' ρ' H' D r hh := by
  cases r with
  | nx τ1 => exact fun F ρ σ H s => q F ρ σ H (st.trans s)
  | bk τ1 => exact fun F ρ σ H s => q F ρ σ H (st.trans s)
  | ct τ1 => exact fun F ρ σ H s => q F ρ σ H (st.trans s)
  | rt t => exact q
section
variable {X : Cx}
theorem ps_mono {s : Stmt} {t t' : TS} (p : PS X s t) (h : ∀ D σ H, t' D σ H → t D σ H) : PS X s t' := ⟨fun pins s σ H D I q => p.run pins s σ H D I (h D σ H q)⟩
theorem pss_mono {s : List Stmt} {t t' : TS} (p : PSs X s t) (h : ∀ D σ H, t' D σ H → t D σ H) : PSs X s t' := ⟨fun pins s σ H D I q => p.run pins s σ H D I (h D σ H q)⟩
end
section
variable {cl : CL} {X : Cx} {rm : Md} {lp fl out : List Nat}
theorem S_nil : PSs X [] (tS W F₀ ρ₀ H₀ rm lp fl fl (evSs cl .nil)) := by
  refine pss_mono pss_nil fun D σ H q => ?_
  obtain ⟨F, ρ, τ, h, r, h', st, ev, post⟩ := q
  simp only [evSs, Out.ok.injEq] at ev
  obtain ⟨rfl, rfl⟩ := ev
  exact post F ρ σ H Stay.refl st
theorem S_cons {s : S} {ss : Ss} {st : Stmt} {rest : List Stmt} {mid : List Nat} (h1 : PS X st (tS W F₀ ρ₀ H₀ rm lp fl mid (evS cl s))) (h2 : PSs X rest (tS W F₀ ρ₀ H₀ rm lp mid out (evSs cl ss))) :
    PSs X (st :: rest) (tS W F₀ ρ₀ H₀ rm lp fl out (evSs cl (.cons s ss))) := by
  refine pss_mono (pss_cons h1 h2) fun D σ H q => ?_
  obtain ⟨F, ρ, τ, h, r, h', st, ev, post⟩ := q
  simp only [evSs] at ev
  obtain ⟨f, h1, e1, e2⟩ := bind_ok ev
  refine ⟨F, ρ, τ, h, f, h1, st, e1, ?_⟩
  cases f with
  | nx τ1 => exact fun F ρ σ H sy st1 => ⟨F, ρ, τ1, h1, r, h', st1, e2, post.pre sy⟩
  | bk τ1 => cases e2; exact post
  | ct τ1 => cases e2; exact post
  | rt t => cases e2; exact post
theorem S_pass {pos : Pos} : PS X (.Pass pos) (tS W F₀ ρ₀ H₀ rm lp fl fl (evS cl .pass)) := by
  refine ps_mono ps_pass fun D σ H q => ?_
  obtain ⟨F, ρ, τ, h, r, h', st, ev, post⟩ := q
  simp only [evS, Out.ok.injEq] at ev
  obtain ⟨rfl, rfl⟩ := ev
  exact post F ρ σ H Stay.refl st
theorem S_brk {pos : Pos} (hs : ∀ i, i ∈ lp → i ∈ fl) : PS X (.Break pos) (tS W F₀ ρ₀ H₀ rm lp fl out (evS cl .brk)) := by
  refine ps_mono ps_break fun D σ H q => ?_
  obtain ⟨F, ρ, τ, h, r, h', st, ev, post⟩ := q
  simp only [evS, Out.ok.injEq] at ev
  obtain ⟨rfl, rfl⟩ := ev
  obtain ⟨F', sy, st'⟩ := st.sub hs
  exact post F' ρ σ H sy st'
theorem S_cnt {pos : Pos} (hs : ∀ i, i ∈ lp → i ∈ fl) : PS X (.Continue pos) (tS W F₀ ρ₀ H₀ rm lp fl out (evS cl .cnt)) := by
  refine ps_mono ps_continue fun D σ H q => ?_
  obtain ⟨F, ρ, τ, h, r, h', st, ev, post⟩ := q
  simp only [evS, Out.ok.injEq] at ev
  obtain ⟨rfl, rfl⟩ := ev
  obtain ⟨F', sy, st'⟩ := st.sub hs
  exact post F' ρ σ H sy st'
theorem S_ret {e : E} {ee : Expr} {pos : Pos} (hm : rm = .e ∨ rm = .f) (he : PE X ee (tE W cl fl rm e)) : PS X (.Return (some ee) pos) (tS W F₀ ρ₀ H₀ rm lp fl out (evS cl (.ret e))) := by
  refine ps_mono (ps_ret he) fun D σ H q => ?_
  obtain ⟨F, ρ, τ, h, r, h', st, ev, post⟩ := q
  simp only [evS] at ev
  obtain ⟨v, h1, e1, e2⟩ := bind_ok ev
  simp only [Out.ok.injEq] at e2
  obtain ⟨rfl, rfl⟩ := e2
  refine ⟨F, ρ, τ, h, v, _, st.rel, st.hps, e1, fun w F' ρ' H' x p rmv => post w F' ρ' H' (st.ext.trans x) p ?_⟩
  rcases hm with rfl | rfl
  · exact rmv
  · exact ⟨rmv.1, fun a m e => st.ext.nn (rmv.2 a m e)⟩
theorem S_expr {e : E} {ee : Expr} {pos : Pos} {m : Md} (he : PE X ee (tE W cl fl m e)) (hs : swapsWith ee none pos.line X.env = pure false) : PS X (.Expr ee pos) (tS W F₀ ρ₀ H₀ rm lp fl fl (evS cl (.expr e))) := by
  refine ps_mono (ps_expr he hs) fun D σ H q => ?_
  obtain ⟨F, ρ, τ, h, r, h', st, ev, post⟩ := q
  simp only [evS] at ev
  obtain ⟨v, h1, e1, e2⟩ := bind_ok ev
  simp only [Out.ok.injEq] at e2
  obtain ⟨rfl, rfl⟩ := e2
  exact ⟨F, ρ, τ, h, v, _, st.rel, st.hps, e1, fun w F' ρ' H' x p rmv => post F' ρ' σ H' x.stay (st.expr x p)⟩
theorem S_if {c : E} {a b : Ss} {ec : Expr} {sa sb : List Stmt} {pos : Pos} {o1 o2 : List Nat} (hc : PT X ec (tT W cl fl c)) (ha : PSs X sa (tS W F₀ ρ₀ H₀ rm lp fl o1 (evSs cl a))) (hb : PSs X sb (tS W F₀ ρ₀ H₀ rm lp fl o2 (evSs cl b)))
    (h1 : ∀ i, i ∈ out → i ∈ o1) (h2 : ∀ i, i ∈ out → i ∈ o2) : PS X (.If ec sa sb pos) (tS W F₀ ρ₀ H₀ rm lp fl out (evS cl (.iff c a b))) := by
  refine ps_mono (ps_if hc ha hb) fun D σ H q => ?_
  obtain ⟨F, ρ, τ, h, r, h', st, ev, post⟩ := q
  simp only [evS] at ev
  obtain ⟨v, hh, e1, e2⟩ := bind_ok ev
  have wk : ∀ {o : List Nat}, (∀ i, i ∈ out → i ∈ o) → SPost W F₀ ρ₀ H₀ rm lp o F ρ H D r h' := fun {o} hs => by
    cases r with
    | nx τ1 => exact fun F ρ σ H sy st1 => let ⟨F', sy2, st2⟩ := st1.sub hs; post F' ρ σ H (sy.trans sy2) st2
    | bk τ1 => exact post
    | ct τ1 => exact post
    | rt t => exact post
  split at e2
  · refine ⟨F, ρ, τ, h, true, hh, st.rel, st.hps, e1, fun F' ρ' H' x p => ?_⟩
    simp only [if_true]
    exact ⟨F', ρ', τ, hh, r, h', st.expr x p, e2, (wk h1).pre x.stay⟩
  · refine ⟨F, ρ, τ, h, false, hh, st.rel, st.hps, e1, fun F' ρ' H' x p => ?_⟩
    simp only [Bool.false_eq_true, if_false]
    exact ⟨F', ρ', τ, hh, r, h', st.expr x p, e2, (wk h2).pre x.stay⟩
  · cases e2
theorem S_asgF {i : Nat} {e : E} {x : Str} {ee : Expr} {pos pos' : Pos} (hN : X.N.Nodup) (hi : X.N[i]? = some x) (hx : Loc X.env.scope x) (he : PE X ee (tE W cl fl .f e)) (hs : swapsWith ee (some (.Name x pos')) pos.line X.env = pure false) (hf : X.fn x = true ∨ X.env.scope.names.lookup x = some .local) :
    PS X (.Assign [.Name x pos'] ee pos) (tS W F₀ ρ₀ H₀ rm lp fl (i :: without fl [i]) (evS cl (.asg (.v i) e))) := by
  refine ps_mono (ps_set hN hi hx he hs hf) fun D σ H q => ?_
  obtain ⟨F, ρ, τ, h, r, h', st, ev, post⟩ := q
  simp only [evS] at ev
  obtain ⟨v, h1, e1, e2⟩ := bind_ok ev
  simp only [setT, Out.of_some, Out.bind_ok, Out.ok.injEq] at e2
  obtain ⟨rfl, rfl⟩ := e2
  exact ⟨F, ρ, τ, h, v, _, st.rel, st.hps, e1, fun w F' ρ' H' x p rmv => post F' ρ' _ H' x.stay (st.setF x p rmv)⟩
mutual
theorem setT_out : ∀ {t : Tg} {u : PV} {τ τ' : Sl} {j : Nat}, setT t u τ = some τ' → j ∉ tgS t → getS τ' j = getS τ j
  | .v i, u, τ, τ', j, e, hj => by
    simp only [setT, Option.some.injEq] at e
    subst e
    simp only [tgS, List.mem_singleton] at hj
    unfold getS
    rw [List.getElem?_set_ne (Ne.symm hj)]
  | .t ts, u, τ, τ', j, e, hj => by
    cases u <;> simp only [setT, reduceCtorEq] at e
    exact setTs_out e hj
theorem setTs_out : ∀ {ts : Tgs} {us : List PV} {τ τ' : Sl} {j : Nat}, setTs ts us τ = some τ' → j ∉ tgS.go ts → getS τ' j = getS τ j
  | .nil, [], τ, τ', j, e, _ => by simp only [setTs, Option.some.injEq] at e; rw [e]
  | .nil, _ :: _, _, _, _, e, _ => by simp [setTs] at e
  | .cons t ts, [], _, _, _, e, _ => by simp [setTs] at e
  | .cons t ts, u :: us, τ, τ', j, e, hj => by
    simp only [setTs] at e
    obtain ⟨τ1, e1, e2⟩ := Option.bind_eq_some_iff.mp e
    simp only [tgS.go, List.mem_append, not_or] at hj
    rw [setTs_out e2 hj.2, setT_out e1 hj.1]
end
theorem StR.tg (r : StR W F₀ ρ₀ H₀ fl τ h F ρ σ H) {t : Tg} {u : PV} {τ' : Sl} {σ' : L2.St} (e : setT t u τ = some τ') (rel : Rel W F ρ (without fl (tgS t)) τ' σ' H) (w : WpOk σ σ' (tgS t)) : StR W F₀ ρ₀ H₀ (without fl (tgS t)) τ' h F ρ σ' H := by
  refine ⟨rel, r.hps, r.ext, fun j v a hj ev m es => ?_⟩
  obtain ⟨h1, h2⟩ := mem_withouts.mp hj
  rw [setT_out e h2] at ev
  have hw := w (tgS t) fun _ z => z
  have e1 := L2.wipe_out (σ := σ') h2
  have e2 := L2.wipe_out (σ := σ) h2
  rw [hw, e2] at e1
  exact r.own j v a h1 ev m (e1.trans es)
theorem S_asgM {t : Tg} {e : E} {tg ee : Expr} {pos : Pos} (hg : PG X tg (gM W fl t)) (he : PE X ee (tE W cl fl .e e)) (hs : swapsWithSole [tg] ee pos.line X.env = pure false) (hw : swappedStores [tg] ee X.env = pure none) (h1 : (assignEach [tg] X.env).map (·.2) = [assign tg X.env]) :
    PS X (.Assign [tg] ee pos) (tS W F₀ ρ₀ H₀ rm lp fl (without fl (tgS t)) (evS cl (.asg t e))) := by
  refine ps_mono (ps_asg he hg hs hw h1) fun D σ H q => ?_
  obtain ⟨F, ρ, τ, h, r, h', st, ev, post⟩ := q
  simp only [evS] at ev
  obtain ⟨v, h1, e1, e2⟩ := bind_ok ev
  obtain ⟨τ1, h2, e3, e4⟩ := bind_ok e2
  obtain ⟨e5, rfl⟩ := of_ok e3
  simp only [Out.ok.injEq] at e4
  obtain ⟨rfl, rfl⟩ := e4
  refine ⟨F, ρ, τ, h, v, _, st.rel, st.hps, e1, fun w F' ρ' H' x p rmv => ?_⟩
  have st' := st.expr x p
  exact ⟨F', ρ', _, τ, v, τ1, st'.rel, p, e5, rmv, fun σ' rel' wp => post F' ρ' σ' H' x.stay (st'.tg e5 rel' wp)⟩

theorem S_while {inv o : List Nat} {c : E} {b : Ss} {ec : Expr} {sb : List Stmt} {pos : Pos} (hp : PassesOwn (model X.prog X.w) X.A X.env X.xe) (hc : PT X ec (tT W cl inv c)) (hb : PSs X sb (tS W F₀ ρ₀ H₀ rm inv inv o (evSs cl b)))
    (h0 : ∀ i, i ∈ inv → i ∈ fl) (h1 : ∀ i, i ∈ inv → i ∈ o) : PS X (.While ec sb [] pos) (tS W F₀ ρ₀ H₀ rm lp fl inv (evS cl (.whl inv c b))) := by
  refine ps_mono (ps_while hp hc hb) fun D σ H q => ?_
  obtain ⟨F, ρ, τ, h, r, h', st, ev, post⟩ := q
  simp only [evS] at ev
  generalize turns = n0 at ev
  refine ⟨fun n σ H => ∃ F ρ τ h, StR W F₀ ρ₀ H₀ inv τ h F ρ σ H ∧ whileL (evE cl c) (evSs cl b) n τ h = .ok r h' ∧ SPost W F₀ ρ₀ H₀ rm lp inv F ρ H D r h', ⟨n0, ?_⟩, ?_⟩
  · obtain ⟨F', sy, st'⟩ := st.sub h0
    exact ⟨F', ρ, τ, h, st', ev, post.pre sy⟩
  · rintro n σ1 H1 ⟨F1, ρ1, τ1, hh, st1, e1, post1⟩
    cases n with
    | zero => simp [whileL] at e1
    | succ n =>
      simp only [whileL] at e1
      obtain ⟨v, h2, g1, g2⟩ := bind_ok e1
      split at g2
      · refine ⟨F1, ρ1, τ1, hh, true, h2, st1.rel, st1.hps, g1, fun F2 ρ2 H2 x p => ?_⟩
        simp only [if_true]
        obtain ⟨f, h3, g3, g4⟩ := bind_ok g2
        have st2 := st1.expr x p
        have post2 := post1.pre x.stay
        refine ⟨fun σ H => ∃ F ρ τ h, StR W F₀ ρ₀ H₀ inv τ h F ρ σ H ∧ whileL (evE cl c) (evSs cl b) n τ h = .ok r h' ∧ SPost W F₀ ρ₀ H₀ rm lp inv F ρ H D r h', fun σ' H' z => ⟨n, Nat.lt_succ_self n, z⟩, F2, ρ2, τ1, h2, f, h3, st2, g3, ?_⟩
        cases f with
        | nx τ3 =>
          refine fun F3 ρ3 σ3 H3 sy st3 => ?_
          obtain ⟨F4, sy4, st4⟩ := st3.sub h1
          exact ⟨F4, ρ3, τ3, h3, st4, g4, post2.pre (sy.trans sy4)⟩
        | ct τ3 => exact fun F3 ρ3 σ3 H3 sy st3 => ⟨F3, ρ3, τ3, h3, st3, g4, post2.pre sy⟩
        | bk τ3 =>
          simp only [Out.ok.injEq] at g4
          obtain ⟨rfl, rfl⟩ := g4
          exact fun F3 ρ3 σ3 H3 sy st3 => post2 F3 ρ3 σ3 H3 sy st3
        | rt t =>
          simp only [Out.ok.injEq] at g4
          obtain ⟨rfl, rfl⟩ := g4
          exact post2
      · simp only [Out.ok.injEq] at g2
        obtain ⟨rfl, rfl⟩ := g2
        refine ⟨F1, ρ1, τ1, hh, false, _, st1.rel, st1.hps, g1, fun F2 ρ2 H2 x p => ?_⟩
        simp only [Bool.false_eq_true, if_false]
        exact post1 F2 ρ2 σ1 H2 x.stay (st1.expr x p)
      · cases g2
theorem S_for {inv o : List Nat} {t : Tg} {i : I} {b : Ss} {tg it : Expr} {sb : List Stmt} {pos : Pos} (hp : PassesOwn (model X.prog X.w) X.A X.env X.xe) (hc : X.calm = true) (hi : PI X tg it (tI W cl inv .e i)) (hg : PG X tg (gM W inv t))
    (hb : PSs X sb (tS W F₀ ρ₀ H₀ rm inv (without inv (tgS t)) o (evSs cl b))) (hs : notSetE it = true) (h0 : ∀ i, i ∈ inv → i ∈ fl) (h1 : ∀ i, i ∈ inv → i ∈ o) :
    PS X (.For tg it sb [] pos) (tS W F₀ ρ₀ H₀ rm lp fl inv (evS cl (.forr inv t i b))) := by
  refine ps_mono (ps_for hp hc hi hg hb (fold_of hs)) fun D σ H q => ?_
  obtain ⟨F, ρ, τ, h, r, h', st, ev, post⟩ := q
  simp only [evS] at ev
  obtain ⟨ts, hh, e1, e2⟩ := bind_ok ev
  obtain ⟨F', sy, st'⟩ := st.sub h0
  refine ⟨F', ρ, τ, h, ts, hh, st'.rel, st'.hps, e1, fun J F1 ρ1 H1 x1 p1 wk => ?_⟩
  have st1 := st'.expr x1 p1
  refine ⟨fun n m σ H => m = ts.length - n ∧ n ≤ ts.length ∧ ∃ F ρ τ h, StR W F₀ ρ₀ H₀ inv τ h F ρ σ H ∧ Stay W F1 ρ1 H1 F ρ H ∧ forL t (evSs cl b) (ts.drop n) τ h = .ok r h' ∧ SPost W F₀ ρ₀ H₀ rm lp inv F ρ H D r h', ⟨ts.length, by simp, Nat.zero_le _, ?_⟩, ?_⟩
  · exact ⟨F1, ρ1, τ, hh, st1, Stay.refl, by simpa using e2, post.pre (sy.trans x1.stay)⟩
  · rintro n m σ2 H2 ⟨rfl, hn, F2, ρ2, τ2, h2, st2, sy2, e3, post2⟩
    obtain ⟨w1, w2⟩ := wk n F2 ρ2 H2 h2 sy2 st2.hps hn
    by_cases hlt : n < ts.length
    · have hget : ts[n]? = some ts[n] := List.getElem?_eq_getElem hlt
      obtain ⟨go, yl⟩ := w1 _ hget
      rw [List.drop_eq_getElem_cons hlt] at e3
      simp only [forL] at e3
      obtain ⟨τ3, h3, g1, g2⟩ := bind_ok e3
      obtain ⟨g3, rfl⟩ := of_ok g1
      obtain ⟨f, h4, g4, g5⟩ := bind_ok g2
      refine .inr ⟨go, fun σ H => ∃ F ρ τ h, StR W F₀ ρ₀ H₀ inv τ h F ρ σ H ∧ Stay W F1 ρ1 H1 F ρ H ∧ forL t (evSs cl b) (ts.drop (n + 1)) τ h = .ok r h' ∧ SPost W F₀ ρ₀ H₀ rm lp inv F ρ H D r h', fun σ' H' z => ⟨ts.length - (n + 1), by omega, rfl, hlt, z⟩, fun v H3 hy => ?_⟩
      obtain ⟨x3, p3, r3⟩ := yl v H3 hy
      have st3 := st2.expr x3 p3
      refine ⟨F2, ρ2, _, τ2, ts[n], τ3, st3.rel, p3, g3, r3, fun σ' rel' wp => ?_⟩
      have st4 := st3.tg g3 rel' wp
      have post3 := post2.pre x3.stay
      have sy3 := sy2.trans x3.stay
      refine ⟨F2, ρ2, τ3, _, f, h4, st4, g4, ?_⟩
      cases f with
      | nx τ5 =>
        refine fun F5 ρ5 σ5 H5 sy st5 => ?_
        obtain ⟨F6, sy6, st6⟩ := st5.sub h1
        exact ⟨F6, ρ5, τ5, h4, st6, sy3.trans (sy.trans sy6), g5, post3.pre (sy.trans sy6)⟩
      | ct τ5 => exact fun F5 ρ5 σ5 H5 sy st5 => ⟨F5, ρ5, τ5, h4, st5, sy3.trans sy, g5, post3.pre sy⟩
      | bk τ5 =>
        simp only [Out.ok.injEq] at g5
        obtain ⟨rfl, rfl⟩ := g5
        exact fun F5 ρ5 σ5 H5 sy st5 => post3 F5 ρ5 σ5 H5 sy st5
      | rt u =>
        simp only [Out.ok.injEq] at g5
        obtain ⟨rfl, rfl⟩ := g5
        exact post3
    · have e : n = ts.length := by omega
      subst e
      rw [List.drop_length] at e3
      simp only [forL, Out.ok.injEq] at e3
      obtain ⟨rfl, rfl⟩ := e3
      exact .inl ⟨w2 rfl, post2 F2 ρ2 σ2 H2 Stay.refl st2⟩
end
end
end MP

set_option Elab.async false
set_option linter.all false
set_option maxRecDepth 100000
namespace MP
open PySem PySem.Spec PyProof.Rows L2

section
variable {W : Wd} {F₀ F F' : AS} {ρ₀ ρ ρ' : List Addr} {H₀ H H' H₁ : Hp} {h h' : Hs} {fl fl' : List Nat} {τ : Sl} {σ : L2.St}
theorem Own.far {t : PV} {v : V} {a : Addr} {o : HO} (w : Own W F ρ H t v) (st : Stay W F ρ H F ρ (upd H a o)) (hne : v ≠ .ref a) : Own W F ρ (upd H a o) t v := by
  cases t with
  | lst ts =>
    simp only [Own] at w ⊢
    obtain ⟨b, xs, rfl, hs, hf, hn, hr⟩ := w
    exact ⟨b, xs, rfl, by rw [upd_ne (fun z => hne (by rw [z]))]; exact hs, hf, hn, hr.stay st⟩
  | dct ks ts =>
    simp only [Own] at w ⊢
    obtain ⟨b, bs, xs, rfl, hs, hf, hn, hk, hr⟩ := w
    exact ⟨b, bs, xs, rfl, hs.hp fun u e => by rw [upd_ne (fun z => hne (by rw [z]))]; exact e, hf, hn, hk.stay st, hr.stay st⟩
  | _ => exact Rep.stay st w
/-- what a name owns is written -/
theorem StR.write (r : StR W F₀ ρ₀ H₀ fl τ h F ρ σ H) {i : Nat} {t t' : PV} {a : Addr} {o : HO} (hi : i ∈ fl) (e : getS τ i = some t) (mt : isMut t = true) (mt' : isMut t' = true) (hv : σ[i]? = some (some (.ref a))) (new : Own W F ρ (upd H a o) t' (.ref a)) :
    Stay W F ρ H F ρ (upd H a o) ∧ StR W F₀ ρ₀ H₀ fl (τ.set i (some t')) h F ρ σ (upd H a o) := by
  obtain ⟨w, hw, _, h2⟩ := r.rel.slot i t e
  rw [hv] at hw
  cases hw
  obtain ⟨b, ob, eb, ha, hf, hn, mu⟩ := (h2 hi).addr mt
  cases eb
  obtain ⟨st, p⟩ := write_own (o := o) r.hps ha mu hf hn
  have h0 : H₀ a = none := r.own i t a hi e mt hv
  have il : i < τ.length := by
    unfold getS at e
    split at e
    · rename_i z; exact (List.getElem?_eq_some_iff.mp z).1
    · cases e
  have far : ∀ j u, j ≠ i → j ∈ fl → getS τ j = some u → isMut u = true → σ[j]? ≠ some (some (.ref a)) := fun j u hj hjf ej mj => by
    rw [← hv]
    exact r.rel.dis j i u t hj hjf hi ej e mj mt
  refine ⟨st, ⟨by simp [r.rel.len], fun j u ej => ?_, fun j k u w hjk hj hk ej ek mu mw => ?_⟩, p, r.ext.write h0 ha mu, fun j u b hj ej mj es => ?_⟩
  · rcases getS_set ej with ⟨rfl, e1, _⟩ | ⟨hj, e1⟩
    · cases e1
      exact ⟨.ref a, hv, fun z => absurd hi z, fun _ => new⟩
    · obtain ⟨v, hv', g1, g2⟩ := r.rel.slot j u e1
      refine ⟨v, hv', fun z => Rep.stay st (g1 z), fun z => ?_⟩
      cases mj : isMut u with
      | false => exact (show Own W F ρ (upd H a o) u v by cases u <;> first | exact Rep.stay st ((g2 z).rep mj) | simp [isMut] at mj)
      | true => exact (g2 z).far st fun q => far j u hj z e1 mj (by rw [hv', q])
  · rcases getS_set ej with ⟨hji, e1, _⟩ | ⟨hji, ej'⟩
    · rcases getS_set ek with ⟨hki, _⟩ | ⟨hki, ek'⟩
      · exact absurd (hji.trans hki.symm) hjk
      · rw [hji, hv]; exact fun z => far k w hki hk ek' mw z.symm
    · rcases getS_set ek with ⟨hki, _⟩ | ⟨hki, ek'⟩
      · rw [hki, hv]; exact far j u hji hj ej' mu
      · exact r.rel.dis j k u w hjk hj hk ej' ek' mu mw
  · rcases getS_set ej with ⟨hji, _⟩ | ⟨hji, ej'⟩
    · rw [hji, hv] at es; cases es; exact h0
    · exact r.own j u b hj ej' mj es
/-- a shared list is written -/
theorem StR.shared (r : StR W F₀ ρ₀ H₀ fl τ h F ρ σ H) {n : Nat} {a : Addr} {ts ts' : List PV} {xs' : List V} (hn : h[n]? = some (.lst ts)) (ha : ρ[n]? = some a) (new : Reps W F ρ H ts' xs') :
    Stay W F ρ H F ρ (upd H a (.lst xs')) ∧ StR W F₀ ρ₀ H₀ fl τ (h.set n (.lst ts')) F ρ σ (upd H a (.lst xs')) := by
  have ob := r.hps.obj n _ a hn ha
  simp only [ObjR] at ob
  obtain ⟨xs, hx, _⟩ := ob
  have am : a ∈ ρ := List.mem_of_getElem? ha
  have nf : ¬ F a := fun z => r.hps.sep a z am
  have nt : ∀ b ys, H b = some (.tup ys) → b ≠ a := fun b ys e z => by rw [z, hx] at e; cases e
  have nz : ∀ b u v, H b = some (.frz u v) → b ≠ a := fun b u v e z => by rw [z, hx] at e; cases e
  have st : Stay W F ρ H F ρ (upd H a (.lst xs')) := ⟨fun _ h => h, ⟨[], by simp⟩, fun b u hb e => by rw [upd_ne (fun z : b = a => nf (z ▸ hb))]; exact e,
    fun b ys e => by rw [upd_ne (nt b ys e)]; exact e, fun b u v e => by rw [upd_ne (nz b u v e)]; exact e⟩
  have nl : n < h.length := (List.getElem?_eq_some_iff.mp hn).1
  have p : Hps W F ρ (upd H a (.lst xs')) (h.set n (.lst ts')) := by
    refine ⟨by rw [List.length_set]; exact r.hps.len, fun m u b h1 h2 => ?_, r.hps.nd, r.hps.sep, fun b hb => ?_⟩
    · by_cases hm : m = n
      · subst hm
        rw [List.getElem?_set_self nl] at h1
        cases h1
        rw [ha] at h2
        cases h2
        simp only [ObjR]
        exact ⟨xs', upd_same, new.stay st⟩
      · rw [List.getElem?_set_ne (Ne.symm hm)] at h1
        have q := r.hps.obj m u b h1 h2
        have hb : b ≠ a := fun z => by
          subst z
          have hm1 := (List.getElem?_eq_some_iff.mp h2).1
          exact hm ((List.getElem?_inj hm1 r.hps.nd).mp (h2.trans ha.symm))
        cases u with
        | lst us =>
          simp only [ObjR] at q ⊢
          obtain ⟨ys, e, rr⟩ := q
          exact ⟨ys, by rw [upd_ne hb]; exact e, rr.stay st⟩
        | ins _ _ => exact q
    · obtain ⟨u, e⟩ := r.hps.tr b hb
      exact ⟨u, by rw [upd_ne (fun z : b = a => nf (z ▸ hb))]; exact e⟩
  have ax : Ext F₀ ρ₀ H₀ F ρ (upd H a (.lst xs')) := by
    have e := r.ext
    refine ⟨e.fF, e.new, e.pre, fun b u q hb => ?_, fun b u q => ?_, fun b ys q => ?_, fun b u v q => ?_, e.sep, e.tr⟩
    · have hba : b ≠ a := fun z => by
        subst z
        exact e.notin q hb am
      rw [upd_ne hba]; exact e.keep b u q hb
    · by_cases hba : b = a
      · subst hba; exact ⟨_, upd_same⟩
      · rw [upd_ne hba]; exact e.thr b u q
    · rw [upd_ne (nt b ys (e.tup b ys q))]; exact e.tup b ys q
    · rw [upd_ne (nz b u v (e.frz b u v q))]; exact e.frz b u v q
  refine ⟨st, ⟨r.rel.len, fun j u ej => ?_, r.rel.dis⟩, p, ax, r.own⟩
  obtain ⟨v, hv, g1, g2⟩ := r.rel.slot j u ej
  refine ⟨v, hv, fun z => Rep.stay st (g1 z), fun z => ?_⟩
  cases mj : isMut u with
  | false => exact (show Own W F ρ (upd H a (.lst xs')) u v by cases u <;> first | exact Rep.stay st ((g2 z).rep mj) | simp [isMut] at mj)
  | true =>
    obtain ⟨c, oc, ec, _, _, hnr, _⟩ := (g2 z).addr mj
    refine (g2 z).far st fun q => hnr ?_
    rw [ec] at q
    cases q
    exact am
section
variable {cl : CL} {X : Cx} {rm : Md} {lp fl out : List Nat}
theorem mtR_append : MtR X "list.append" rAppend := fun pins s σ H x xs v us Q I rx rxs h => mt_append pins s σ H x xs v us Q I rx rxs h
theorem S_append {i : Nat} {es : Es} {x : Str} {e : Expr} {ees : List Expr} {pp apos cpos pos : Pos} (hi : i ∈ fl) (hN : X.N[i]? = some x) (hv : Vis X.env.scope x) (hd : (x == ("__debug__" : Str)) = false) (hcd : (x == ("__classdict__" : Str)) = false)
    (ha : PA X (e :: ees) (tEs W cl fl .e es)) (hs : noStar (e :: ees) = true) (hn : (e :: ees).length < 20) (hline : (apos.endLine == cpos.line) = true) :
    PS X (.Expr (.Call (.Attribute (.Name x pp) "append" apos) (e :: ees) [] cpos) pos) (tS W F₀ ρ₀ H₀ rm lp fl fl (evS cl (.mut .append i es))) := by
  refine ps_mono (ps_expr (pe_mG PySem.F.plainAttrs_list PySem.F.slot_list_append PySem.F.type_list_append (mtR_append (X := X)) tyR_list (pe_var hN hv hd hcd) ha (by rfl) hs hn hline) (by rfl)) fun D σ H q => ?_
  obtain ⟨F, ρ, τ, h, r, h', st, ev, post⟩ := q
  simp only [evS] at ev
  obtain ⟨x0, h0, e0, g0⟩ := bind_ok ev
  obtain ⟨q0, rfl⟩ := of_ok e0
  obtain ⟨ys, h1, e1, g1⟩ := bind_ok g0
  obtain ⟨x1, h2, e2, g2⟩ := bind_ok g1
  obtain ⟨q2, rfl⟩ := of_ok e2
  simp only [Out.ok.injEq] at g2
  obtain ⟨rfl, rfl⟩ := g2
  unfold muV at q2
  split at q2 <;> try contradiction
  split at q2 <;> try contradiction
  rename_i xs y _ hz
  cases q2
  obtain ⟨v, hv, _, ow⟩ := st.rel.slot i _ q0
  have o := ow hi
  simp only [Own] at o
  obtain ⟨a, zs, rfl, hz1, hf, hnr, rr⟩ := o
  refine ⟨_, hv, ⟨a, zs, rfl, SqL.of hz1⟩, F, ρ, τ, _, [y], _, st.rel, st.hps, e1, fun ws F2 ρ2 H2 x2 p2 r2 => ?_⟩
  have st2 := st.expr x2 p2
  obtain ⟨v2, hv2, _, ow2⟩ := st2.rel.slot i _ q0
  rw [hv] at hv2
  cases hv2
  have o2 := ow2 hi
  simp only [Own] at o2
  obtain ⟨a2, zs2, ea, hz2, hf2, hnr2, rr2⟩ := o2
  cases ea
  have r2' : Reps W F2 ρ2 H2 [y] ws := r2
  simp only [Reps] at r2'
  obtain ⟨w, _, rfl, rw', rfl⟩ := r2'
  have hlen := rr2.length
  have hle := szOk_le hz
  have hsl := sizeLine_eq
  have hz3 : xs.length ≤ 16000000 := Nat.le_of_ble_eq_true hz
  refine ⟨a, zs2, w, rfl, rfl, hz2, by omega, ?_⟩
  obtain ⟨stw, _⟩ := write_own (o := .lst (zs2 ++ [w])) p2 hz2 trivial hf2 hnr2
  have new : Own W F2 ρ2 (upd H2 a (.lst (zs2 ++ [w]))) (.lst (xs ++ [y])) (.ref a) := by
    simp only [Own]
    exact ⟨a, _, rfl, upd_same, hf2, hnr2, (rr2.app (by simp only [Reps]; exact ⟨w, [], rfl, rw', rfl⟩)).stay stw⟩
  obtain ⟨sy, st3⟩ := st2.write hi q0 rfl rfl hv new
  exact post F2 ρ2 σ _ (x2.stay.trans sy) st3
theorem mtR_extend : MtR X "list.extend" rExtend := fun pins s σ H x xs v us Q I rx rxs h => mt_extend pins s σ H x xs v us Q I rx rxs h
theorem S_insert {i : Nat} {es : Es} {x : Str} {e : Expr} {ees : List Expr} {pp apos cpos pos : Pos} (hi : i ∈ fl) (hN : X.N[i]? = some x) (hv : Vis X.env.scope x) (hd : (x == ("__debug__" : Str)) = false) (hcd : (x == ("__classdict__" : Str)) = false)
    (ha : PA X (e :: ees) (tEs W cl fl .e es)) (hs : noStar (e :: ees) = true) (hn : (e :: ees).length < 20) (hline : (apos.endLine == cpos.line) = true) :
    PS X (.Expr (.Call (.Attribute (.Name x pp) "insert" apos) (e :: ees) [] cpos) pos) (tS W F₀ ρ₀ H₀ rm lp fl fl (evS cl (.mut .insert i es))) := by
  refine ps_mono (ps_expr (pe_mG PySem.F.plainAttrs_list PySem.F.slot_list_insert PySem.F.type_list_insert (mt_insert (X := X)) tyR_list (pe_var hN hv hd hcd) ha (by rfl) hs hn hline) (by rfl)) fun D σ H q => ?_
  obtain ⟨F, ρ, τ, h, r, h', st, ev, post⟩ := q
  simp only [evS] at ev
  obtain ⟨x0, h0, e0, g0⟩ := bind_ok ev
  obtain ⟨q0, rfl⟩ := of_ok e0
  obtain ⟨ys, h1, e1, g1⟩ := bind_ok g0
  obtain ⟨x1, h2, e2, g2⟩ := bind_ok g1
  obtain ⟨q2, rfl⟩ := of_ok e2
  simp only [Out.ok.injEq] at g2
  obtain ⟨rfl, rfl⟩ := g2
  unfold muV at q2
  split at q2 <;> try contradiction
  split at q2 <;> try contradiction
  rename_i xs k y _ hz
  cases q2
  simp only [Bool.and_eq_true, decide_eq_true_eq] at hz
  obtain ⟨⟨hz, hk1⟩, hk0⟩ := hz
  obtain ⟨v, hv, _, ow⟩ := st.rel.slot i _ q0
  have o := ow hi
  simp only [Own] at o
  obtain ⟨a, zs, rfl, hz1, hf, hnr, rr⟩ := o
  refine ⟨_, hv, ⟨a, zs, rfl, SqL.of hz1⟩, F, ρ, τ, _, [.int k, y], _, st.rel, st.hps, e1, fun ws F2 ρ2 H2 x2 p2 r2 => ?_⟩
  have st2 := st.expr x2 p2
  obtain ⟨v2, hv2, _, ow2⟩ := st2.rel.slot i _ q0
  rw [hv] at hv2
  cases hv2
  have o2 := ow2 hi
  simp only [Own] at o2
  obtain ⟨a2, zs2, ea, hz2, hf2, hnr2, rr2⟩ := o2
  cases ea
  have r2' : Reps W F2 ρ2 H2 [.int k, y] ws := r2
  simp only [Reps, Rep] at r2'
  obtain ⟨w0, _, rfl, rfl, w, _, rfl, rw', rfl⟩ := r2'
  have hlen := rr2.length
  have hle := szOk_le hz
  have hsl := sizeLine_eq
  have hz3 : xs.length ≤ 16000000 := Nat.le_of_ble_eq_true hz
  have hk2 := small_of hk1
  refine ⟨a, zs2, k, w, rfl, rfl, hz2, by omega, hk0, by omega, ?_⟩
  obtain ⟨stw, _⟩ := write_own (o := .lst (zs2.take k.toNat ++ [w] ++ zs2.drop k.toNat)) p2 hz2 trivial hf2 hnr2
  have new : Own W F2 ρ2 (upd H2 a (.lst (zs2.take k.toNat ++ [w] ++ zs2.drop k.toNat))) (.lst (xs.take k.toNat ++ [y] ++ xs.drop k.toNat)) (.ref a) := by
    simp only [Own]
    exact ⟨a, _, rfl, upd_same, hf2, hnr2, (((rr2.take _).app (by simp only [Reps]; exact ⟨w, [], rfl, rw', rfl⟩)).app (rr2.drop _)).stay stw⟩
  obtain ⟨sy, st3⟩ := st2.write hi q0 rfl rfl hv new
  exact post F2 ρ2 σ _ (x2.stay.trans sy) st3
theorem S_extend {i : Nat} {es : Es} {x : Str} {e : Expr} {ees : List Expr} {pp apos cpos pos : Pos} (hi : i ∈ fl) (hN : X.N[i]? = some x) (hv : Vis X.env.scope x) (hd : (x == ("__debug__" : Str)) = false) (hcd : (x == ("__classdict__" : Str)) = false)
    (ha : PA X (e :: ees) (tEs W cl fl .e es)) (hs : noStar (e :: ees) = true) (hn : (e :: ees).length < 20) (hline : (apos.endLine == cpos.line) = true) :
    PS X (.Expr (.Call (.Attribute (.Name x pp) "extend" apos) (e :: ees) [] cpos) pos) (tS W F₀ ρ₀ H₀ rm lp fl fl (evS cl (.mut .extend i es))) := by
  refine ps_mono (ps_expr (pe_mG PySem.F.plainAttrs_list PySem.F.slot_list_extend PySem.F.type_list_extend (mtR_extend (X := X)) tyR_list (pe_var hN hv hd hcd) ha (by rfl) hs hn hline) (by rfl)) fun D σ H q => ?_
  obtain ⟨F, ρ, τ, h, r, h', st, ev, post⟩ := q
  simp only [evS] at ev
  obtain ⟨x0, h0, e0, g0⟩ := bind_ok ev
  obtain ⟨q0, rfl⟩ := of_ok e0
  obtain ⟨ys, h1, e1, g1⟩ := bind_ok g0
  obtain ⟨x1, h2, e2, g2⟩ := bind_ok g1
  obtain ⟨q2, rfl⟩ := of_ok e2
  simp only [Out.ok.injEq] at g2
  obtain ⟨rfl, rfl⟩ := g2
  unfold muV at q2
  split at q2 <;> try contradiction
  split at q2 <;> try contradiction
  rename_i xs us _ hz
  cases q2
  obtain ⟨v, hv, _, ow⟩ := st.rel.slot i _ q0
  have o := ow hi
  simp only [Own] at o
  obtain ⟨a, zs, rfl, hz1, hf, hnr, rr⟩ := o
  refine ⟨_, hv, ⟨a, zs, rfl, SqL.of hz1⟩, F, ρ, τ, _, [.lst us], _, st.rel, st.hps, e1, fun ws F2 ρ2 H2 x2 p2 r2 => ?_⟩
  have st2 := st.expr x2 p2
  obtain ⟨v2, hv2, _, ow2⟩ := st2.rel.slot i _ q0
  rw [hv] at hv2
  cases hv2
  have o2 := ow2 hi
  simp only [Own] at o2
  obtain ⟨a2, zs2, ea, hz2, hf2, hnr2, rr2⟩ := o2
  cases ea
  have r2' : Reps W F2 ρ2 H2 [.lst us] ws := r2
  simp only [Reps, Rep] at r2'
  obtain ⟨_, _, rfl, ⟨b, bs, rfl, _, hb, rb⟩, rfl⟩ := r2'
  have hlen := rr2.length
  have hlen2 := rb.length
  have hle := szOk_le hz
  refine ⟨a, b, zs2, bs, rfl, rfl, hz2, hb, by omega, ?_⟩
  obtain ⟨stw, _⟩ := write_own (o := .lst (zs2 ++ bs)) p2 hz2 trivial hf2 hnr2
  have new : Own W F2 ρ2 (upd H2 a (.lst (zs2 ++ bs))) (.lst (xs ++ us)) (.ref a) := by
    simp only [Own]
    exact ⟨a, _, rfl, upd_same, hf2, hnr2, (rr2.app rb).stay stw⟩
  obtain ⟨sy, st3⟩ := st2.write hi q0 rfl rfl hv new
  exact post F2 ρ2 σ _ (x2.stay.trans sy) st3
/-- x[k] = v, x a list or a dict of its own -/
def rSetM (W : Wd) (cl : CL) : V → V → V → Hp → (Hp → Prop) → Prop := fun o i v H Q => L2.rSetL o i v H Q ∨
  (∃ F ρ a ks vs bs xs k u, o = .ref a ∧ DictAt W H a ks bs xs ∧ Reps W F ρ H ks bs ∧ Reps W F ρ H vs xs ∧ dkOk k ks = true ∧ szOk ks.length = true ∧ Rep W F ρ H k i ∧ Rep W F ρ H u v ∧
    ∀ o' bs' xs', DictAt W (upd H a o') a (put k u ks vs).1 bs' xs' → Reps W F ρ H (put k u ks vs).1 bs' → Reps W F ρ H (put k u ks vs).2 xs' → Q (upd H a o'))
theorem set_M (hu : X.A.units + 20 < cLine) (hK : X.K = W.K) (hw : X.w = W.w) : PSet X (rSetM W cl) := by
  intro pins s σ H o i v ov iv u Q I ro ri rv h
  rcases h with h | ⟨F, ρ, a, ks, vs, bs, xs, k, uu, rfl, D, R, Rv, ok, sz, rk, ru, q⟩
  · exact set_list pins s σ H o i v ov iv u Q I ro ri rv h
  · cases ro
    refine dm_setItem hu hK hw I D R Rv ok sz rk ri ru rv fun s' P => ?_
    obtain ⟨o', bs', xs', I', D', R', Rv'⟩ := P.ex
    exact ⟨_, I', q o' bs' xs' D' R' Rv'⟩
theorem S_setI {i : Nat} {k e : E} {x : Str} {ek ee : Expr} {pp tpos pos : Pos} (hu : X.A.units + 20 < cLine) (hK : X.K = W.K) (hw : X.w = W.w) (hin : i ∈ fl) (hN : X.N[i]? = some x) (hv : Vis X.env.scope x) (hd : (x == ("__debug__" : Str)) = false) (hcd : (x == ("__classdict__" : Str)) = false)
    (hk : PE X ek (tE W cl fl .e k)) (he : PE X ee (tE W cl fl .e e)) (hpl : plainIxE ek = true) (hs : swapsWithSole [.Subscript (.Name x pp) ek tpos] ee pos.line X.env = pure false) (hw2 : swappedStores [.Subscript (.Name x pp) ek tpos] ee X.env = pure none) :
    PS X (.Assign [.Subscript (.Name x pp) ek tpos] ee pos) (tS W F₀ ρ₀ H₀ rm lp fl fl (evS cl (.setI i k e))) := by
  refine ps_mono (ps_asg he (pg_sub (pe_var hN hv hd hcd) hk (set_M (cl := cl) hu hK hw) (by intro v; cases ek <;> first | rfl | simp [plainIxE] at hpl)) hs hw2) fun D σ H q => ?_
  obtain ⟨F, ρ, τ, h, r, h', st, ev, post⟩ := q
  simp only [evS] at ev
  obtain ⟨v0, h0, e0, g0⟩ := bind_ok ev
  obtain ⟨x0, h1, e1, g1⟩ := bind_ok g0
  obtain ⟨q0, rfl⟩ := of_ok e1
  obtain ⟨kv, h2, e2, g2⟩ := bind_ok g1
  refine ⟨F, ρ, τ, h, v0, _, st.rel, st.hps, e0, fun w F1 ρ1 H1 x1 p1 r1 => ?_⟩
  have st1 := st.expr x1 p1
  obtain ⟨v, hv, hrep, ow⟩ := st1.rel.slot i _ q0
  refine ⟨v, hv, F1, ρ1, τ, _, kv, h2, st1.rel, p1, e2, fun z F2 ρ2 H2 x2 p2 r2 => ?_⟩
  have st2 := st1.expr x2 p2
  have r1' : Rep W F2 ρ2 H2 v0 w := Rep.stay x2.stay r1
  obtain ⟨x3, h3, g3, g4⟩ := bind_ok g2
  obtain ⟨g5, rfl⟩ := of_ok g3
  simp only [Out.ok.injEq] at g4
  obtain ⟨rfl, rfl⟩ := g4
  have hi := hin
  have o2 := Own.stay x2 p2 (ow hi)
  clear hrep
  unfold setV at g5
  split at g5
  · obtain ⟨j, hj, rfl⟩ := Option.map_eq_some_iff.mp g5
    rename_i xs n
    simp only [Own] at o2
    obtain ⟨a, zs, rfl, hz, hf, hnr, rr⟩ := o2
    have hz' := r2.int
    subst hz'
    have hix : ixN zs.length n = some j := by rw [← rr.length]; exact hj
    refine .inl ⟨a, zs, n, j, rfl, rfl, hz, hix, ?_⟩
    obtain ⟨stw, _⟩ := write_own (o := .lst (zs.set j w)) p2 hz trivial hf hnr
    have new : Own W F2 ρ2 (upd H2 a (.lst (zs.set j w))) (.lst (xs.set j v0)) (.ref a) := by
      simp only [Own]
      exact ⟨a, _, rfl, upd_same, hf, hnr, (rr.set j r1').stay stw⟩
    obtain ⟨sy, st3⟩ := st2.write hi q0 rfl rfl hv new
    exact post F2 ρ2 σ _ ((x1.stay.trans x2.stay).trans sy) st3
  · split at g5 <;> try contradiction
    rename_i ks vs hok
    cases g5
    rw [Bool.and_eq_true] at hok
    simp only [Own] at o2
    obtain ⟨a, bs, zs, rfl, Dd, hf, hnr, R, Rv⟩ := o2
    refine .inr ⟨F2, ρ2, a, ks, vs, bs, zs, kv, v0, rfl, Dd, R, Rv, hok.1, hok.2, r2, r1', fun o' bs' xs' D' R' Rv' => ?_⟩
    obtain ⟨ob, hob, mu, _⟩ := Dd.tracked
    obtain ⟨stw, _⟩ := write_own (o := o') p2 hob mu hf hnr
    have new : Own W F2 ρ2 (upd H2 a o') (.dct (put kv v0 ks vs).1 (put kv v0 ks vs).2) (.ref a) := by
      simp only [Own]
      exact ⟨a, bs', xs', rfl, D', hf, hnr, R'.stay stw, Rv'.stay stw⟩
    obtain ⟨sy, st3⟩ := st2.write hi q0 rfl rfl hv new
    exact post F2 ρ2 σ _ ((x1.stay.trans x2.stay).trans sy) st3
  · cases g5
/-- one store of an item -/
theorem set_step {i : Nat} {k : E} {τ : Sl} {h h2 : Hs} {F : AS} {ρ : List Addr} {σ : L2.St} {H : Hp} {x x' kv v0 : PV} {w : V} {Q : L2.St → Hp → Prop} (hin : i ∈ fl) (st : StR W F₀ ρ₀ H₀ fl τ h F ρ σ H) (q0 : getS τ i = some x) (e2 : evE cl k τ h = .ok kv h2)
    (g5 : setV x kv v0 = some x') (r1 : Rep W F ρ H v0 w) (post : ∀ F' ρ' H', Stay W F ρ H F' ρ' H' → StR W F₀ ρ₀ H₀ fl (τ.set i (some x')) h2 F' ρ' σ H' → Q σ H') : gSub (tVar i) (tE W cl fl .e k) (rSetM W cl) w σ H Q := by
  obtain ⟨v, hv, hrep, ow⟩ := st.rel.slot i _ q0
  refine ⟨v, hv, F, ρ, τ, _, kv, h2, st.rel, st.hps, e2, fun z F2 ρ2 H2 x2 p2 r2 => ?_⟩
  have st2 := st.expr x2 p2
  have r1' : Rep W F2 ρ2 H2 v0 w := Rep.stay x2.stay r1
  have o2 := Own.stay x2 p2 (ow hin)
  clear hrep
  unfold setV at g5
  split at g5
  · obtain ⟨j, hj, rfl⟩ := Option.map_eq_some_iff.mp g5
    rename_i xs n
    simp only [Own] at o2
    obtain ⟨a, zs, rfl, hz, hf, hnr, rr⟩ := o2
    have hz' := r2.int
    subst hz'
    have hix : ixN zs.length n = some j := by rw [← rr.length]; exact hj
    refine .inl ⟨a, zs, n, j, rfl, rfl, hz, hix, ?_⟩
    obtain ⟨stw, _⟩ := write_own (o := .lst (zs.set j w)) p2 hz trivial hf hnr
    have new : Own W F2 ρ2 (upd H2 a (.lst (zs.set j w))) (.lst (xs.set j v0)) (.ref a) := by
      simp only [Own]
      exact ⟨a, _, rfl, upd_same, hf, hnr, (rr.set j r1').stay stw⟩
    obtain ⟨sy, st3⟩ := st2.write hin q0 rfl rfl hv new
    exact post F2 ρ2 _ (x2.stay.trans sy) st3
  · split at g5 <;> try contradiction
    rename_i ks vs hok
    cases g5
    rw [Bool.and_eq_true] at hok
    simp only [Own] at o2
    obtain ⟨a, bs, zs, rfl, Dd, hf, hnr, R, Rv⟩ := o2
    refine .inr ⟨F2, ρ2, a, ks, vs, bs, zs, kv, v0, rfl, Dd, R, Rv, hok.1, hok.2, r2, r1', fun o' bs' xs' D' R' Rv' => ?_⟩
    obtain ⟨ob, hob, mu, _⟩ := Dd.tracked
    obtain ⟨stw, _⟩ := write_own (o := o') p2 hob mu hf hnr
    have new : Own W F2 ρ2 (upd H2 a o') (.dct (put kv v0 ks vs).1 (put kv v0 ks vs).2) (.ref a) := by
      simp only [Own]
      exact ⟨a, bs', xs', rfl, D', hf, hnr, R'.stay stw, Rv'.stay stw⟩
    obtain ⟨sy, st3⟩ := st2.write hin q0 rfl rfl hv new
    exact post F2 ρ2 _ (x2.stay.trans sy) st3
  · cases g5
theorem getS_lt {τ : Sl} {i : Nat} {x y : PV} (e : getS τ i = some x) : getS (τ.set i (some y)) i = some y := by
  unfold getS at e ⊢
  split at e
  · rename_i v hv
    obtain ⟨hl, _⟩ := List.getElem?_eq_some_iff.mp hv
    rw [List.getElem?_set_self hl]
  · cases e
/-- x[a], x[b] = x[c], x[d] -/
theorem S_swap {i : Nat} {a b c d : E} {x y : Str} {ea eb ee : Expr} {pp tpos pp2 tpos2 pos tp : Pos} {tk : Nat} (hc : X.calm = true) (hu : X.A.units + 20 < cLine) (hK : X.K = W.K) (hw : X.w = W.w) (hin : i ∈ fl) (hN : X.N[i]? = some x) (hv : Vis X.env.scope x) (hd : (x == ("__debug__" : Str)) = false) (hcd : (x == ("__classdict__" : Str)) = false)
    (hN2 : X.N[i]? = some y) (hv2 : Vis X.env.scope y) (hd2 : (y == ("__debug__" : Str)) = false) (hcd2 : (y == ("__classdict__" : Str)) = false)
    (ha : PE X ea (tE W cl fl .e a)) (hb : PE X eb (tE W cl fl .e b)) (he : PE X ee (tE W cl fl .e (.tup (.cons (.idx (.var i) c) (.cons (.idx (.var i) d) .nil))))) (pl : plainIxE ea = true) (pl2 : plainIxE eb = true)
    (hs : swapsWithSole [.Tuple [.Subscript (.Name x pp) ea tpos, .Subscript (.Name y pp2) eb tpos2] tk tp] ee pos.line X.env = pure false) (hw2 : swappedStores [.Tuple [.Subscript (.Name x pp) ea tpos, .Subscript (.Name y pp2) eb tpos2] tk tp] ee X.env = pure none) :
    PS X (.Assign [.Tuple [.Subscript (.Name x pp) ea tpos, .Subscript (.Name y pp2) eb tpos2] tk tp] ee pos) (tS W F₀ ρ₀ H₀ rm lp fl fl (evS cl (.swap i a b c d))) := by
  have g1 := pg_sub (pos := tpos) (pe_var (pos := pp) hN hv hd hcd) ha (set_M (cl := cl) hu hK hw) (by intro v; cases ea <;> first | rfl | simp [plainIxE] at pl)
  have g2 := pg_sub (pos := tpos2) (pe_var (pos := pp2) hN2 hv2 hd2 hcd2) hb (set_M (cl := cl) hu hK hw) (by intro v; cases eb <;> first | rfl | simp [plainIxE] at pl2)
  refine ps_mono (ps_asg he (pg_tup (n := 2) hc (pgs_cons g1 (pgs_cons g2 pgs_nil)) rfl rfl) hs hw2) fun D σ H q => ?_
  obtain ⟨F, ρ, τ, h, r, h', st, ev, post⟩ := q
  simp only [evS] at ev
  obtain ⟨tv, h1, e1, g0⟩ := bind_ok ev
  split at g0
  rotate_left
  · cases g0
  rename_i u v
  obtain ⟨x0, h2, e2, g3⟩ := bind_ok g0
  obtain ⟨q0, rfl⟩ := of_ok e2
  obtain ⟨ka, h3, e3, g4⟩ := bind_ok g3
  obtain ⟨x1, h4, e4, g5⟩ := bind_ok g4
  obtain ⟨q1, rfl⟩ := of_ok e4
  obtain ⟨kb, h5, e5, g6⟩ := bind_ok g5
  obtain ⟨x2, h6, e6, g7⟩ := bind_ok g6
  obtain ⟨q2, rfl⟩ := of_ok e6
  simp only [Out.ok.injEq] at g7
  obtain ⟨rfl, rfl⟩ := g7
  refine ⟨F, ρ, τ, h, _, _, st.rel, st.hps, e1, fun w F1 ρ1 H1 y1 p1 r1 => ?_⟩
  obtain ⟨p, xs, rfl, hp, rr⟩ := r1.tup
  simp only [Reps] at rr
  obtain ⟨w1, _, rfl, rw1, w2, _, rfl, rw2, rfl⟩ := rr
  have st1 := st.expr y1 p1
  refine ⟨p, [w1, w2], rfl, by rw [hK]; exact hp, rfl, w1, [w2], rfl, set_step hin st1 q0 e3 q1 rw1 fun F2 ρ2 H2 s2 st2 => ?_⟩
  exact ⟨w2, [], rfl, set_step hin st2 (getS_lt q0) e5 q2 (rw2.stay s2) fun F3 ρ3 H3 s3 st3 => ⟨rfl, post F3 ρ3 σ H3 ((y1.stay.trans s2).trans s3) st3⟩⟩
theorem S_setR {i : Nat} {k e : E} {x : Str} {ek ee : Expr} {pp tpos pos : Pos} (hu : X.A.units + 20 < cLine) (hK : X.K = W.K) (hw : X.w = W.w) (hN : X.N[i]? = some x) (hv : Vis X.env.scope x) (hd : (x == ("__debug__" : Str)) = false) (hcd : (x == ("__classdict__" : Str)) = false)
    (hk : PE X ek (tE W cl fl .e k)) (he : PE X ee (tE W cl fl .e e)) (hpl : plainIxE ek = true) (hs : swapsWithSole [.Subscript (.Name x pp) ek tpos] ee pos.line X.env = pure false) (hw2 : swappedStores [.Subscript (.Name x pp) ek tpos] ee X.env = pure none) :
    PS X (.Assign [.Subscript (.Name x pp) ek tpos] ee pos) (tS W F₀ ρ₀ H₀ rm lp fl fl (evS cl (.setR i k e))) := by
  refine ps_mono (ps_asg he (pg_sub (pe_var hN hv hd hcd) hk (set_M (cl := cl) hu hK hw) (by intro v; cases ek <;> first | rfl | simp [plainIxE] at hpl)) hs hw2) fun D σ H q => ?_
  obtain ⟨F, ρ, τ, h, r, h', st, ev, post⟩ := q
  simp only [evS] at ev
  obtain ⟨v0, h0, e0, g0⟩ := bind_ok ev
  obtain ⟨x0, h1, e1, g1⟩ := bind_ok g0
  obtain ⟨q0, rfl⟩ := of_ok e1
  obtain ⟨kv, h2, e2, g2⟩ := bind_ok g1
  refine ⟨F, ρ, τ, h, v0, _, st.rel, st.hps, e0, fun w F1 ρ1 H1 x1 p1 r1 => ?_⟩
  have st1 := st.expr x1 p1
  obtain ⟨v, hv, hrep, ow⟩ := st1.rel.slot i _ q0
  refine ⟨v, hv, F1, ρ1, τ, _, kv, h2, st1.rel, p1, e2, fun z F2 ρ2 H2 x2 p2 r2 => ?_⟩
  have st2 := st1.expr x2 p2
  have r1' : Rep W F2 ρ2 H2 v0 w := Rep.stay x2.stay r1
  split at g2
  rotate_left
  · cases g2
  rename_i n
  split at g2
  rotate_left
  · cases g2
  rename_i ts j hn
  split at g2
  rotate_left
  · cases g2
  rename_i m hm
  simp only [Out.ok.injEq] at g2
  obtain ⟨rfl, rfl⟩ := g2
  obtain ⟨v', hv', g1, g2⟩ := st2.rel.slot i _ q0
  rw [hv] at hv'
  cases hv'
  have hr : Rep W F2 ρ2 H2 (.ref n) v := by
    by_cases z : i ∈ fl
    · exact (g2 z).rep rfl
    · exact g1 z
  simp only [Rep] at hr
  obtain ⟨a, rfl, ha⟩ := hr
  have ob := p2.obj n _ a hn ha
  simp only [ObjR] at ob
  obtain ⟨zs, hz, rr⟩ := ob
  have hz' := r2.int
  subst hz'
  have hix : ixN zs.length j = some m := by rw [← rr.length]; exact hm
  obtain ⟨sy, st3⟩ := st2.shared hn ha (rr.set m r1')
  exact .inl ⟨a, zs, j, m, rfl, rfl, hz, hix, post F2 ρ2 σ _ ((x1.stay.trans x2.stay).trans sy) st3⟩


/-- name = {..} on one line -/
theorem S_asgD {i : Nat} {own : List Nat} {k v : E} {t : Tg} {it : I} {x z tg ie : Expr} {s2 : Scope} {ow : List (Str × Nat)} {y : Str} {py pos spos : Pos} (hc : X.calm = true) (hu : X.A.units + 20 < cLine) (hK : X.K = W.K) (hw : X.w = W.w) (hN : X.N.Nodup) (hy : X.N[i]? = some y) (hyl : X.env.scope.names.lookup y = some .local)
    (hsw : swapsWith (.DictComp x z [⟨tg, ie, [], 0⟩] s2 pos) (some (.Name y py)) spos.line X.env = pure true) (hi : PI X tg ie (tI W cl fl .b it)) (ok : BlkOk X.N X.env.scope s2 ow) (how : ow.map (·.2) = own)
    (hg : ∀ (s : Shared) (H : Hp) (C : Addr) (cc : List (Str × Addr)) (fp : List Addr), PG (X.blk s H s2 (compEnvC s2 cc C X.env) fp) tg (gM W (without fl own) t))
    (hk : ∀ (s : Shared) (H : Hp) (C : Addr) (cc : List (Str × Addr)) (fp : List Addr), PE (X.blk s H s2 (compEnvC s2 cc C X.env) fp) x (tE W cl (without fl own) .e k))
    (hv : ∀ (s : Shared) (H : Hp) (C : Addr) (cc : List (Str × Addr)) (fp : List Addr), PE (X.blk s H s2 (compEnvC s2 cc C X.env) fp) z (tE W cl (without fl own) .e v))
    (hsub : ∀ j ∈ tgS t, j ∈ own) (hs : notSetE ie = true) :
    PS X (.Assign [.Name y py] (.DictComp x z [⟨tg, ie, [], 0⟩] s2 pos) spos) (tS W F₀ ρ₀ H₀ rm lp fl (i :: without fl [i]) (evS cl (.asg (.v i) (.dcomp own k v t it)))) := by
  refine ps_mono (ps_setDcm hc hu hK hw hN hy hyl hsw hi ok hg hk hv (fold_of hs)) fun D σ H q => ?_
  obtain ⟨F, ρ, τ, h, r, h', st, ev, post⟩ := q
  simp only [evS] at ev
  obtain ⟨w, h1, e1, e2⟩ := bind_ok ev
  simp only [setT, Out.of_some, Out.bind_ok, Out.ok.injEq] at e2
  obtain ⟨rfl, rfl⟩ := e2
  rw [how]
  exact dcomp_imp hsub ⟨F, ρ, τ, h, w, _, st.rel, st.hps, e1, fun w F' ρ' H' x p rmv => post F' ρ' _ H' x.stay (st.setF x p rmv)⟩
/-- name = [.. for .. for ..] on one line -/
theorem S_asgC2 {i : Nat} {own : List Nat} {elt : E} {t t2 : Tg} {it it2 : I} {x tg ie tg2 ie2 : Expr} {s2 : Scope} {ow : List (Str × Nat)} {y : Str} {py pos spos : Pos} (hc : X.calm = true) (hN : X.N.Nodup) (hy : X.N[i]? = some y) (hyl : X.env.scope.names.lookup y = some .local)
    (hsw : swapsWith (.ListComp x [⟨tg, ie, [], 0⟩, ⟨tg2, ie2, [], 0⟩] s2 pos) (some (.Name y py)) spos.line X.env = pure true) (hi : PI X tg ie (tI W cl fl .b it)) (ok : BlkOk X.N X.env.scope s2 ow) (how : ow.map (·.2) = own)
    (hg : ∀ (s : Shared) (H : Hp) (C : Addr) (cc : List (Str × Addr)) (fp : List Addr), PG (X.blk s H s2 (compEnvC s2 cc C X.env) fp) tg (gM W (without fl own) t))
    (ht : ∀ (s : Shared) (H : Hp) (C : Addr) (cc : List (Str × Addr)) (fp : List Addr), PTs (X.blk s H s2 (compEnvC s2 cc C X.env) fp) [] (tT W cl (without fl own) (.con (.bl true))))
    (hi2 : ∀ (s : Shared) (H : Hp) (C : Addr) (cc : List (Str × Addr)) (fp : List Addr), PI (X.blk s H s2 (compEnvC s2 cc C X.env) fp) tg2 ie2 (tI W cl (without fl own) .e it2))
    (hg2 : ∀ (s : Shared) (H : Hp) (C : Addr) (cc : List (Str × Addr)) (fp : List Addr), PG (X.blk s H s2 (compEnvC s2 cc C X.env) fp) tg2 (gM W (without fl own) t2))
    (he : ∀ (s : Shared) (H : Hp) (C : Addr) (cc : List (Str × Addr)) (fp : List Addr), PE (X.blk s H s2 (compEnvC s2 cc C X.env) fp) x (tE W cl (without fl own) .e elt))
    (hsub : ∀ j ∈ tgS t, j ∈ own) (hsub2 : ∀ j ∈ tgS t2, j ∈ own) (hs : notSetE ie = true) (hs2 : notSetE ie2 = true) :
    PS X (.Assign [.Name y py] (.ListComp x [⟨tg, ie, [], 0⟩, ⟨tg2, ie2, [], 0⟩] s2 pos) spos) (tS W F₀ ρ₀ H₀ rm lp fl (i :: without fl [i]) (evS cl (.asg (.v i) (.comp2 own elt t it t2 it2)))) := by
  refine ps_mono (ps_setLc2 (vs1 := tgS t2) hc hN hy hyl hsw hi ok (by rw [how]; exact hsub2) hg ht hi2 hg2 ht he (fold_of hs) fun env x => fold_of hs2 x) fun D σ H q => ?_
  obtain ⟨F, ρ, τ, h, r, h', st, ev, post⟩ := q
  simp only [evS] at ev
  obtain ⟨v, h1, e1, e2⟩ := bind_ok ev
  simp only [setT, Out.of_some, Out.bind_ok, Out.ok.injEq] at e2
  obtain ⟨rfl, rfl⟩ := e2
  rw [how]
  exact comp2_imp hsub hsub2 ⟨F, ρ, τ, h, v, _, st.rel, st.hps, e1, fun w F' ρ' H' x p rmv => post F' ρ' _ H' x.stay (st.setF x p rmv)⟩
/-- name = [..] on one line -/
theorem S_asgC {i : Nat} {own : List Nat} {elt : E} {t : Tg} {it : I} {c : E} {x tg ie : Expr} {ifs : List Expr} {s2 : Scope} {ow : List (Str × Nat)} {y : Str} {py pos spos : Pos} (hc : X.calm = true) (hN : X.N.Nodup) (hy : X.N[i]? = some y) (hyl : X.env.scope.names.lookup y = some .local)
    (hsw : swapsWith (.ListComp x [⟨tg, ie, ifs, 0⟩] s2 pos) (some (.Name y py)) spos.line X.env = pure true) (hi : PI X tg ie (tI W cl fl .b it)) (ok : BlkOk X.N X.env.scope s2 ow) (how : ow.map (·.2) = own)
    (hg : ∀ (s : Shared) (H : Hp) (C : Addr) (cc : List (Str × Addr)) (fp : List Addr), PG (X.blk s H s2 (compEnvC s2 cc C X.env) fp) tg (gM W (without fl own) t))
    (ht : ∀ (s : Shared) (H : Hp) (C : Addr) (cc : List (Str × Addr)) (fp : List Addr), PTs (X.blk s H s2 (compEnvC s2 cc C X.env) fp) ifs (tT W cl (without fl own) c))
    (he : ∀ (s : Shared) (H : Hp) (C : Addr) (cc : List (Str × Addr)) (fp : List Addr), PE (X.blk s H s2 (compEnvC s2 cc C X.env) fp) x (tE W cl (without fl own) .e elt))
    (hsub : ∀ j ∈ tgS t, j ∈ own) (hs : notSetE ie = true) : PS X (.Assign [.Name y py] (.ListComp x [⟨tg, ie, ifs, 0⟩] s2 pos) spos) (tS W F₀ ρ₀ H₀ rm lp fl (i :: without fl [i]) (evS cl (.asg (.v i) (.comp own elt t it c)))) := by
  refine ps_mono (ps_setLc hc hN hy hyl hsw hi ok hg ht he (fold_of hs)) fun D σ H q => ?_
  obtain ⟨F, ρ, τ, h, r, h', st, ev, post⟩ := q
  simp only [evS] at ev
  obtain ⟨v, h1, e1, e2⟩ := bind_ok ev
  simp only [setT, Out.of_some, Out.bind_ok, Out.ok.injEq] at e2
  obtain ⟨rfl, rfl⟩ := e2
  rw [how]
  exact comp_imp hsub ⟨F, ρ, τ, h, v, _, st.rel, st.hps, e1, fun w F' ρ' H' x p rmv => post F' ρ' _ H' x.stay (st.setF x p rmv)⟩
end
end
end MP

set_option Elab.async false
set_option linter.all false
set_option maxRecDepth 100000
namespace MP
open PySem PySem.Spec PyProof.Rows L2

section
variable {W : Wd} {F₀ F F' : AS} {ρ₀ ρ ρ' : List Addr} {H₀ H H' H₁ : Hp} {h h' : Hs} {fl fl' : List Nat} {τ : Sl} {σ : L2.St}
/-- a name takes what no other name owns -/
theorem StR.setO (r : StR W F₀ ρ₀ H₀ fl τ h F ρ σ H) {i : Nat} {t : PV} {v : V} (o : Own W F ρ H t v) (h0 : ∀ a, isMut t = true → v = .ref a → H₀ a = none)
    (far : ∀ j u, j ∈ fl → j ≠ i → getS τ j = some u → isMut u = true → isMut t = true → σ[j]? ≠ some (some v)) : StR W F₀ ρ₀ H₀ (i :: without fl [i]) (τ.set i (some t)) h F ρ (σ.set i (some v)) H := by
  have inf : ∀ {j}, j ∈ i :: without fl [i] → j ≠ i → j ∈ fl := fun {j} hj hn => by
    rcases List.mem_cons.mp hj with z | z
    · exact absurd z hn
    · exact (mem_withouts.mp z).1
  refine ⟨⟨by simp [r.rel.len], fun j u e => ?_, fun j k u w njk hj hk ej ek mu mw => ?_⟩, r.hps, r.ext, fun j u a hj e m es => ?_⟩
  · rcases getS_set e with ⟨rfl, e1, hl⟩ | ⟨hj, e1⟩
    · cases e1
      exact ⟨v, by rw [List.getElem?_set_self (by rw [← r.rel.len]; exact hl)], fun z => absurd List.mem_cons_self z, fun _ => o⟩
    · obtain ⟨w, hw, h1, h2⟩ := r.rel.slot j u e1
      exact ⟨w, by rw [List.getElem?_set_ne (Ne.symm hj)]; exact hw, fun z => h1 fun z' => z (List.mem_cons_of_mem _ (mem_withouts.mpr ⟨z', by simpa using hj⟩)), fun z => h2 (inf z hj)⟩
  · rcases getS_set ej with ⟨hji, e1, hl⟩ | ⟨hj1, ej2⟩
    · cases e1
      rcases getS_set ek with ⟨hki, _⟩ | ⟨hk1, ek2⟩
      · exact absurd (hji.trans hki.symm) njk
      · rw [hji, List.getElem?_set_self (by rw [← r.rel.len]; exact hl), List.getElem?_set_ne (Ne.symm hk1)]
        exact fun z => far k w (inf hk hk1) hk1 ek2 mw mu z.symm
    · rcases getS_set ek with ⟨hki, e1, hl⟩ | ⟨hk1, ek2⟩
      · cases e1
        rw [hki, List.getElem?_set_self (by rw [← r.rel.len]; exact hl), List.getElem?_set_ne (Ne.symm hj1)]
        exact far j u (inf hj hj1) hj1 ej2 mu mw
      · rw [List.getElem?_set_ne (Ne.symm hj1), List.getElem?_set_ne (Ne.symm hk1)]
        exact r.rel.dis j k u w njk (inf hj hj1) (inf hk hk1) ej2 ek2 mu mw
  · rcases getS_set e with ⟨rfl, e1, hl⟩ | ⟨hj1, e1⟩
    · cases e1
      rw [List.getElem?_set_self (by rw [← r.rel.len]; exact hl)] at es
      cases es
      exact h0 a m rfl
    · rw [List.getElem?_set_ne (Ne.symm hj1)] at es
      exact r.own j u a (inf hj hj1) e1 m es
/-- the own names behind a name's store -/
def stO (b : Bool) (fl : List Nat) (i : Nat) : List Nat := if b = true then i :: without fl [i] else without fl [i]
/-- a value that came at H₁, of mode f or e -/
structure Val (W : Wd) (b : Bool) (F : AS) (ρ : List Addr) (H₀ H₁ H : Hp) (t : PV) (v : V) : Prop where
  e : b = false → Rep W F ρ H t v
  f : b = true → Own W F ρ H t v
  new : b = true → ∀ a, isMut t = true → v = .ref a → H₁ a = none
theorem Val.of {b : Bool} {t : PV} {v : V} (r : Rm (rmOf b) W F ρ H₁ H t v) : Val W b F ρ H₀ H₁ H t v := by
  cases b with
  | true => exact ⟨fun z => (Bool.noConfusion z), fun _ => r.1, fun _ => r.2⟩
  | false => exact ⟨fun _ => r, fun z => (Bool.noConfusion z), fun z => (Bool.noConfusion z)⟩
theorem Val.stay {b : Bool} {t : PV} {v : V} (r : Val W b F ρ H₀ H₁ H t v) (x : Ext F ρ H F' ρ' H') (p : Hps W F' ρ' H' h') : Val W b F' ρ' H₀ H₁ H' t v :=
  ⟨fun z => Rep.stay x.stay (r.e z), fun z => Own.stay x p (r.f z), r.new⟩
theorem StR.setV (r : StR W F₀ ρ₀ H₀ fl τ h F ρ σ H) {b : Bool} {i : Nat} {t : PV} {v : V} (q : Val W b F ρ H₀ H₁ H t v) (h0 : ∀ a, H₁ a = none → H₀ a = none)
    (far : b = true → ∀ j u, j ∈ fl → j ≠ i → getS τ j = some u → isMut u = true → isMut t = true → σ[j]? ≠ some (some v)) : StR W F₀ ρ₀ H₀ (stO b fl i) (τ.set i (some t)) h F ρ (σ.set i (some v)) H := by
  cases b with
  | true => exact r.setO (q.f rfl) (fun a m e => h0 a (q.new rfl a m e)) (far rfl)
  | false => exact r.set (q.e rfl)
/-- an own name's address stood already -/
theorem StR.old (r : StR W F₀ ρ₀ H₀ fl τ h F ρ σ H) {j : Nat} {u : PV} {v : V} (hj : j ∈ fl) (e : getS τ j = some u) (m : isMut u = true) (es : σ[j]? = some (some v)) : ∃ a o, v = .ref a ∧ H a = some o := by
  obtain ⟨w, hw, _, h2⟩ := r.rel.slot j u e
  rw [es] at hw
  cases hw
  obtain ⟨a, ob, ea, ha, _⟩ := (h2 hj).addr m
  exact ⟨a, ob, ea, ha⟩
section
variable {cl : CL} {X : Cx} {rm : Md} {lp fl out : List Nat}
theorem S_par {i j : Nat} {b1 b2 : Bool} {e1 e2 : E} {x y : Str} {a b : Expr} {px py pt pos : Pos} {kt k2 pt2} (hc : X.calm = true) (hN : X.N.Nodup) (hi : X.N[i]? = some x) (hj : X.N[j]? = some y) (hij : i ≠ j)
    (hx : X.env.scope.names.lookup x = some .local) (hy : X.env.scope.names.lookup y = some .local) (h1 : PE X a (tE W cl fl (rmOf b1) e1)) (h2 : PE X b (tE W cl fl (rmOf b2) e2)) (hs1 : notStar a = true) (hs2 : notStar b = true)
    (hw : swappedStores [.Tuple [.Name x px, .Name y py] kt pt] (.Tuple [a, b] k2 pt2) X.env = pure (some [x, y])) :
    PS X (.Assign [.Tuple [.Name x px, .Name y py] kt pt] (.Tuple [a, b] k2 pt2) pos) (tS W F₀ ρ₀ H₀ rm lp fl (stO b2 (stO b1 fl i) j) (evS cl (.par [i, j] (.cons e1 (.cons e2 .nil))))) := by
  refine ps_mono (ps_par hc hN hi hj hij hx hy (pa_cons h1 (pa_cons h2 pa_nil (star_of hs2)) (star_of hs1)) hw (by rfl)) fun D σ H q => ?_
  obtain ⟨F, ρ, τ, h, r, h', st, ev, post⟩ := q
  simp only [evS] at ev
  obtain ⟨vs, g1, ev1, ev2⟩ := bind_ok ev
  simp only [evEs] at ev1
  obtain ⟨t1, g2, q1, q2⟩ := bind_ok ev1
  obtain ⟨ts, g3, q3, q4⟩ := bind_ok q2
  obtain ⟨t2, g4, q5, q6⟩ := bind_ok q3
  simp only [Out.bind_ok, Out.ok.injEq] at q6
  obtain ⟨rfl, rfl⟩ := q6
  simp only [Out.ok.injEq] at q4
  obtain ⟨rfl, rfl⟩ := q4
  simp only [setAll, Out.of_some, Out.bind_ok, Out.ok.injEq] at ev2
  obtain ⟨rfl, rfl⟩ := ev2
  refine ⟨F, ρ, τ, h, t1, g2, st.rel, st.hps, q1, fun v F1 ρ1 H1 x1 p1 r1 => ?_⟩
  have st1 := st.expr x1 p1
  refine ⟨F1, ρ1, τ, g2, t2, _, st1.rel, p1, q5, fun w F2 ρ2 H2 x2 p2 r2 => ?_⟩
  have st2 := st1.expr x2 p2
  have v1 := (Val.of (H₀ := H₀) r1).stay x2 p2
  have v2 := Val.of (H₀ := H₀) r2
  refine ⟨v, w, rfl, ?_⟩
  have s1 := st2.setV (i := i) v1 (fun a z => st.ext.nn z) fun hb k u hk _ ek mu mt z => by
    obtain ⟨a, o, ea, ha⟩ := st.old hk ek mu z
    rw [v1.new hb a mt ea] at ha
    cases ha
  have s2 := s1.setV (i := j) v2 (fun a z => st1.ext.nn z) fun hb k u hk hkj ek mu mt z => by
    by_cases hki : k = i
    · subst hki
      rcases getS_set ek with ⟨_, eu, hl⟩ | ⟨z', _⟩
      · cases eu
        rw [List.getElem?_set_self (by rw [← st.rel.len]; exact hl)] at z
        cases z
        cases b1 with
        | false =>
          simp only [stO, Bool.false_eq_true, if_false] at hk
          exact absurd (mem_withouts.mp hk).2 (by simp)
        | true =>
          have o1 : Own W F1 ρ1 H1 t1 _ := r1.1
          obtain ⟨a, ob, ea, ha, _⟩ := o1.addr mu
          rw [v2.new hb a mt ea] at ha
          cases ha
      · exact z' rfl
    · rcases getS_set ek with ⟨z', _⟩ | ⟨_, ek2⟩
      · exact absurd z' hki
      · rw [List.getElem?_set_ne (Ne.symm hki)] at z
        have hk' : k ∈ fl := by
          unfold stO at hk
          split at hk
          · rcases List.mem_cons.mp hk with q | q
            · exact absurd q hki
            · exact (mem_withouts.mp q).1
          · exact (mem_withouts.mp hk).1
        obtain ⟨a, o, ea, ha⟩ := st1.old hk' ek2 mu z
        rw [v2.new hb a mt ea] at ha
        cases ha
  exact post F2 ρ2 _ H2 (x1.stay.trans x2.stay) s2
theorem S_parT {i j : Nat} {b1 b2 : Bool} {e1 e2 : E} {x y : Str} {a b : Expr} {px py pt pos : Pos} {kt k2 pt2} (hc : X.calm = true) (hK : X.K = W.K) (hij : i ≠ j)
    (gx : PG X (.Name x px) (gName i)) (gy : PG X (.Name y py) (gName j)) (h1 : PE X a (tE W cl fl (rmOf b1) e1)) (h2 : PE X b (tE W cl fl (rmOf b2) e2)) (hs1 : notStar a = true) (hs2 : notStar b = true)
    (hw : swappedStores [.Tuple [.Name x px, .Name y py] kt pt] (.Tuple [a, b] k2 pt2) X.env = pure none) :
    PS X (.Assign [.Tuple [.Name x px, .Name y py] kt pt] (.Tuple [a, b] k2 pt2) pos) (tS W F₀ ρ₀ H₀ rm lp fl (stO b2 (stO b1 fl i) j) (evS cl (.par [i, j] (.cons e1 (.cons e2 .nil))))) := by
  refine ps_mono (ps_asg (pe_tupN (pa_cons h1 (pa_cons h2 pa_nil (star_of hs2)) (star_of hs1))) (pg_tup (n := 2) hc (pgs_cons gx (pgs_cons gy pgs_nil)) rfl rfl) (by rfl) hw) fun D σ H q => ?_
  obtain ⟨F, ρ, τ, h, r, h', st, ev, post⟩ := q
  simp only [evS] at ev
  obtain ⟨vs, g1, ev1, ev2⟩ := bind_ok ev
  simp only [evEs] at ev1
  obtain ⟨t1, g2, q1, q2⟩ := bind_ok ev1
  obtain ⟨ts, g3, q3, q4⟩ := bind_ok q2
  obtain ⟨t2, g4, q5, q6⟩ := bind_ok q3
  simp only [Out.bind_ok, Out.ok.injEq] at q6
  obtain ⟨rfl, rfl⟩ := q6
  simp only [Out.ok.injEq] at q4
  obtain ⟨rfl, rfl⟩ := q4
  simp only [setAll, Out.of_some, Out.bind_ok, Out.ok.injEq] at ev2
  obtain ⟨rfl, rfl⟩ := ev2
  refine ⟨F, ρ, τ, h, t1, g2, st.rel, st.hps, q1, fun v F1 ρ1 H1 x1 p1 r1 => ?_⟩
  have st1 := st.expr x1 p1
  refine ⟨F1, ρ1, τ, g2, t2, _, st1.rel, p1, q5, fun w F2 ρ2 H2 x2 p2 r2 => ?_⟩
  refine ⟨by show 2 ≤ sizeLine; decide, fun p o hp ho => ?_⟩
  obtain ⟨x3, p3⟩ := Ext.new' (o := .frz o (.tup [v, w])) p2 hp
  have st2 := (st1.expr x2 p2).expr x3 p3
  have v1 := ((Val.of (H₀ := H₀) r1).stay x2 p2).stay x3 p3
  have v2 := (Val.of (H₀ := H₀) r2).stay x3 p3
  refine ⟨p, [v, w], rfl, (SqN.new ho).t, rfl, v, [w], rfl, w, [], rfl, rfl, ?_⟩
  have s1 := st2.setV (i := i) v1 (fun a z => st.ext.nn z) fun hb k u hk _ ek mu mt z => by
    obtain ⟨a, o, ea, ha⟩ := st.old hk ek mu z
    rw [v1.new hb a mt ea] at ha
    cases ha
  have s2 := s1.setV (i := j) v2 (fun a z => st1.ext.nn z) fun hb k u hk hkj ek mu mt z => by
    by_cases hki : k = i
    · subst hki
      rcases getS_set ek with ⟨_, eu, hl⟩ | ⟨z', _⟩
      · cases eu
        rw [List.getElem?_set_self (by rw [← st.rel.len]; exact hl)] at z
        cases z
        cases b1 with
        | false =>
          simp only [stO, Bool.false_eq_true, if_false] at hk
          exact absurd (mem_withouts.mp hk).2 (by simp)
        | true =>
          have o1 : Own W F1 ρ1 H1 t1 _ := r1.1
          obtain ⟨a, ob, ea, ha, _⟩ := o1.addr mu
          rw [v2.new hb a mt ea] at ha
          cases ha
      · exact z' rfl
    · rcases getS_set ek with ⟨z', _⟩ | ⟨_, ek2⟩
      · exact absurd z' hki
      · rw [List.getElem?_set_ne (Ne.symm hki)] at z
        have hk' : k ∈ fl := by
          unfold stO at hk
          split at hk
          · rcases List.mem_cons.mp hk with q | q
            · exact absurd q hki
            · exact (mem_withouts.mp q).1
          · exact (mem_withouts.mp hk).1
        obtain ⟨a, o, ea, ha⟩ := st1.old hk' ek2 mu z
        rw [v2.new hb a mt ea] at ha
        cases ha
  exact post F2 ρ2 _ _ ((x1.stay.trans x2.stay).trans x3.stay) s2
end
theorem stO_mem {b : Bool} {fl : List Nat} {i k : Nat} (h : k ∈ stO b fl i) (n : k ≠ i) : k ∈ fl := by
  unfold stO at h
  split at h
  · rcases List.mem_cons.mp h with q | q
    · exact absurd q n
    · exact (mem_withouts.mp q).1
  · exact (mem_withouts.mp h).1
theorem stO_self {fl : List Nat} {i : Nat} (h : i ∈ stO false fl i) : False := by
  simp only [stO, Bool.false_eq_true, if_false] at h
  exact (mem_withouts.mp h).2 (by simp)
/-- three names take what came one behind the other -/
theorem StR.three {i j l : Nat} {b1 b2 b3 : Bool} {t1 t2 t3 : PV} {v w u : V} {F1 F2 F3 F4 : AS} {ρ1 ρ2 ρ3 ρ4 : List Addr} {H1 H2 H3 H4 : Hp} {g1 g2 g3 : Hs} (st : StR W F₀ ρ₀ H₀ fl τ h F ρ σ H)
    (x1 : Ext F ρ H F1 ρ1 H1) (p1 : Hps W F1 ρ1 H1 g1) (r1 : Rm (rmOf b1) W F1 ρ1 H H1 t1 v) (x2 : Ext F1 ρ1 H1 F2 ρ2 H2) (p2 : Hps W F2 ρ2 H2 g2) (r2 : Rm (rmOf b2) W F2 ρ2 H1 H2 t2 w)
    (x3 : Ext F2 ρ2 H2 F3 ρ3 H3) (p3 : Hps W F3 ρ3 H3 g3) (r3 : Rm (rmOf b3) W F3 ρ3 H2 H3 t3 u) (x4 : Ext F3 ρ3 H3 F4 ρ4 H4) (p4 : Hps W F4 ρ4 H4 g3) (hij : i ≠ j) (hil : i ≠ l) (hjl : j ≠ l) :
    StR W F₀ ρ₀ H₀ (stO b3 (stO b2 (stO b1 fl i) j) l) (((τ.set i (some t1)).set j (some t2)).set l (some t3)) g3 F4 ρ4 (((σ.set i (some v)).set j (some w)).set l (some u)) H4 := by
  have st1 := st.expr x1 p1
  have st2 := st1.expr x2 p2
  have st4 := (st2.expr x3 p3).expr x4 p4
  have v1 := (((Val.of (H₀ := H₀) r1).stay x2 p2).stay x3 p3).stay x4 p4
  have v2 := ((Val.of (H₀ := H₀) r2).stay x3 p3).stay x4 p4
  have v3 := (Val.of (H₀ := H₀) r3).stay x4 p4
  have s1 := st4.setV (i := i) v1 (fun a z => st.ext.nn z) fun hb k u hk _ ek mu mt z => by
    obtain ⟨a, o, ea, ha⟩ := st.old hk ek mu z
    rw [v1.new hb a mt ea] at ha
    cases ha
  have s2 := s1.setV (i := j) v2 (fun a z => st1.ext.nn z) fun hb k u hk hkj ek mu mt z => by
    by_cases hki : k = i
    · subst hki
      rcases getS_set ek with ⟨_, eu, hl⟩ | ⟨z', _⟩
      · cases eu
        rw [List.getElem?_set_self (by rw [← st.rel.len]; exact hl)] at z
        cases z
        cases b1 with
        | false => exact stO_self hk
        | true =>
          have o1 : Own W F1 ρ1 H1 t1 _ := r1.1
          obtain ⟨a, ob, ea, ha, _⟩ := o1.addr mu
          rw [v2.new hb a mt ea] at ha
          cases ha
      · exact z' rfl
    · rcases getS_set ek with ⟨z', _⟩ | ⟨_, ek2⟩
      · exact absurd z' hki
      · rw [List.getElem?_set_ne (Ne.symm hki)] at z
        obtain ⟨a, o, ea, ha⟩ := st1.old (stO_mem hk hki) ek2 mu z
        rw [v2.new hb a mt ea] at ha
        cases ha
  exact s2.setV (i := l) v3 (fun a z => st2.ext.nn z) fun hb k u hk hkl ek mu mt z => by
    by_cases hkj : k = j
    · subst hkj
      rcases getS_set ek with ⟨_, eu, hl⟩ | ⟨z', _⟩
      · cases eu
        rw [List.getElem?_set_self (by rw [List.length_set, ← st.rel.len]; simpa using hl)] at z
        cases z
        cases b2 with
        | false => exact stO_self hk
        | true =>
          have o2 : Own W F2 ρ2 H2 t2 _ := r2.1
          obtain ⟨a, ob, ea, ha, _⟩ := o2.addr mu
          rw [v3.new hb a mt ea] at ha
          cases ha
      · exact z' rfl
    · rcases getS_set ek with ⟨z', _⟩ | ⟨_, ek2⟩
      · exact absurd z' hkj
      · rw [List.getElem?_set_ne (Ne.symm hkj)] at z
        have hk2 := stO_mem hk hkj
        by_cases hki : k = i
        · subst hki
          rcases getS_set ek2 with ⟨_, eu, hl⟩ | ⟨z', _⟩
          · cases eu
            rw [List.getElem?_set_self (by rw [← st.rel.len]; exact hl)] at z
            cases z
            cases b1 with
            | false => exact stO_self hk2
            | true =>
              have o1 : Own W F1 ρ1 H1 t1 _ := r1.1
              obtain ⟨a, ob, ea, ha, _⟩ := o1.addr mu
              rw [x2.nn (v3.new hb a mt ea)] at ha
              cases ha
          · exact z' rfl
        · rcases getS_set ek2 with ⟨z', _⟩ | ⟨_, ek3⟩
          · exact absurd z' hki
          · rw [List.getElem?_set_ne (Ne.symm hki)] at z
            obtain ⟨a, o, ea, ha⟩ := st2.old (stO_mem hk2 hki) ek3 mu z
            rw [v3.new hb a mt ea] at ha
            cases ha
theorem evEs3 {cl : CL} {e1 e2 e3 : E} {τ : Sl} {h g : Hs} {vs : List PV} (e : evEs cl (.cons e1 (.cons e2 (.cons e3 .nil))) τ h = .ok vs g) : ∃ t1 g1 t2 g2 t3, evE cl e1 τ h = .ok t1 g1 ∧ evE cl e2 τ g1 = .ok t2 g2 ∧ evE cl e3 τ g2 = .ok t3 g ∧ vs = [t1, t2, t3] := by
  simp only [evEs] at e
  obtain ⟨t1, g1, q1, q2⟩ := bind_ok e
  obtain ⟨ts, g3, q3, q4⟩ := bind_ok q2
  obtain ⟨t2, g2, q5, q6⟩ := bind_ok q3
  obtain ⟨ts2, g4, q7, q8⟩ := bind_ok q6
  obtain ⟨t3, g5, q9, q10⟩ := bind_ok q7
  simp only [Out.bind_ok, Out.ok.injEq] at q10
  obtain ⟨rfl, rfl⟩ := q10
  simp only [Out.ok.injEq] at q8
  obtain ⟨rfl, rfl⟩ := q8
  simp only [Out.ok.injEq] at q4
  obtain ⟨rfl, rfl⟩ := q4
  exact ⟨t1, g1, t2, g2, t3, q1, q5, q9, rfl⟩
section
variable {cl : CL} {X : Cx} {rm : Md} {lp fl out : List Nat}
theorem S_par3 {i j l : Nat} {b1 b2 b3 : Bool} {e1 e2 e3 : E} {x y z : Str} {a b c : Expr} {px py pz pt pos : Pos} {kt k2 pt2} (hc : X.calm = true) (hN : X.N.Nodup) (hi : X.N[i]? = some x) (hj : X.N[j]? = some y) (hl : X.N[l]? = some z) (hij : i ≠ j) (hil : i ≠ l) (hjl : j ≠ l)
    (hx : X.env.scope.names.lookup x = some .local) (hy : X.env.scope.names.lookup y = some .local) (hz : X.env.scope.names.lookup z = some .local) (h1 : PE X a (tE W cl fl (rmOf b1) e1)) (h2 : PE X b (tE W cl fl (rmOf b2) e2)) (h3 : PE X c (tE W cl fl (rmOf b3) e3)) (hs1 : notStar a = true) (hs2 : notStar b = true) (hs3 : notStar c = true)
    (hw : swappedStores [.Tuple [.Name x px, .Name y py, .Name z pz] kt pt] (.Tuple [a, b, c] k2 pt2) X.env = pure (some [x, y, z])) :
    PS X (.Assign [.Tuple [.Name x px, .Name y py, .Name z pz] kt pt] (.Tuple [a, b, c] k2 pt2) pos) (tS W F₀ ρ₀ H₀ rm lp fl (stO b3 (stO b2 (stO b1 fl i) j) l) (evS cl (.par [i, j, l] (.cons e1 (.cons e2 (.cons e3 .nil)))))) := by
  refine ps_mono (ps_par3 hc hN hi hj hl hij hil hjl hx hy hz (pa_cons h1 (pa_cons h2 (pa_cons h3 pa_nil (star_of hs3)) (star_of hs2)) (star_of hs1)) hw (by rfl)) fun D σ H q => ?_
  obtain ⟨F, ρ, τ, h, r, h', st, ev, post⟩ := q
  simp only [evS] at ev
  obtain ⟨vs, g3, ev1, ev2⟩ := bind_ok ev
  obtain ⟨t1, g1, t2, g2, t3, q1, q2, q3, rfl⟩ := evEs3 ev1
  simp only [setAll, Out.of_some, Out.bind_ok, Out.ok.injEq] at ev2
  obtain ⟨rfl, rfl⟩ := ev2
  refine ⟨F, ρ, τ, h, t1, g1, st.rel, st.hps, q1, fun v F1 ρ1 H1 x1 p1 r1 => ?_⟩
  have st1 := st.expr x1 p1
  refine ⟨F1, ρ1, τ, g1, t2, g2, st1.rel, p1, q2, fun w F2 ρ2 H2 x2 p2 r2 => ?_⟩
  have st2 := st1.expr x2 p2
  refine ⟨F2, ρ2, τ, g2, t3, _, st2.rel, p2, q3, fun u F3 ρ3 H3 x3 p3 r3 => ?_⟩
  exact ⟨v, w, u, rfl, post F3 ρ3 _ H3 ((x1.stay.trans x2.stay).trans x3.stay) (st.three x1 p1 r1 x2 p2 r2 x3 p3 r3 p3.ext0 p3 hij hil hjl)⟩
theorem S_parT3 {i j l : Nat} {b1 b2 b3 : Bool} {e1 e2 e3 : E} {x y z : Str} {a b c : Expr} {px py pz pt pos : Pos} {kt k2 pt2} (hc : X.calm = true) (hK : X.K = W.K) (hij : i ≠ j) (hil : i ≠ l) (hjl : j ≠ l)
    (gx : PG X (.Name x px) (gName i)) (gy : PG X (.Name y py) (gName j)) (gz : PG X (.Name z pz) (gName l)) (h1 : PE X a (tE W cl fl (rmOf b1) e1)) (h2 : PE X b (tE W cl fl (rmOf b2) e2)) (h3 : PE X c (tE W cl fl (rmOf b3) e3)) (hs1 : notStar a = true) (hs2 : notStar b = true) (hs3 : notStar c = true)
    (hw : swappedStores [.Tuple [.Name x px, .Name y py, .Name z pz] kt pt] (.Tuple [a, b, c] k2 pt2) X.env = pure none) :
    PS X (.Assign [.Tuple [.Name x px, .Name y py, .Name z pz] kt pt] (.Tuple [a, b, c] k2 pt2) pos) (tS W F₀ ρ₀ H₀ rm lp fl (stO b3 (stO b2 (stO b1 fl i) j) l) (evS cl (.par [i, j, l] (.cons e1 (.cons e2 (.cons e3 .nil)))))) := by
  refine ps_mono (ps_asg (pe_tupN (pa_cons h1 (pa_cons h2 (pa_cons h3 pa_nil (star_of hs3)) (star_of hs2)) (star_of hs1))) (pg_tup (n := 3) hc (pgs_cons gx (pgs_cons gy (pgs_cons gz pgs_nil))) rfl rfl) (by rfl) hw) fun D σ H q => ?_
  obtain ⟨F, ρ, τ, h, r, h', st, ev, post⟩ := q
  simp only [evS] at ev
  obtain ⟨vs, g3, ev1, ev2⟩ := bind_ok ev
  obtain ⟨t1, g1, t2, g2, t3, q1, q2, q3, rfl⟩ := evEs3 ev1
  simp only [setAll, Out.of_some, Out.bind_ok, Out.ok.injEq] at ev2
  obtain ⟨rfl, rfl⟩ := ev2
  refine ⟨F, ρ, τ, h, t1, g1, st.rel, st.hps, q1, fun v F1 ρ1 H1 x1 p1 r1 => ?_⟩
  have st1 := st.expr x1 p1
  refine ⟨F1, ρ1, τ, g1, t2, g2, st1.rel, p1, q2, fun w F2 ρ2 H2 x2 p2 r2 => ?_⟩
  have st2 := st1.expr x2 p2
  refine ⟨F2, ρ2, τ, g2, t3, _, st2.rel, p2, q3, fun u F3 ρ3 H3 x3 p3 r3 => ?_⟩
  refine ⟨by show 3 ≤ sizeLine; decide, fun p o hp ho => ?_⟩
  obtain ⟨x4, p4⟩ := Ext.new' (o := .frz o (.tup [v, w, u])) p3 hp
  refine ⟨p, [v, w, u], rfl, (SqN.new ho).t, rfl, v, [w, u], rfl, w, [u], rfl, u, [], rfl, rfl, ?_⟩
  exact post _ _ _ _ (((x1.stay.trans x2.stay).trans x3.stay).trans x4.stay) (st.three x1 p1 r1 x2 p2 r2 x3 p3 r3 x4 p4 hij hil hjl)
end
end
end MP

set_option Elab.async false
set_option linter.all false
set_option maxRecDepth 100000
set_option maxHeartbeats 1000000
namespace MP
open PySem PySem.Spec PyProof.Rows L2

/-! ### defs that may let an exception out -/
/-- what such a def promises: what the run tells, an exception of an own class, too -/
def spX (W : Wd) (cl : CL) (fr : Nat → Bool) (f : Nat) : Sp := fun vs H Q E => ∃ F ρ h ts, Hps W F ρ H h ∧ Reps W F ρ H ts vs ∧
  ((∃ t h', cl f ts h = .ok t h' ∧ ∀ v F' ρ' H', Ext F ρ H F' ρ' H' → Hps W F' ρ' H' h' → Rm (rmOf (fr f)) W F' ρ' H H' t v → Q v H') ∨
   (∃ c p h', cl f ts h = .exc c p h' ∧ ∀ A sup F' ρ' H', W.xc c = some (A, sup) → Ext F ρ H F' ρ' H' → Hps W F' ρ' H' h' → E (.ref A) none H'))
structure FnX (P : Program) (w : World) (K : PySem.W.Frag) (mg : Str → Option Value) (base : Heap) (k : Nat) (f : Addr) (fd : FuncData) (ps : List Str) (sp : Sp) : Prop where
  run : ∀ (A : Around) (outer : List Env) (s : Shared) (H : Hp) (args : Args) (us : List Value) (vs : List V) (Q : VK) (E : XK), Room k A → A.guards = some [] → Env0 P w K mg base A outer s H → BindsTo s fd args (ps.zip us) → Vals vs us → vs.length = ps.length → sp vs H Q E →
    codeAny (model P w) A (.call (.ref f) args) (CR (L2.CX P w) outer P w H s Q E) s
/-- where it lets none out it is as any other -/
theorem FnX.g {P : Program} {w : World} {K : PySem.W.Frag} {mg : Str → Option Value} {base : Heap} {k : Nat} {f : Addr} {fd : FuncData} {ps : List Str} {W : Wd} {cl : CL} {fr : Nat → Bool} {n : Nat} (F : FnX P w K mg base k f fd ps (spX W cl fr n)) :
    FnG P w K mg base k f fd ps (spG W cl fr n) := by
  constructor
  intro A outer s H args us vs Q E hr hg e0 hb r hl hsp
  obtain ⟨F1, ρ, h, ts, t, h', p, rr, ev, post⟩ := hsp
  refine codeAny_mono (F.run A outer s H args us vs Q (fun _ _ _ => False) hr hg e0 hb r hl ⟨F1, ρ, h, ts, p, rr, .inl ⟨t, h', ev, post⟩⟩) fun r s' hq => ?_
  match r, hq with
  | .ok (.ret u), hq => exact hq
  | .error e, ⟨_, _, _, _, _, _, _, _, _, _, _, _, hq⟩ => exact hq.elim
section
variable {X : Cx} {k : Nat} {f : Addr} {fd : FuncData} {ps : List Str} {sp : Sp}
theorem run_x {pins : List (Addr × Obj)} {σ : L2.St} {H : Hp} {s : Shared} {Q : VK} {E : XK} {us : List Value} {vs : List V} (F : FnX X.prog X.w X.K X.mg X.base k f fd ps sp) (hr : Room k X.A) (hg : X.A.guards = some []) (hb : Binds X.K fd ps [])
    (hx : PassesAt (L2.CX X.prog X.w) X σ E) (I : Inv X pins σ H s) (r : Vals vs us) (hl : vs.length = ps.length) (h : sp vs H Q E) : wpAny (model X.prog X.w) X.A (call (.ref f) us) (EP X pins σ Q) X.xe s := by
  have hl2 : (us ++ []).length = ps.length := by rw [List.append_nil, ← r.length]; exact hl
  have b := hb s us I.kIn hl2
  rw [List.append_nil] at b
  apply wpAny_call
  refine codeAny_mono (F.run X.A X.stack s H ⟨us, []⟩ us vs Q E hr hg I.env0 b r hl h) ?_
  intro r' s' hq
  match r', hq with
  | .ok (.ret u), hq => exact I.after hq
  | .error e, hq => exact hx pins H s e s' I hq
end
/-- a def of the text, by its body -/
theorem fn_x {P : Program} {w : World} {K : PySem.W.Frag} {mg : Str → Option Value} {base : Heap} {k : Nat} {f : Addr} {x qual : Str} {params : Arguments} {body : List Stmt} {scope : Scope} {dvs : List V} {kws : List (Str × V)} {fd : FuncData} {N ps : List Str} {sp : Sp}
    (D : FunD K x qual params body scope dvs kws f fd) (S : FnScope N ps scope)
    (hbody : ∀ (cdv : Value) (A : Around) (outer : List Env) (s : Shared) (H : Hp) (vs : List V) (Q : VK) (E : XK), Room k (A.deeper (envOfC qual scope s.heap.objs.size f cdv)) → A.guards = some [] → vs.length = ps.length → sp vs H Q E →
      ∃ t, PSs (cxOf (L2.CX P w) P w K mg base N qual scope f cdv A outer s H E) body t ∧ t { nx := fun _ H' => Q .non H', rt := Q } (start N vs) H) :
    FnX P w K mg base (k + 1) f fd ps sp := by
  obtain ⟨oc, od, dV, kV, doc, pm, an, cdv, ct, osl, rfl, lk, hcd, _, _⟩ := D.ex
  constructor
  intro A outer s H args us vs Q E hr hg e0 hb r hvl hsp
  have hl : us.length = ps.length := by rw [← r.length]; exact hvl
  have kx : K.In s.heap := e0.mod.kin.keeps fun b o e => (e0.bs b o e).1
  have nl : s.heap.NoLimit := e0.mod.nolimit.keeps fun b o e => (e0.bs b o e).1
  have kinds : ∀ y ∈ ps.zip us, scope.names.lookup y.1 = some .local ∨ (scope.names.lookup y.1 = some .cell ∧ ((cellsFrom (s.heap.objs.size + 1) scope.names []).lookup y.1).isSome = true) := by
    intro y hy
    have hy1 : y.1 ∈ ps := (List.of_mem_zip hy).1
    cases S.par y.1 hy1 with
    | inl q => exact .inl q
    | inr q => exact .inr ⟨q, PySem.W.cellsFrom_some _ _ _ (.inl q)⟩
  apply codeAny_call_function hr.depth (kx _ _ lk) rfl S.co S.gen rfl (PySem.W.codeRec_of kx hcd) (hb _ _ _ _ ?_)
  apply wpAny_newFunctionEnv_cells S.kind kinds
  intro env he s1 hx
  subst he
  refine ⟨nl.keeps hx.toInCall.keep, codeAny_func ?_⟩
  obtain ⟨t, ht, hq⟩ := hbody cdv A outer s H vs Q E (hr.deeper _) hg hvl hsp
  have I := inv_start (CX := L2.CX P w) (E := E) S hr.hd e0 hvl r hx
  refine wpAny_mono (ht.run [] s1 (start N vs) H _ I hq) ?_ (fun e s' hs => hs)
  intro fl s' hs
  match fl, hs with
  | .ret u, ⟨v, σ', H', J, rv, q⟩ => exact ⟨v, H', J.os, J.bare, J.base, J.hok, rv, q⟩
  | .next, ⟨σ', H', J, q⟩ => exact ⟨.non, H', J.os, J.bare, J.base, J.hok, rfl, q⟩
  | .brk, ⟨_, _, _, q⟩ => exact False.elim q
  | .cont, ⟨_, _, _, q⟩ => exact False.elim q
/-! ### expressions at the top of a statement -/
theorem evC_ok {cl : CL} {f : Nat} {is : Es} {τ : Sl} {h h' : Hs} {t : PV} (e : evC cl (.call f is) τ h = .ok t h') : ∃ ts h1, evEs cl is τ h = .ok ts h1 ∧ cl f ts h1 = .ok t h' := by
  unfold evC at e
  split at e
  · exact ⟨_, _, by assumption, e⟩
  · cases e
theorem evC_exc {cl : CL} {f : Nat} {is : Es} {τ : Sl} {h h' : Hs} {c : Nat} {p : PV} (e : evC cl (.call f is) τ h = .exc c p h') : ∃ ts h1, evEs cl is τ h = .ok ts h1 ∧ cl f ts h1 = .exc c p h' := by
  unfold evC at e
  split at e
  · exact ⟨_, _, by assumption, e⟩
  · cases e
def tXE (W : Wd) (cl : CL) (fl : List Nat) (m : Md) (e : E) (EX : L2.St → XK) : TE := fun σ H Q => ∃ F ρ τ h, Rel W F ρ fl τ σ H ∧ Hps W F ρ H h ∧
  ((∃ t h', evC cl e τ h = .ok t h' ∧ ∀ v F' ρ' H', Ext F ρ H F' ρ' H' → Hps W F' ρ' H' h' → Rm m W F' ρ' H H' t v → Q v H') ∨
   (∃ c p h', evC cl e τ h = .exc c p h' ∧ ∀ A sup F' ρ' H', W.xc c = some (A, sup) → Ext F ρ H F' ρ' H' → Hps W F' ρ' H' h' → EX σ (.ref A) none H'))
section
variable {W : Wd} {cl : CL} {fl : List Nat} {X : Cx} {C : TC} {fr : Nat → Bool} {np : Nat → Nat} {k : Nat} {sc : Scope}
/-- a call of such a def -/
theorem L_callX {f : Nat} {is : Es} {x : Str} {es : List Expr} {pp pos : Pos} {EX : L2.St → XK} (G : GoodE W C cl fr np k X sc)
    (fx : ∃ a fd ps, X.mg x = some (.ref a) ∧ PySem.W.keepIn X.K (.ref a) = true ∧ Binds X.K fd ps [] ∧ ps.length = np f ∧ FnX X.prog X.w X.K X.mg X.base k a fd ps (spX W cl fr f))
    (hx : ∀ σ, PassesAt (L2.CX X.prog X.w) X σ (EX σ)) (hg : isGl sc x = true) (hd : notDbg x = true) (ha : PA X es (tEs W cl fl .e is)) (hs : noStar es = true) (hn : es.length = np f) (hm : mEs C is sc es = true) :
    PE X (.Call (.Name x pp) es [] pos) (tXE W cl fl (rmOf (fr f)) (.call f is) EX) := by
  obtain ⟨a, fd, ps, h1, h2, h3, h4, h5⟩ := fx
  have hgl := gl_of G.scope hg
  have go : ∀ {σ : L2.St} {H : Hp} {Q : VK}, tXE W cl fl (rmOf (fr f)) (.call f is) EX σ H Q → tEs W cl fl .e is σ H fun vs H1 => vs.length = ps.length ∧ spX W cl fr f vs H1 Q (EX σ) := fun {σ H Q} q => by
    obtain ⟨F, ρ, τ, h, rel, p, q⟩ := q
    rcases q with ⟨t, h', ev, kk⟩ | ⟨c, pl, h', ev, kk⟩
    · obtain ⟨ts, h1', e1, g1⟩ := evC_ok ev
      refine ⟨F, ρ, τ, h, ts, h1', rel, p, e1, fun vs F1 ρ1 H1 x1 p1 r1 => ⟨?_, F1, ρ1, h1', ts, p1, r1, .inl ⟨t, h', g1, fun v F2 ρ2 H2 x2 p2 r2 => kk v F2 ρ2 H2 (x1.trans x2) p2 ?_⟩⟩⟩
      · have r1' : Reps W F1 ρ1 H1 ts vs := r1
        rw [← r1'.length, evEs_len hm hs e1, hn, h4]
      · cases hb : fr f with
        | false => rw [hb] at r2; exact r2
        | true => rw [hb] at r2; exact ⟨r2.1, fun a m e => x1.nn (r2.2 a m e)⟩
    · obtain ⟨ts, h1', e1, g1⟩ := evC_exc ev
      refine ⟨F, ρ, τ, h, ts, h1', rel, p, e1, fun vs F1 ρ1 H1 x1 p1 r1 => ⟨?_, F1, ρ1, h1', ts, p1, r1, .inr ⟨c, pl, h', g1, fun A sup F2 ρ2 H2 ha x2 p2 => kk A sup F2 ρ2 H2 ha (x1.trans x2) p2⟩⟩⟩
      have r1' : Reps W F1 ρ1 H1 ts vs := r1
      rw [← r1'.length, evEs_len hm hs e1, hn, h4]
  cases es with
  | nil =>
    refine ⟨fun pins s σ H Q I q => ?_⟩
    have q2 := go q
    refine wpAny_Call_Name_kw (ld_glob I hgl h1 ?_ (notDbg_of hd).1)
    obtain ⟨F, ρ, τ, h, ts, h', rel, p, ev, kk⟩ := q2
    have hz : ts = [] := List.eq_nil_of_length_eq_zero (evEs_len hm hs ev)
    subst hz
    have hxx : is = .nil := by cases is <;> first | rfl | simp [mEs] at hm
    subst hxx
    simp only [evEs, Out.ok.injEq, true_and] at ev
    subst ev
    obtain ⟨hl, hsp⟩ := kk [] F ρ H p.ext0 p (show Reps W F ρ H [] [] from by simp [Reps])
    exact PySem.W.callWith_K0 I.kIn h2 (run_x (us := []) h5 G.room G.guards h3 (hx σ) I .nil hl hsp)
  | cons e es =>
    simp only [noStar, List.all_cons, Bool.and_eq_true] at hs
    refine ⟨fun pins s σ H Q I q => ?_⟩
    refine wpAny_Call_Name_kw (ld_glob I hgl h1 ?_ (notDbg_of hd).1)
    refine PySem.W.callWith_K (h₀ := X.base) I.ok.mod.kin h2 (thn (ha.run pos pins s σ H _ I (go q)) fun us s1 ⟨vs, H1, I1, r, hl, hsp⟩ => ⟨I1.kIn, ?_⟩) (star_of hs.1) (plain_of hs.2)
    exact run_x h5 G.room G.guards h3 (hx σ) I1 r hl hsp
/-- one of two -/
theorem L_iteX {c a b : E} {ec ea eb : Expr} {pos : Pos} {m : Md} {EX : L2.St → XK} (hc : PT X ec (tT W cl fl c)) (ha : PE X ea (tXE W cl fl m a EX)) (hb : PE X eb (tXE W cl fl m b EX)) (hm : m = .e ∨ m = .f) : PE X (.IfExp ec ea eb pos) (tXE W cl fl m (.ite c a b) EX) := by
  refine pe_mono (pe_ifExp hc ha hb) fun σ H Q q => ?_
  obtain ⟨F, ρ, τ, h, rel, p, q⟩ := q
  have key : ∀ {o : Out PV}, evC cl (.ite c a b) τ h = o → o ≠ .bad → (∃ h1, evE cl c τ h = .ok (.bl true) h1 ∧ evC cl a τ h1 = o) ∨ (∃ h1, evE cl c τ h = .ok (.bl false) h1 ∧ evC cl b τ h1 = o) := fun {o} e n => by
    unfold evC at e
    split at e
    · exact .inl ⟨_, by assumption, e⟩
    · exact .inr ⟨_, by assumption, e⟩
    · exact absurd e.symm n
  have up : ∀ {F' : AS} {ρ' : List Addr} {H' : Hp} {F2 : AS} {ρ2 : List Addr} {H2 : Hp} {t : PV} {v : V}, Ext F ρ H F' ρ' H' → Rm m W F2 ρ2 H' H2 t v → Rm m W F2 ρ2 H H2 t v := fun {F' ρ' H' F2 ρ2 H2 t v} x r => by
    rcases hm with rfl | rfl
    · exact r
    · exact ⟨r.1, fun a m e => x.nn (r.2 a m e)⟩
  rcases q with ⟨t, h', ev, kk⟩ | ⟨cc, pl, h', ev, kk⟩
  · rcases key ev (by intro z; cases z) with ⟨h1, e1, e2⟩ | ⟨h1, e1, e2⟩
    · refine ⟨F, ρ, τ, h, true, h1, rel, p, e1, fun F' ρ' H' ex p' => ?_⟩
      refine iteT (A := tXE W cl fl m a EX σ H' Q) ?_
      exact ⟨F', ρ', τ, h1, rel.ext ex p', p', .inl ⟨t, h', e2, fun w F2 ρ2 H2 ex2 p2 r2 => kk w F2 ρ2 H2 (ex.trans ex2) p2 (up ex r2)⟩⟩
    · refine ⟨F, ρ, τ, h, false, h1, rel, p, e1, fun F' ρ' H' ex p' => ?_⟩
      refine iteF (B := tXE W cl fl m b EX σ H' Q) ?_
      exact ⟨F', ρ', τ, h1, rel.ext ex p', p', .inl ⟨t, h', e2, fun w F2 ρ2 H2 ex2 p2 r2 => kk w F2 ρ2 H2 (ex.trans ex2) p2 (up ex r2)⟩⟩
  · rcases key ev (by intro z; cases z) with ⟨h1, e1, e2⟩ | ⟨h1, e1, e2⟩
    · refine ⟨F, ρ, τ, h, true, h1, rel, p, e1, fun F' ρ' H' ex p' => ?_⟩
      refine iteT (A := tXE W cl fl m a EX σ H' Q) ?_
      exact ⟨F', ρ', τ, h1, rel.ext ex p', p', .inr ⟨cc, pl, h', e2, fun A sup F2 ρ2 H2 hxx ex2 p2 => kk A sup F2 ρ2 H2 hxx (ex.trans ex2) p2⟩⟩
    · refine ⟨F, ρ, τ, h, false, h1, rel, p, e1, fun F' ρ' H' ex p' => ?_⟩
      refine iteF (B := tXE W cl fl m b EX σ H' Q) ?_
      exact ⟨F', ρ', τ, h1, rel.ext ex p', p', .inr ⟨cc, pl, h', e2, fun A sup F2 ρ2 H2 hxx ex2 p2 => kk A sup F2 ρ2 H2 hxx (ex.trans ex2) p2⟩⟩
end
/-! ### statements of such a def -/
def tX (W : Wd) (F₀ : AS) (ρ₀ : List Addr) (H₀ : Hp) (rm : Md) (EX : XK) (fl out : List Nat) (run : Sl → Hs → Out Fl) : TS := fun D σ H => ∃ F ρ τ h, StR W F₀ ρ₀ H₀ fl τ h F ρ σ H ∧
  ((∃ r h', run τ h = .ok r h' ∧ SPost W F₀ ρ₀ H₀ rm [] out F ρ H D r h') ∨
   (∃ c p h', run τ h = .exc c p h' ∧ ∀ A sup F' ρ' H', W.xc c = some (A, sup) → Ext F₀ ρ₀ H₀ F' ρ' H' → Hps W F' ρ' H' h' → EX (.ref A) none H'))
/-- what the kernel must know of an own class of errors -/
structure ClsK (K : PySem.W.Frag) (A : Addr) : Prop where
  ex : PySem.W.excIn K A [.type "ValueError", .type "Exception", .type "BaseException", .type "object"] "ValueError.__new__" = true
  kp : PySem.W.keepIn K (.ref A) = true
  sb : PySem.W.subIn K (.ref A) (.type "BaseException") = some true
  ty : PySem.W.typeIn K (.ref A) = some (.type "type")
  ec : ExcC K A
section
variable {W : Wd} {cl : CL} {fl out : List Nat} {X : Cx} {rm : Md} {F₀ : AS} {ρ₀ : List Addr} {H₀ : Hp} {EX : XK}
theorem X_nil : PSs X [] (tX W F₀ ρ₀ H₀ rm EX fl fl (evSs cl .nil)) := by
  refine pss_mono pss_nil fun D σ H q => ?_
  obtain ⟨F, ρ, τ, h, st, q⟩ := q
  rcases q with ⟨r, h', ev, post⟩ | ⟨c, p, h', ev, _⟩
  · simp only [evSs, Out.ok.injEq] at ev
    obtain ⟨rfl, rfl⟩ := ev
    exact post F ρ σ H Stay.refl st
  · simp [evSs] at ev
theorem X_cons {s : S} {ss : Ss} {st : Stmt} {rest : List Stmt} {mid : List Nat} (h1 : PS X st (tX W F₀ ρ₀ H₀ rm EX fl mid (evS cl s))) (h2 : PSs X rest (tX W F₀ ρ₀ H₀ rm EX mid out (evSs cl ss))) :
    PSs X (st :: rest) (tX W F₀ ρ₀ H₀ rm EX fl out (evSs cl (.cons s ss))) := by
  refine pss_mono (pss_cons h1 h2) fun D σ H q => ?_
  obtain ⟨F, ρ, τ, h, st, q⟩ := q
  rcases q with ⟨r, h', ev, post⟩ | ⟨c, p, h', ev, post⟩
  · simp only [evSs] at ev
    obtain ⟨f, h1, e1, e2⟩ := bind_ok ev
    refine ⟨F, ρ, τ, h, st, .inl ⟨f, h1, e1, ?_⟩⟩
    cases f with
    | nx τ1 => exact fun F ρ σ H sy st1 => ⟨F, ρ, τ1, h1, st1, .inl ⟨r, h', e2, post.pre sy⟩⟩
    | bk τ1 => cases e2; exact post
    | ct τ1 => cases e2; exact post
    | rt t => cases e2; exact post
  · simp only [evSs] at ev
    cases e1 : evS cl s τ h with
    | bad => rw [e1] at ev; cases ev
    | exc c1 p1 h1 =>
      rw [e1] at ev
      simp only [Out.bind_exc, Out.exc.injEq] at ev
      obtain ⟨rfl, rfl, rfl⟩ := ev
      exact ⟨F, ρ, τ, h, st, .inr ⟨c1, p1, h1, e1, post⟩⟩
    | ok f h1 =>
      rw [e1, Out.bind_ok] at ev
      refine ⟨F, ρ, τ, h, st, .inl ⟨f, h1, e1, ?_⟩⟩
      cases f with
      | nx τ1 => exact fun F ρ σ H sy st1 => ⟨F, ρ, τ1, h1, st1, .inr ⟨c, p, h', ev, post⟩⟩
      | bk τ1 => cases ev
      | ct τ1 => cases ev
      | rt t => cases ev
theorem X_st {s : S} {st : Stmt} (h : PS X st (tS W F₀ ρ₀ H₀ rm [] fl out (evS cl s))) : PS X st (tX W F₀ ρ₀ H₀ rm EX fl out (evS cl (.xst s))) := by
  refine ps_mono h fun D σ H q => ?_
  obtain ⟨F, ρ, τ, h, st, q⟩ := q
  rcases q with ⟨r, h', ev, post⟩ | ⟨c, p, h', ev, _⟩
  · simp only [evS] at ev
    cases e : evS cl s τ h with
    | ok f g => rw [e] at ev; cases ev; exact ⟨F, ρ, τ, h, r, h', st, e, post⟩
    | bad => rw [e] at ev; cases ev
    | exc _ _ _ => rw [e] at ev; cases ev
  · simp only [evS] at ev
    cases e : evS cl s τ h <;> (rw [e] at ev; cases ev)
theorem X_raise {c : Nat} {A : Addr} {sup : List Nat} {x m : Str} {j : Nat} {p p2 pc pos : Pos} (hc : X.calm = true) (tk : Takes X (fun cls d _ H => EX cls d H)) (hA : W.xc c = some (A, sup)) (hm : X.mg x = some (.ref A)) (hg : Gl X x) (hd : (x == ("__debug__" : Str)) = false) (ck : ClsK X.K A) :
    PS X (.Raise (some (.Call (.Name x p) [.Constant (.str m) j p2] [] pc)) none pos) (tX W F₀ ρ₀ H₀ rm EX fl out (evS cl (.xraise c))) := by
  refine ps_mono (ps_raise hc tk (pmk_own PySem.F.excBase_ValueError ck.ex hm ck.kp (raises_own ck.sb ck.ty) hg hd)) fun D σ H q => ?_
  obtain ⟨F, ρ, τ, h, st, q⟩ := q
  rcases q with ⟨r, h', ev, post⟩ | ⟨c', pl, h', ev, post⟩
  · simp [evS] at ev
  · simp only [evS, Out.exc.injEq] at ev
    obtain ⟨rfl, rfl, rfl⟩ := ev
    exact post A sup F ρ H hA st.ext st.hps
theorem X_if {c : E} {a b : Ss} {ec : Expr} {sa sb : List Stmt} {pos : Pos} {o1 o2 : List Nat} (hc : PT X ec (tT W cl fl c)) (ha : PSs X sa (tX W F₀ ρ₀ H₀ rm EX fl o1 (evSs cl a))) (hb : PSs X sb (tX W F₀ ρ₀ H₀ rm EX fl o2 (evSs cl b)))
    (h1 : ∀ i, i ∈ out → i ∈ o1) (h2 : ∀ i, i ∈ out → i ∈ o2) : PS X (.If ec sa sb pos) (tX W F₀ ρ₀ H₀ rm EX fl out (evS cl (.xiff c a b))) := by
  refine ps_mono (ps_if hc ha hb) fun D σ H q => ?_
  obtain ⟨F, ρ, τ, h, st, q⟩ := q
  have key : ∀ {o : Out Fl}, evS cl (.xiff c a b) τ h = o → o ≠ .bad → (∃ h1, evE cl c τ h = .ok (.bl true) h1 ∧ evSs cl a τ h1 = o) ∨ (∃ h1, evE cl c τ h = .ok (.bl false) h1 ∧ evSs cl b τ h1 = o) := fun {o} e n => by
    simp only [evS] at e
    split at e
    · exact .inl ⟨_, by assumption, e⟩
    · exact .inr ⟨_, by assumption, e⟩
    · exact absurd e.symm n
  rcases q with ⟨r, h', ev, post⟩ | ⟨c', pl, h', ev, post⟩
  · have wk : ∀ {o : List Nat}, (∀ i, i ∈ out → i ∈ o) → SPost W F₀ ρ₀ H₀ rm [] o F ρ H D r h' := fun {o} hs => by
      cases r with
      | nx τ1 => exact fun F ρ σ H sy st1 => let ⟨F', sy2, st2⟩ := st1.sub hs; post F' ρ σ H (sy.trans sy2) st2
      | bk τ1 => exact post
      | ct τ1 => exact post
      | rt t => exact post
    rcases key ev (by intro z; cases z) with ⟨hh, e1, e2⟩ | ⟨hh, e1, e2⟩
    · refine ⟨F, ρ, τ, h, true, hh, st.rel, st.hps, e1, fun F' ρ' H' x p => ?_⟩
      simp only [if_true]
      exact ⟨F', ρ', τ, hh, st.expr x p, .inl ⟨r, h', e2, (wk h1).pre x.stay⟩⟩
    · refine ⟨F, ρ, τ, h, false, hh, st.rel, st.hps, e1, fun F' ρ' H' x p => ?_⟩
      simp only [Bool.false_eq_true, if_false]
      exact ⟨F', ρ', τ, hh, st.expr x p, .inl ⟨r, h', e2, (wk h2).pre x.stay⟩⟩
  · rcases key ev (by intro z; cases z) with ⟨hh, e1, e2⟩ | ⟨hh, e1, e2⟩
    · refine ⟨F, ρ, τ, h, true, hh, st.rel, st.hps, e1, fun F' ρ' H' x p => ?_⟩
      simp only [if_true]
      exact ⟨F', ρ', τ, hh, st.expr x p, .inr ⟨c', pl, h', e2, post⟩⟩
    · refine ⟨F, ρ, τ, h, false, hh, st.rel, st.hps, e1, fun F' ρ' H' x p => ?_⟩
      simp only [Bool.false_eq_true, if_false]
      exact ⟨F', ρ', τ, hh, st.expr x p, .inr ⟨c', pl, h', e2, post⟩⟩
theorem X_expr {e : E} {ee : Expr} {pos : Pos} {m : Md} (he : PE X ee (tXE W cl fl m e fun _ => EX)) (hs : swapsWith ee none pos.line X.env = pure false) : PS X (.Expr ee pos) (tX W F₀ ρ₀ H₀ rm EX fl fl (evS cl (.xexp e))) := by
  refine ps_mono (ps_expr he hs) fun D σ H q => ?_
  obtain ⟨F, ρ, τ, h, st, q⟩ := q
  rcases q with ⟨r, h', ev, post⟩ | ⟨c, p, h', ev, post⟩
  · simp only [evS] at ev
    obtain ⟨v, h1, e1, e2⟩ := bind_ok ev
    simp only [Out.ok.injEq] at e2
    obtain ⟨rfl, rfl⟩ := e2
    exact ⟨F, ρ, τ, h, st.rel, st.hps, .inl ⟨v, _, e1, fun w F' ρ' H' x p rmv => post F' ρ' σ H' x.stay (st.expr x p)⟩⟩
  · simp only [evS] at ev
    cases e1 : evC cl e τ h with
    | ok v h1 => rw [e1] at ev; cases ev
    | bad => rw [e1] at ev; cases ev
    | exc c1 p1 h1 =>
      rw [e1] at ev
      simp only [Out.bind_exc, Out.exc.injEq] at ev
      obtain ⟨rfl, rfl, rfl⟩ := ev
      exact ⟨F, ρ, τ, h, st.rel, st.hps, .inr ⟨c1, p1, h1, e1, fun A sup F' ρ' H' hA x p => post A sup F' ρ' H' hA (st.ext.trans x) p⟩⟩
theorem X_ret {e : E} {ee : Expr} {pos : Pos} (hm : rm = .e ∨ rm = .f) (he : PE X ee (tXE W cl fl rm e fun _ => EX)) : PS X (.Return (some ee) pos) (tX W F₀ ρ₀ H₀ rm EX fl out (evS cl (.xret e))) := by
  refine ps_mono (ps_ret he) fun D σ H q => ?_
  obtain ⟨F, ρ, τ, h, st, q⟩ := q
  rcases q with ⟨r, h', ev, post⟩ | ⟨c, p, h', ev, post⟩
  · simp only [evS] at ev
    obtain ⟨v, h1, e1, e2⟩ := bind_ok ev
    simp only [Out.ok.injEq] at e2
    obtain ⟨rfl, rfl⟩ := e2
    refine ⟨F, ρ, τ, h, st.rel, st.hps, .inl ⟨v, _, e1, fun w F' ρ' H' x p rmv => post w F' ρ' H' (st.ext.trans x) p ?_⟩⟩
    rcases hm with rfl | rfl
    · exact rmv
    · exact ⟨rmv.1, fun a m e => st.ext.nn (rmv.2 a m e)⟩
  · simp only [evS] at ev
    cases e1 : evC cl e τ h with
    | ok v h1 => rw [e1] at ev; cases ev
    | bad => rw [e1] at ev; cases ev
    | exc c1 p1 h1 =>
      rw [e1] at ev
      simp only [Out.bind_exc, Out.exc.injEq] at ev
      obtain ⟨rfl, rfl, rfl⟩ := ev
      exact ⟨F, ρ, τ, h, st.rel, st.hps, .inr ⟨c1, p1, h1, e1, fun A sup F' ρ' H' hA x p => post A sup F' ρ' H' hA (st.ext.trans x) p⟩⟩
end
/-! ### try: name = f(..) except C as n: name = 'u' if isinstance(n, D) else 'v' -/
theorem without2 {fl : List Nat} {i : Nat} {l : List Nat} (h : i ∈ l) : ∀ j, j ∈ without fl l → j ∈ without fl [i] := fun j hj => by
  have := mem_withouts.mp hj
  refine mem_withouts.mpr ⟨this.1, fun z => this.2 ?_⟩
  rw [List.mem_singleton.mp z]; exact h
section
variable {W : Wd} {F₀ F : AS} {ρ₀ ρ : List Addr} {H₀ H : Hp} {h : Hs} {fl : List Nat} {τ : Sl} {σ : L2.St}
theorem StR.unset (r : StR W F₀ ρ₀ H₀ fl τ h F ρ σ H) (x : Nat) : StR W F₀ ρ₀ H₀ (without fl [x]) (τ.set x none) h F ρ (σ.set x none) H := by
  refine ⟨r.rel.none x, r.hps, r.ext, fun j u a hj e m es => ?_⟩
  have hj' := mem_withouts.mp hj
  simp only [List.mem_singleton] at hj'
  have e' : getS τ j = some u := by
    unfold getS at e ⊢
    rw [List.getElem?_set_ne (Ne.symm hj'.2)] at e
    exact e
  rw [List.getElem?_set_ne (Ne.symm hj'.2)] at es
  exact r.own j u a hj'.1 e' m es
end
theorem GoodE.tr {W : Wd} {C : TC} {cl : CL} {fr : Nat → Bool} {np : Nat → Nat} {k : Nat} {X : Cx} {sc : Scope} (G : GoodE W C cl fr np k X sc) (pn : List (Addr × Obj)) (xe : Value → Shared → Prop) : GoodE W C cl fr np k (X.tr pn xe) sc where
  N := G.N
  scope := G.scope
  nd := G.nd
  calm := G.calm
  K := G.K
  w := G.w
  fnc := G.fnc
  guards := G.guards
  room := G.room
  fns := G.fns
  cons := G.cons
  free := G.free
theorem takesN {X : Cx} : Takes X (fun _ _ _ _ => False) := fun _ _ ⟨_, _, _, _, _, _, _, _, _, _, _, _, _, _, _, _, w⟩ => w.elim
/-- the suite's reading -/
def tSu (K : PySem.W.Frag) (x j : Nat) (Cd : Addr) (u v : Str) (a : Addr) (cls : Value) (d : Option Addr) : TS := fun D σ H => ∃ A b, cls = .ref A ∧ d = none ∧ ExcC K A ∧ PySem.W.kitOne K (.ref A) (.ref Cd) = some b ∧ σ[x]? = some (some (.ref a)) ∧ D.nx (σ.set j (some (.str (if b then u else v)))) H
theorem suite_ok {X : Cx} {x j : Nat} {Cd a : Addr} {oe : Obj} {cls : Value} {d : Option Addr} {pn : List (Addr × Obj)} {z n dN : Str} {u v : Str} {pi pn2 pd pq pu pv pf pz pb : Pos} {ku kv : Nat} (hN : X.N.Nodup) (hx : X.N[x]? = some n) (hj : X.N[j]? = some z) (hz : Loc X.env.scope z)
    (hf : X.env.scope.names.lookup z = some .local) (hv : Vis X.env.scope n) (hd1 : notDbg n = true) (gI : Gl X "isinstance") (mI : X.mg "isinstance" = none) (gD : Gl X dN) (mD : X.mg dN = some (.ref Cd)) (hd2 : notDbg dN = true) (hz1 : Zc cls d oe) (hz2 : ∃ vs, oe.data = .fields vs) :
    PSs (X.suite a ((a, oe) :: pn)) [.Assign [.Name z pz] (.IfExp (.Call (.Name "isinstance" pi) [.Name n pn2, .Name dN pd] [] pq) (.Constant (.str u) ku pu) (.Constant (.str v) kv pv) pf) pb] (tSu X.K x j Cd u v a cls d) := by
  refine ⟨fun pins s σ H D I q => ?_⟩
  obtain ⟨A, b, rfl, rfl, ec, kit, hs, hq⟩ := q
  have d1 := notDbg_of hd1
  have d2 := notDbg_of hd2
  have pI : PE (X.suite a ((a, oe) :: pn)) (.Call (.Name "isinstance" pi) [.Name n pn2, .Name dN pd] [] pq) _ :=
    pe_callB (call_isE (X := X) (a := a) (pn := pn) ec hz1 hz2) gI mI PyProof.Rows.boot_isinstance (pa_cons (pe_var hx hv d1.1 d1.2.1) (pa_cons (pe_glob (v := .ref Cd) gD mD rfl d2.1) pa_nil))
  have st := pss_one (ps_set (X := X.suite a ((a, oe) :: pn)) (pos := pb) (pos' := pz) hN hj hz (pe_ifExp (pos := pf) (pt_val pI) (pe_str (x := u) (j := ku) (pos := pu)) (pe_str (x := v) (j := kv) (pos := pv))) rfl (.inr hf))
  refine st.run pins s σ H D I ?_
  refine ⟨.ref a, hs, ⟨.ref Cd, .ref Cd, b, rfl, fun w hw => hw, kit, b, rfl, ?_⟩⟩
  cases b <;> exact hq
/-- what try tells -/
theorem S_try1 {W : Wd} {cl : CL} {fl lp : List Nat} {X : Cx} {C : TC} {fr : Nat → Bool} {np : Nat → Nat} {k : Nat} {sc : Scope} {rm : Md} {F₀ : AS} {ρ₀ : List Addr} {H₀ : Hp} {i f x j c d : Nat} {is : Es} {cs ds : List Nat} {Cc Cd : Addr} {y z n cN dN g : Str} {u v : Str} {es : List Expr}
    {pt pg pc pa pi pn2 pd pq pu pv pf pz pb np1 pos' pos : Pos} {ku kv : Nat}
    (G : GoodE W C cl fr np k X sc) (hs : X.stack = X.env :: X.outer) (hf : X.env.frame = some X.env.locals) (hi : X.N[i]? = some y) (hx : X.N[x]? = some n) (hj : X.N[j]? = some z) (hy : Loc X.env.scope y) (hz : Loc X.env.scope z)
    (ly : X.env.scope.names.lookup y = some .local) (lz : X.env.scope.names.lookup z = some .local) (ln : X.env.kindOf n = some .local) (hv : Vis X.env.scope n) (hd1 : notDbg n = true) (xj : j ≠ x)
    (gI : Gl X "isinstance") (mI : X.mg "isinstance" = none) (gC : Gl X cN) (mC : X.mg cN = some (.ref Cc)) (hdc : notDbg cN = true) (gD : Gl X dN) (mD : X.mg dN = some (.ref Cd)) (hd2 : notDbg dN = true)
    (fx : ∃ a fd ps, X.mg g = some (.ref a) ∧ PySem.W.keepIn X.K (.ref a) = true ∧ Binds X.K fd ps [] ∧ ps.length = np f ∧ FnX X.prog X.w X.K X.mg X.base k a fd ps (spX W cl fr f)) (frf : fr f = false)
    (hg : isGl sc g = true) (hdg : notDbg g = true) (ha : ∀ pn xe, PA (X.tr pn xe) es (tEs W cl fl .e is)) (hst : noStar es = true) (hn : es.length = np f) (hm : mEs C is sc es = true)
    (exm : ∀ c' A sup, W.xc c' = some (A, sup) → ExcC X.K A ∧ PySem.W.exmOne X.K (.ref A) (.ref Cc) = some (cs.contains c') ∧ PySem.W.kitOne X.K (.ref A) (.ref Cd) = some (ds.contains c')) :
    PS X (.Try [.Assign [.Name y pt] (.Call (.Name g pg) es [] pc) pa] [.ExceptHandler (some (.Name cN np1)) (some n) [.Assign [.Name z pz] (.IfExp (.Call (.Name "isinstance" pi) [.Name n pn2, .Name dN pd] [] pq) (.Constant (.str u) ku pu) (.Constant (.str v) kv pv) pf) pb] pos'] [] [] pos)
      (tS W F₀ ρ₀ H₀ rm lp fl (without fl [i, j, x]) (evS cl (.try1 i f is c cs x j d ds (.str u) (.str v)))) := by
  have d1 := notDbg_of hdc
  have body : ∀ (W' : WX) (pn : List (Addr × Obj)) (xe : Value → Shared → Prop), Takes (X.tr pn xe) W' → PassesOwn (model X.prog X.w) X.A X.env xe → PSs (X.tr pn xe) [.Assign [.Name y pt] (.Call (.Name g pg) es [] pc) pa] (tAsg (tXE W cl fl .e (.call f is) (WE W')) (gName i)) := fun W' pn xe tk _ => by
    have call := L_callX (X := X.tr pn xe) (pp := pg) (pos := pc) (EX := WE W') (G.tr pn xe) fx (fun σ => passAt tk σ) hg hdg (ha pn xe) hst hn hm
    rw [frf] at call
    exact pss_one (ps_set (X := X.tr pn xe) (pos := pa) (pos' := pt) (by show X.N.Nodup; rw [G.N]; exact G.nd) hi hy call rfl (.inr ly))
  refine ⟨fun pins s σ H D I q => PS.run (ps_try_as (i := x) (c := .ref Cc) (ts := tSu X.K x j Cd u v) (Wout := fun _ _ _ _ => False) hs hf (by rw [G.N]; exact G.nd) hx ln ⟨gC, d1.1, .inl mC⟩ takesN (tb := fun W' => tAsg (tXE W cl fl .e (.call f is) (WE W')) (gName i)) body
    (fun a oe cls d' pn h1 h2 => suite_ok (by rw [G.N]; exact G.nd) hx hj hz lz hv hd1 gI mI gD mD hd2 h1 h2)) pins s σ H D I ?_⟩
  obtain ⟨F, ρ, τ, h, r, h', st, ev, post⟩ := q
  simp only [evS] at ev
  split at ev
  rotate_left
  · cases ev
  rename_i xs h1 e1
  have evc : evC cl (.call f is) τ h = cl f xs h1 := by unfold evC; rw [e1]
  split at ev
  · rename_i w h2 e2
    simp only [Out.ok.injEq] at ev
    obtain ⟨rfl, rfl⟩ := ev
    refine ⟨F, ρ, τ, h, st.rel, st.hps, .inl ⟨w, h2, evc.trans e2, fun vv F' ρ' H' ex p' rmv => ?_⟩⟩
    have s1 := (st.expr ex p').set (i := i) (show Rep W F' ρ' H' w vv from rmv)
    obtain ⟨F2, sy, s2⟩ := s1.sub (fl' := without fl [i, j, x]) (without2 (by simp))
    exact post F2 ρ' _ H' (ex.stay.trans sy) s2
  · rename_i c' pl h2 e2
    split at ev
    rotate_left
    · cases ev
    rename_i hc
    simp only [Out.ok.injEq] at ev
    obtain ⟨rfl, rfl⟩ := ev
    refine ⟨F, ρ, τ, h, st.rel, st.hps, .inr ⟨c', pl, h2, evc.trans e2, fun A sup F' ρ' H' hA ex p' => ?_⟩⟩
    obtain ⟨ec, k1, k2⟩ := exm c' A sup hA
    rw [hc] at k1
    refine ⟨true, k1, fun _ a na => ⟨A, ds.contains c', rfl, rfl, ec, k2, ?_, ?_⟩, fun z => by cases z⟩
    · have hl : x < σ.length := by
        rw [I.len]
        exact (List.getElem?_eq_some_iff.mp hx).1
      rw [List.getElem?_set_self hl]
    · have e3 : ((σ.set x (some (.ref a))).set j (some (.str (if ds.contains c' = true then u else v)))).set x none = (σ.set j (some (.str (if ds.contains c' = true then u else v)))).set x none := by
        rw [List.set_comm _ _ xj.symm, List.set_set]
      show D.nx (((σ.set x (some (.ref a))).set j (some (.str (if ds.contains c' = true then u else v)))).set x none) H'
      rw [e3]
      have s1 := ((st.expr ex p').set (i := j) (t := .str (if ds.contains c' = true then u else v)) (v := .str (if ds.contains c' = true then u else v)) (by simp only [Rep])).unset x
      have eq : (if ds.contains c' = true then PV.str u else PV.str v) = PV.str (if ds.contains c' = true then u else v) := by split <;> rfl
      rw [eq] at post
      obtain ⟨F2, sy, s2⟩ := s1.sub (fl' := without fl [i, j, x]) (fun q hq => by
        have := mem_withouts.mp hq
        simp only [List.mem_cons, List.not_mem_nil, or_false, not_or] at this
        exact mem_withouts.mpr ⟨mem_withouts.mpr ⟨this.1, by simpa using this.2.2.1⟩, by simpa using this.2.2.2⟩)
      exact post F2 ρ' _ H' (ex.stay.trans sy) s2
  · cases ev
end MP

set_option Elab.async false
set_option linter.all false
set_option maxRecDepth 100000
set_option maxHeartbeats 1000000
namespace MP
open PySem PySem.Spec PyProof.Rows L2

/-! ### which statement stands for which term -/
def isComp : Expr → Bool
  | .ListComp .. => true
  | .SetComp .. => true
  | .DictComp .. => true
  | _ => false
/-- name = [..], the name a local, on one line: the list is stored at once -/
def swapC (sc : Scope) (tg e : Expr) : Bool := match tg, e with
  | .Name t p, .ListComp _ _ s q => decide (sc.names.lookup t = some .local) && (p.line == q.line) && !(s.names.any fun (n, k) => n == t && (k == .local || k == .cell))
  | _, _ => false
def swapD (sc : Scope) (tg e : Expr) : Bool := match tg, e with
  | .Name t p, .DictComp _ _ _ s q => decide (sc.names.lookup t = some .local) && (p.line == q.line) && !(s.names.any fun (n, k) => n == t && (k == .local || k == .cell))
  | _, _ => false
def isDictC : Expr → Bool
  | .DictComp .. => true
  | _ => false
def muOk : Mu → Str → Bool
  | .append, n => decide (n = ("append" : Str))
  | .insert, n => decide (n = ("insert" : Str))
  | .extend, n => decide (n = ("extend" : Str))
  | .reverse, _ => false
def isListC : Expr → Bool
  | .ListComp .. => true
  | _ => false
def isNameE : Expr → Bool
  | .Name .. => true
  | _ => false
def foldC : Expr → Bool
  | .Tuple vs _ _ => vs.all (foldedForSure 8)
  | _ => false
def noSwap (sc : Scope) (tg e : Expr) : Bool := !isComp e || (isListC e && !swapC sc tg e) || (isDictC e && !swapD sc tg e)
def subset (a b : List Nat) : Bool := a.all fun i => b.contains i
def inter (a b : List Nat) : List Nat := a.filter fun i => b.contains i
theorem subset_ok {a b : List Nat} (h : subset a b = true) : ∀ i, i ∈ a → i ∈ b := fun i hi => by simpa using List.all_eq_true.mp h i hi
theorem inter_l {a b : List Nat} : ∀ i, i ∈ inter a b → i ∈ a := fun i hi => (List.mem_filter.mp hi).1
theorem inter_r {a b : List Nat} : ∀ i, i ∈ inter a b → i ∈ b := fun i hi => by simpa using (List.mem_filter.mp hi).2
mutual
/-- the names that are handed on as values (b: the top may be a name) -/
def escE (b : Bool) : E → List Nat
  | .var i => if b then [] else [i]
  | .con _ => []
  | .bin op x y => (match op with
    | .Add => escE true x ++ escE true y
    | .Mult => escE true x ++ escE true y
    | _ => escE false x ++ escE false y)
  | .neg a => escE false a
  | .not a => escE false a
  | .cmp _ x y => escE true x ++ escE true y
  | .chain _ _ x y z => escE true x ++ escE true y ++ escE true z
  | .and x y => escE false x ++ escE false y
  | .or x y => escE false x ++ escE false y
  | .ite c x y => escE false c ++ escE false x ++ escE false y
  | .tup es => escEs false es
  | .lst es => escEs false es
  | .shr es => escEs false es
  | .dnew => []
  | .idx x y => escE true x ++ escE false y
  | .slc x lo hi => escE true x ++ escE false lo ++ escE false hi
  | .rev x => escE true x
  | .bi _ es => escEs true es
  | .call _ es => escEs false es
  | .callv _ es => escEs false es
  | .meth _ x es => escE true x ++ escEs false es
  | .isin x _ => escE true x
  | .listOf i => escI i
  | .tupOf i => escI i
  | .fld x _ => escE true x
  | .comp _ elt _ i c => escI i ++ escE false elt ++ escE false c
  | .comp2 _ elt _ i _ j => escI i ++ escJ j ++ escE false elt
  | .dcomp _ x y _ i => escI i ++ escE false x ++ escE false y
def escEs (b : Bool) : Es → List Nat
  | .nil => []
  | .cons e es => escE b e ++ escEs b es
  | .star e es => escE true e ++ escEs b es
def escI : I → List Nat
  | .it e => escE true e
  | .range es => escEs false es
  | .enum e => escE true e
  | .zip es => escEs true es
  | .rev e => escE true e
def escJ : I → List Nat
  | .it e => escE false e
  | .range es => escEs false es
  | .enum e => escE false e
  | .zip es => escEs false es
  | .rev e => escE false e
end
def escS : S → List Nat
  | .asg _ e => escE false e
  | .par _ es => escEs false es
  | .setI i k e => without (escE false k ++ escE false e) [i]
  | .setR _ k e => escE false k ++ escE false e
  | .swap i a b c d => without (escE false a ++ escE false b ++ escE false c ++ escE false d) [i]
  | .mut _ i es => without (escEs false es) [i]
  | .expr e => escE false e
  | .iff c _ _ => escE false c
  | _ => []
def retV (rf : Bool) (fl : List Nat) : E → Bool
  | .var i => rf && fl.contains i
  | _ => false
/-- a, b = x, y on one line, both names local: CPython swaps on its stack -/
def parC (C : TC) (sc : Scope) (i j : Nat) (x y : Str) (px py : Pos) (a b : Expr) : Bool :=
  decide (C.N[i]? = some x) && decide (C.N[j]? = some y) && decide (sc.names.lookup x = some .local) && decide (sc.names.lookup y = some .local) && (py.line == px.line) && decide (x ≠ y) && notStar a && notStar b
    && !([a, b].all (foldedForSure 8)) && !([a, b].all (constantsAlone 8))
/-- a, b = x, y where one name is no plain local: by a tuple -/
def parC3 (C : TC) (sc : Scope) (i j l : Nat) (x y z : Str) (px py pz : Pos) (a b c : Expr) : Bool :=
  (decide (C.N[i]? = some x) && decide (C.N[j]? = some y) && decide (C.N[l]? = some z)) && (decide (sc.names.lookup x = some .local) && decide (sc.names.lookup y = some .local) && decide (sc.names.lookup z = some .local)) && ((py.line == px.line) && (pz.line == px.line))
    && (decide (x ≠ y) && decide (x ≠ z) && decide (y ≠ z)) && (notStar a && notStar b && notStar c) && (!([a, b, c].all (foldedForSure 8)) && !([a, b, c].all (constantsAlone 8)))
def parT3 (C : TC) (sc : Scope) (i j l : Nat) (x y z : Str) (px py pz : Pos) (a b c : Expr) : Bool :=
  (mTg C sc (.v i) (.Name x px) && mTg C sc (.v j) (.Name y py) && mTg C sc (.v l) (.Name z pz)) && (notStar a && notStar b && notStar c) && (!decide (sc.names.lookup x = some .local) || !decide (sc.names.lookup y = some .local) || !decide (sc.names.lookup z = some .local))
def parT (C : TC) (sc : Scope) (i j : Nat) (x y : Str) (px py : Pos) (a b : Expr) : Bool :=
  mTg C sc (.v i) (.Name x px) && mTg C sc (.v j) (.Name y py) && notStar a && notStar b && (!decide (sc.names.lookup x = some .local) || !decide (sc.names.lookup y = some .local))
def clsIs (gl : List (Str × GV)) (x : Str) (c : Nat) : Bool := match glook gl x with
  | some (.cls c' _) => decide (c' = c)
  | _ => false
def clsAll (gl : List (Str × GV)) (cs : List Nat) (c : Nat) : Bool := gl.all fun p => match p.2 with
  | .cls c' sup => cs.contains c' == sup.contains c
  | _ => true
def strIs : PV → Str → Bool
  | .str a, b => decide (a = b)
  | _, _ => false
def locIs (sc : Scope) (x : Str) : Bool := decide (sc.names.lookup x = some .local)
section
variable (C : TC) (fr : Nat → Bool) (np : Nat → Nat) (xs : Nat → Bool) (rf : Bool)
mutual
def mS (lp fl : List Nat) : S → Scope → Stmt → Option (List Nat)
  | .asg t e, sc, st => (match st with
    | .Assign [tg] ee _ => if mTg C sc t tg && mE C e sc ee && (!isTupE ee || foldC ee || isNameE tg) && (noSwap sc tg ee || (swapC sc tg ee || swapD sc tg ee)) then (match t with
        | .v i => if okM fr np .f fl e then some (i :: without fl [i]) else if okM fr np .e fl e then some (without fl [i]) else none
        | .t _ => if okM fr np .e fl e then some (without fl (tgS t)) else none) else none
    | _ => none)
  | .par is es, sc, st => (match is, es, st with
    | [i, j], .cons e1 (.cons e2 .nil), .Assign [.Tuple [.Name x px, .Name y py] _ _] (.Tuple [a, b] _ _) _ =>
      if decide (i ≠ j) && parC C sc i j x y px py a b && mE C e1 sc a && mE C e2 sc b && okM fr np (rmOf (okM fr np .f fl e1)) fl e1 && okM fr np (rmOf (okM fr np .f fl e2)) fl e2
      then some (stO (okM fr np .f fl e2) (stO (okM fr np .f fl e1) fl i) j) else if decide (i ≠ j) && parT C sc i j x y px py a b && mE C e1 sc a && mE C e2 sc b && okM fr np (rmOf (okM fr np .f fl e1)) fl e1 && okM fr np (rmOf (okM fr np .f fl e2)) fl e2
      then some (stO (okM fr np .f fl e2) (stO (okM fr np .f fl e1) fl i) j) else none
    | [i, j, l], .cons e1 (.cons e2 (.cons e3 .nil)), .Assign [.Tuple [.Name x px, .Name y py, .Name z pz] _ _] (.Tuple [a, b, c] _ _) _ =>
      if ((decide (i ≠ j) && decide (i ≠ l) && decide (j ≠ l)) && (mE C e1 sc a && mE C e2 sc b && mE C e3 sc c)) && (okM fr np (rmOf (okM fr np .f fl e1)) fl e1 && okM fr np (rmOf (okM fr np .f fl e2)) fl e2 && okM fr np (rmOf (okM fr np .f fl e3)) fl e3)
      then (if parC3 C sc i j l x y z px py pz a b c || parT3 C sc i j l x y z px py pz a b c then some (stO (okM fr np .f fl e3) (stO (okM fr np .f fl e2) (stO (okM fr np .f fl e1) fl i) j) l) else none) else none
    | _, _, _ => none)
  | .setI i k e, sc, st => (match st with
    | .Assign [.Subscript (.Name x _) ek _] ee _ => if fl.contains i && nmOk C sc i x && mE C k sc ek && mE C e sc ee && okM fr np .e fl k && okM fr np .e fl e && plainIxE ek then some fl else none
    | _ => none)
  | .setR i k e, sc, st => (match st with
    | .Assign [.Subscript (.Name x _) ek _] ee _ => if nmOk C sc i x && mE C k sc ek && mE C e sc ee && okM fr np .e fl k && okM fr np .e fl e && plainIxE ek then some fl else none
    | _ => none)
  | .swap i a b c d, sc, st => (match st with
    | .Assign [.Tuple [.Subscript (.Name x _) ea _, .Subscript (.Name y _) eb _] _ _] ee _ => if fl.contains i && nmOk C sc i x && nmOk C sc i y && mE C a sc ea && mE C b sc eb && mE C (.tup (.cons (.idx (.var i) c) (.cons (.idx (.var i) d) .nil))) sc ee
        && okM fr np .e fl a && okM fr np .e fl b && okM fr np .e fl (.tup (.cons (.idx (.var i) c) (.cons (.idx (.var i) d) .nil))) && plainIxE ea && plainIxE eb && !isComp ee then some fl else none
    | _ => none)
  | .setF .., _, _ => none
  | .mut m i es, sc, st => (match m, st with
    | m, .Expr (.Call (.Attribute (.Name x _) n ap) xs [] cp) _ => if muOk m n && fl.contains i && nmOk C sc i x && mEs C es sc xs && okEs fr np .e fl es && noStar xs && !xs.isEmpty && decide (xs.length < 20) && (ap.endLine == cp.line) then some fl else none
    | _, _ => none)
  | .expr e, sc, st => (match st with
    | .Expr ee _ => if mE C e sc ee && okM fr np .e fl e && !isComp ee then some fl else none
    | _ => none)
  | .ret e, sc, st => (match st with
    | .Return (some ee) _ => if retV rf fl e && mE C e sc ee then some (List.range C.N.length) else if mE C e sc ee && okM fr np (rmOf rf) fl e then some (List.range C.N.length) else if mE C e sc ee && okM fr np (rmOf rf) [] e then some (List.range C.N.length) else none
    | _ => none)
  | .iff c a b, sc, st => (match st with
    | .If ec sa sb _ => if mE C c sc ec && okT fr np fl c then (match mSs lp fl a sc sa, mSs lp fl b sc sb with
        | some o1, some o2 => some (inter o1 o2)
        | _, _ => none) else none
    | _ => none)
  | .whl inv c b, sc, st => (match st with
    | .While ec sb [] _ => if mE C c sc ec && okT fr np inv c && subset inv fl then (match mSs inv inv b sc sb with
        | some o => if subset inv o then some inv else none
        | none => none) else none
    | _ => none)
  | .forr inv t i b, sc, st => (match st with
    | .For tg it sb [] _ => if mTg C sc t tg && mI C i sc it && okI fr np .e inv i && (!needT i || isTgT t) && subset inv fl then (match mSs inv (without inv (tgS t)) b sc sb with
        | some o => if subset inv o then some inv else none
        | none => none) else none
    | _ => none)
  | .pass, _, st => (match st with
    | .Pass _ => some fl
    | _ => none)
  | .brk, _, st => (match st with
    | .Break _ => if subset lp fl then some (List.range C.N.length) else none
    | _ => none)
  | .cnt, _, st => (match st with
    | .Continue _ => if subset lp fl then some (List.range C.N.length) else none
    | _ => none)
  | .raise _ _, _, _ => some (List.range C.N.length)
  | .tryy .., _, _ => none
  | .xst _, _, _ => none
  | .xraise _, _, _ => none
  | .xexp _, _, _ => none
  | .xret _, _, _ => none
  | .xiff .., _, _ => none
  | .try1 i f es c cs x j d ds u v, sc, st => (match st with
    | .Try [.Assign [.Name y _] ce _] [.ExceptHandler (some (.Name cN _)) (some n) [.Assign [.Name z _] (.IfExp (.Call (.Name iN _) [.Name n2 _, .Name dN _] [] _) (.Constant (.str u') _ _) (.Constant (.str v') _ _) _) _] _] [] [] _ =>
      if (nmOk C sc i y && nmOk C sc x n && nmOk C sc j z && locIs sc y && locIs sc z && locIs sc n) && (decide (j ≠ x) && decide (n2 = n) && blt C sc iN "isinstance" && isGl sc cN && notDbg cN && clsIs C.gl cN c && isGl sc dN && notDbg dN && clsIs C.gl dN d)
        && (strIs u u' && strIs v v' && xs f && !fr f && mE C (.call f es) sc ce && okEs fr np .e fl es && (esLen es == np f) && clsAll C.gl cs c && clsAll C.gl ds d) then some (without fl [i, j, x]) else none
    | _ => none)
def mSs (lp fl : List Nat) : Ss → Scope → List Stmt → Option (List Nat)
  | .nil, _, sts => if sts.isEmpty then some fl else none
  | .cons s ss, sc, sts => (match sts with
    | st :: r => (match mS lp fl s sc st with
      | some o => mSs lp o ss sc r
      | none => if (escS s).isEmpty then none else (match mS lp (without fl (escS s)) s sc st with
        | some o => mSs lp o ss sc r
        | none => none))
    | [] => none)
end
end
structure GoodS (W : Wd) (C : TC) (cl : CL) (fr : Nat → Bool) (np : Nat → Nat) (k : Nat) (X : Cx) (sc : Scope) : Prop extends GoodE W C cl fr np k X sc where
  hp : PassesOwn (model X.prog X.w) X.A X.env X.xe
  sceq : X.env.scope = sc
  fnk : sc.kind = .function
  hstk : X.stack = X.env :: X.outer
  hfrm : X.env.frame = some X.env.locals
  fnx : ∀ x f, glook C.gl x = some (.fn f) → W.xs f = true → ∃ a fd ps, X.mg x = some (.ref a) ∧ PySem.W.keepIn X.K (.ref a) = true ∧ Binds X.K fd ps [] ∧ ps.length = np f ∧ FnX X.prog X.w X.K X.mg X.base k a fd ps (spX W cl fr f)
  cls : ∀ x c sup, glook C.gl x = some (.cls c sup) → ∃ A, W.xc c = some (A, sup) ∧ X.mg x = some (.ref A)
  clk : ∀ c A sup, W.xc c = some (A, sup) → ClsK X.K A ∧ ∃ x, (x, GV.cls c sup) ∈ C.gl
  sub : ∀ c A sup d B sup', W.xc c = some (A, sup) → W.xc d = some (B, sup') → PySem.W.exmOne X.K (.ref A) (.ref B) = some (sup.contains d) ∧ PySem.W.kitOne X.K (.ref A) (.ref B) = some (sup.contains d)
theorem swap_no {e : Expr} {t : Option Expr} {n : Nat} {env : Env} (h : isComp e = false) : swapsWith e t n env = pure false := by
  cases e <;> first | rfl | simp [isComp] at h
theorem swap_sub {e a b : Expr} {p : Pos} {n : Nat} {env : Env} : swapsWithSole [.Subscript a b p] e n env = pure false := by cases e <;> rfl
theorem swap_sole {e tg : Expr} {n : Nat} {env : Env} (h : isComp e = false) : swapsWithSole [tg] e n env = pure false := swap_no h
theorem stores_no {e tg : Expr} {env : Env} (h : isTupE e = false) : swappedStores [tg] e env = pure none := by
  unfold swappedStores
  cases e <;> first | (simp [isTupE] at h; done) | (cases tg <;> rfl)
theorem stores_fold {e tg : Expr} {env : Env} (h : foldC e = true) : swappedStores [tg] e env = pure none := by
  cases e <;> simp only [foldC, Bool.false_eq_true] at h
  rename_i vs k p
  unfold swappedStores
  cases tg <;> first | rfl | skip
  all_goals
    simp only
    split
    · rfl
    · split
      · rfl
      · split
        · rfl
        · simp only [h, if_true]
theorem stores_name {e tg : Expr} {env : Env} (h : isNameE tg = true) : swappedStores [tg] e env = pure none := by
  cases tg <;> simp only [isNameE, Bool.false_eq_true] at h
  unfold swappedStores
  rfl
theorem stores_subs (ee : Expr) {a b c d : Expr} {p q : Pos} {k : Nat} {r : Pos} {env : Env} : swappedStores [.Tuple [.Subscript a b p, .Subscript c d q] k r] ee env = pure none := by
  unfold swappedStores
  cases ee <;> first | rfl | skip
  simp only [List.filterMap_cons, List.filterMap_nil, List.length_nil, List.length_cons]
  split
  · rfl
  · split
    · rfl
    · rfl
theorem stores_no2 {e tg : Expr} {env : Env} (h : (isTupE e = false ∨ foldC e = true) ∨ isNameE tg = true) : swappedStores [tg] e env = pure none := h.elim (fun h => h.elim stores_no stores_fold) stores_name
theorem each1 {tg : Expr} {env : Env} {C : TC} {sc : Scope} {t : Tg} (h : mTg C sc t tg = true) : (assignEach [tg] env).map (·.2) = [assign tg env] := by
  cases t <;> (cases tg <;> first | rfl | simp [mTg] at h)
section
variable {W : Wd} {cl : CL} {C : TC} {fr : Nat → Bool} {np : Nat → Nat} {k : Nat} {rf : Bool} {F₀ : AS} {ρ₀ : List Addr} {H₀ : Hp}
theorem swapC_yes {X : Cx} {sc : Scope} {tg e : Expr} {n : Nat} (G : GoodS W C cl fr np k X sc) (h : swapC sc tg e = true) : ∃ t p el gs s q, tg = .Name t p ∧ e = .ListComp el gs s q ∧ swapsWith e (some tg) n X.env = pure true ∧ sc.names.lookup t = some .local := by
  unfold swapC at h
  split at h <;> try contradiction
  rename_i t p el gs s q
  simp only [Bool.and_eq_true, decide_eq_true_eq, Bool.not_eq_true'] at h
  obtain ⟨⟨h1, h2⟩, h3⟩ := h
  refine ⟨t, p, el, gs, s, q, rfl, rfl, ?_, h1⟩
  have b1 : X.env.blockKind = .function := by
    unfold Env.blockKind
    rw [G.sceq, G.fnk]
    rfl
  have b2 : X.env.kindOf t = some .local := by
    unfold Env.kindOf
    rw [G.sceq]
    exact h1
  have b3 : (Expr.ListComp el gs s q).pos = q := rfl
  unfold swapsWith
  simp only [b1, b2, b3, h2, h3]
  rfl
theorem swapD_yes {X : Cx} {sc : Scope} {tg e : Expr} {n : Nat} (G : GoodS W C cl fr np k X sc) (h : swapD sc tg e = true) : ∃ t p ek el gs s q, tg = .Name t p ∧ e = .DictComp ek el gs s q ∧ swapsWith e (some tg) n X.env = pure true ∧ sc.names.lookup t = some .local := by
  unfold swapD at h
  split at h <;> try contradiction
  rename_i t p ek el gs s q
  simp only [Bool.and_eq_true, decide_eq_true_eq, Bool.not_eq_true'] at h
  obtain ⟨⟨h1, h2⟩, h3⟩ := h
  refine ⟨t, p, ek, el, gs, s, q, rfl, rfl, ?_, h1⟩
  have b1 : X.env.blockKind = .function := by
    unfold Env.blockKind
    rw [G.sceq, G.fnk]
    rfl
  have b2 : X.env.kindOf t = some .local := by
    unfold Env.kindOf
    rw [G.sceq]
    exact h1
  have b3 : (Expr.DictComp ek el gs s q).pos = q := rfl
  unfold swapsWith
  simp only [b1, b2, b3, h2, h3]
  rfl
theorem swap_no2 {X : Cx} {sc : Scope} {tg e : Expr} {n : Nat} (G : GoodS W C cl fr np k X sc) (h : noSwap sc tg e = true) : swapsWith e (some tg) n X.env = pure false := by
  simp only [noSwap, Bool.or_eq_true, Bool.and_eq_true, Bool.not_eq_true'] at h
  rcases h with (h | ⟨h, h2⟩) | ⟨h, h2⟩
  · exact swap_no h
  rotate_left
  · cases e <;> simp only [isDictC, Bool.false_eq_true] at h
    rename_i ek el gs s q
    cases tg <;> try rfl
    rename_i t p
    have b1 : X.env.blockKind = .function := by
      unfold Env.blockKind
      rw [G.sceq, G.fnk]
      rfl
    have b2 : X.env.kindOf t = sc.names.lookup t := by
      unfold Env.kindOf
      rw [G.sceq]
    have b3 : (Expr.DictComp ek el gs s q).pos = q := rfl
    have b4 : (ScopeKind.function == ScopeKind.function && sc.names.lookup t == some .local && p.line == q.line && !(s.names.any fun (n, k) => n == t && (k == .local || k == .cell))) = false := by
      rw [← h2]
      unfold swapD
      simp only [beq_self_eq_true, Bool.true_and]
      congr 2
      by_cases z : sc.names.lookup t = some .local
      · simp [z]
      · simp only [z, decide_false]; exact beq_eq_false_iff_ne.mpr z
    unfold swapsWith
    simp only [b1, b2, b3]
    show (pure (ScopeKind.function == ScopeKind.function && sc.names.lookup t == some .local && p.line == q.line && !(s.names.any fun (n, k) => n == t && (k == .local || k == .cell))) : Sem Bool) = pure false
    rw [b4]
  · cases e <;> simp only [isListC, Bool.false_eq_true] at h
    rename_i el gs s q
    cases tg <;> try rfl
    rename_i t p
    have b1 : X.env.blockKind = .function := by
      unfold Env.blockKind
      rw [G.sceq, G.fnk]
      rfl
    have b2 : X.env.kindOf t = sc.names.lookup t := by
      unfold Env.kindOf
      rw [G.sceq]
    have b3 : (Expr.ListComp el gs s q).pos = q := rfl
    have b4 : (ScopeKind.function == ScopeKind.function && sc.names.lookup t == some .local && p.line == q.line && !(s.names.any fun (n, k) => n == t && (k == .local || k == .cell))) = false := by
      rw [← h2]
      unfold swapC
      simp only [beq_self_eq_true, Bool.true_and]
      congr 2
      by_cases z : sc.names.lookup t = some .local
      · simp [z]
      · simp only [z, decide_false]; exact beq_eq_false_iff_ne.mpr z
    unfold swapsWith
    simp only [b1, b2, b3]
    show (pure (ScopeKind.function == ScopeKind.function && sc.names.lookup t == some .local && p.line == q.line && !(s.names.any fun (n, k) => n == t && (k == .local || k == .cell))) : Sem Bool) = pure false
    rw [b4]
theorem S_comp {X : Cx} {sc : Scope} {lp fl : List Nat} {i : Nat} {e : E} {tg ee : Expr} {pos : Pos} (G : GoodS W C cl fr np k X sc) (h1 : mTg C sc (.v i) tg = true) (h2 : mE C e sc ee = true) (hs : swapC sc tg ee = true) (o : okM fr np .f fl e = true) :
    PS X (.Assign [tg] ee pos) (tS W F₀ ρ₀ H₀ (rmOf rf) lp fl (i :: without fl [i]) (evS cl (.asg (.v i) e))) := by
  obtain ⟨t, p, el, gs, s, q, rfl, rfl, hsw, hl⟩ := swapC_yes (n := pos.line) G hs
  simp only [mTg, Bool.and_eq_true, decide_eq_true_eq] at h1
  cases e <;> first | (simp [mE] at h2; done) | (simp [okM] at o; done) | skip
  · rename_i f es
    cases f <;> simp [mE] at h2
  · rename_i own elt tt it c
    unfold mE at h2
    simp only [okM, Bool.and_eq_true, Bool.or_eq_true, Bool.not_eq_true'] at o
    split at h2 <;> try contradiction
    rename_i x tg2 ie ifs aa s2 pos2 heq
    cases heq
    simp only [Bool.and_eq_true, decide_eq_true_eq] at h2
    obtain ⟨⟨⟨⟨⟨⟨rfl, k1⟩, k2⟩, k3⟩, k4⟩, k5⟩, k6⟩ := h2
    have hb : BlkOk X.N X.env.scope s (owned C own) := by rw [G.N]; exact MP.BlkOk.sc G.scope (blkOk_by k1)
    have hsub : ∀ j ∈ tgS tt, j ∈ own := fun j hj => by simpa using List.all_eq_true.mp k5 j hj
    refine S_asgC G.calm (by rw [G.N]; exact G.nd) (by rw [G.N]; exact h1.1.1) (G.scope.loc _ hl) hsw (mainI it .b fl X sc tg2 ie G.toGoodE k2 o.1.1.1 (Or.inr rfl) fun hn => ?_) hb owned_map (fun s' H D cc fp => pg_M (G.toGoodE.blk s s' H D cc fp).toGood tt (without fl own) tg2 k3) (fun s' H D cc fp => ?_)
      (fun s' H D cc fp => mainE elt .e (without fl own) _ s _ (G.toGoodE.blk s s' H D cc fp) k4 o.1.1.2) hsub (mI_notSet k2)
    · rcases o.2 with z | z
      · rw [hn] at z; cases z
      · exact mTg_tup k3 z
    · split at k6
      · exact pts_true k6
      · exact pts_one (mainT c (without fl own) _ s _ (G.toGoodE.blk s s' H D cc fp) k6 o.1.2)
      · cases k6
  · rename_i own elt tt it t2 it2
    unfold mE at h2
    simp only [okM, Bool.and_eq_true, Bool.or_eq_true, Bool.not_eq_true'] at o
    split at h2 <;> try contradiction
    rename_i x tg2 ie aa tg3 ie3 a2 s2 pos2 heq
    cases heq
    simp only [Bool.and_eq_true, decide_eq_true_eq] at h2
    obtain ⟨⟨⟨⟨⟨⟨⟨⟨⟨rfl, rfl⟩, k1⟩, k2⟩, k3⟩, k4⟩, k5⟩, k6⟩, k7⟩, k8⟩ := h2
    obtain ⟨⟨⟨⟨o1, o2⟩, o3⟩, o4⟩, o5⟩ := o
    have hb : BlkOk X.N X.env.scope s (owned C own) := by rw [G.N]; exact MP.BlkOk.sc G.scope (blkOk_by k1)
    have hsub : ∀ j ∈ tgS tt, j ∈ own := fun j hj => by simpa using List.all_eq_true.mp k7 j hj
    have hsub2 : ∀ j ∈ tgS t2, j ∈ own := fun j hj => by simpa using List.all_eq_true.mp k8 j hj
    refine S_asgC2 G.calm (by rw [G.N]; exact G.nd) (by rw [G.N]; exact h1.1.1) (G.scope.loc _ hl) hsw (mainI it .b fl X sc tg2 ie G.toGoodE k2 o1 (Or.inr rfl) fun hn => ?_) hb owned_map (fun s' H D cc fp => pg_M (G.toGoodE.blk s s' H D cc fp).toGood tt (without fl own) tg2 k3) (fun s' H D cc fp => pts_true rfl)
      (fun s' H D cc fp => mainI it2 .e (without fl own) _ s tg3 ie3 (G.toGoodE.blk s s' H D cc fp) k5 o3 (Or.inl rfl) fun hn => ?_) (fun s' H D cc fp => pg_M (G.toGoodE.blk s s' H D cc fp).toGood t2 (without fl own) tg3 k6)
      (fun s' H D cc fp => mainE elt .e (without fl own) _ s _ (G.toGoodE.blk s s' H D cc fp) k4 o2) hsub hsub2 (mI_notSet k2) (mI_notSet k5)
    · rcases o4 with z | z
      · rw [hn] at z; cases z
      · exact mTg_tup k3 z
    · rcases o5 with z | z
      · rw [hn] at z; cases z
      · exact mTg_tup k6 z
theorem S_dcomp {X : Cx} {sc : Scope} {lp fl : List Nat} {i : Nat} {e : E} {tg ee : Expr} {pos : Pos} (G : GoodS W C cl fr np k X sc) (h1 : mTg C sc (.v i) tg = true) (h2 : mE C e sc ee = true) (hs : swapD sc tg ee = true) (o : okM fr np .f fl e = true) :
    PS X (.Assign [tg] ee pos) (tS W F₀ ρ₀ H₀ (rmOf rf) lp fl (i :: without fl [i]) (evS cl (.asg (.v i) e))) := by
  obtain ⟨t, p, ek, el, gs, s, q, rfl, rfl, hsw, hl⟩ := swapD_yes (n := pos.line) G hs
  simp only [mTg, Bool.and_eq_true, decide_eq_true_eq] at h1
  cases e <;> first | (simp [mE] at h2; done) | (simp [okM] at o; done) | skip
  · rename_i f es
    cases f <;> simp [mE] at h2
  · rename_i own kk vv tt it
    unfold mE at h2
    simp only [okM, Bool.and_eq_true, Bool.or_eq_true, Bool.not_eq_true'] at o
    split at h2 <;> try contradiction
    rename_i x y tg2 ie aa s2 pos2 heq
    cases heq
    simp only [Bool.and_eq_true, decide_eq_true_eq] at h2
    obtain ⟨⟨⟨⟨⟨⟨rfl, k1⟩, k2⟩, k3⟩, k4⟩, k5⟩, k6⟩ := h2
    obtain ⟨⟨⟨o1, o2⟩, o3⟩, o4⟩ := o
    have hb : BlkOk X.N X.env.scope s (owned C own) := by rw [G.N]; exact MP.BlkOk.sc G.scope (blkOk_by k1)
    have hsub : ∀ j ∈ tgS tt, j ∈ own := fun j hj => by simpa using List.all_eq_true.mp k6 j hj
    have hu := G.toGoodE.units
    refine S_asgD G.calm (by omega) G.K G.w (by rw [G.N]; exact G.nd) (by rw [G.N]; exact h1.1.1) (G.scope.loc _ hl) hsw (mainI it .b fl X sc tg2 ie G.toGoodE k2 o1 (Or.inr rfl) fun hn => ?_) hb owned_map (fun s' H D cc fp => pg_M (G.toGoodE.blk s s' H D cc fp).toGood tt (without fl own) tg2 k3)
      (fun s' H D cc fp => mainE kk .e (without fl own) _ s _ (G.toGoodE.blk s s' H D cc fp) k4 o2) (fun s' H D cc fp => mainE vv .e (without fl own) _ s _ (G.toGoodE.blk s s' H D cc fp) k5 o3) hsub (mI_notSet k2)
    rcases o4 with z | z
    · rw [hn] at z; cases z
    · exact mTg_tup k3 z
theorem pg_nm {X : Cx} {sc : Scope} {i : Nat} {x : Str} {px : Pos} (G : Good W C X sc) (h : mTg C sc (.v i) (.Name x px) = true) : PG X (.Name x px) (gName i) := by
  simp only [mTg, Bool.and_eq_true, decide_eq_true_eq] at h
  obtain ⟨⟨h1, h2⟩, _⟩ := h
  have hl := isLC_of h2
  refine pg_name (i := i) (by rw [G.N]; exact G.nd) (by rw [G.N]; exact h1) (G.scope.locs hl) ?_
  rcases hl with hl | hl
  · exact .inr (G.scope.loc _ hl)
  · exact .inl (G.fnc x hl)
theorem stores_cell {X : Cx} {sc : Scope} {x y : Str} {px py : Pos} {a b : Expr} {kt pt k2 pt2} (G : GoodS W C cl fr np k X sc) (h : (!decide (sc.names.lookup x = some .local) || !decide (sc.names.lookup y = some .local)) = true) :
    swappedStores [.Tuple [.Name x px, .Name y py] kt pt] (.Tuple [a, b] k2 pt2) X.env = pure none := by
  have b2 : ∀ z, X.env.kindOf z = sc.names.lookup z := fun z => by
    unfold Env.kindOf
    rw [G.sceq]
  have few : ([Expr.Name x px, Expr.Name y py].filterMap fun
      | .Name id pos => if X.env.kindOf id == some .local && pos.line == px.line then some id else none
      | _ => none).length ≠ 2 := by
    simp only [List.filterMap_cons, List.filterMap_nil, b2]
    rw [Bool.or_eq_true, Bool.not_eq_true', Bool.not_eq_true', decide_eq_false_iff_not, decide_eq_false_iff_not] at h
    rcases h with h | h
    · have e : (sc.names.lookup x == some .local) = false := beq_eq_false_iff_ne.mpr h
      rw [e]
      simp only [Bool.false_and, Bool.false_eq_true, if_false]
      split <;> simp
    · have e : (sc.names.lookup y == some .local) = false := beq_eq_false_iff_ne.mpr h
      rw [e]
      simp only [Bool.false_and, Bool.false_eq_true, if_false]
      split <;> simp
  unfold swappedStores
  simp only
  split
  · rfl
  · split
    · rfl
    · split
      · rfl
      · rename_i z
        exfalso
        simp only [Bool.or_eq_true, not_or] at z
        exact z.1 (by simp only [bne_iff_ne, ne_eq]; exact few)
theorem stores_two {X : Cx} {sc : Scope} {i j : Nat} {x y : Str} {px py : Pos} {a b : Expr} {kt pt k2 pt2} (G : GoodS W C cl fr np k X sc) (h : parC C sc i j x y px py a b = true) :
    swappedStores [.Tuple [.Name x px, .Name y py] kt pt] (.Tuple [a, b] k2 pt2) X.env = pure (some [x, y]) := by
  simp only [parC, Bool.and_eq_true, decide_eq_true_eq, Bool.not_eq_true', beq_iff_eq] at h
  obtain ⟨⟨⟨⟨⟨⟨⟨⟨⟨h1, h2⟩, h3⟩, h4⟩, h5⟩, h6⟩, h7⟩, h8⟩, h9⟩, h10⟩ := h
  have b1 : X.env.blockKind = .function := by
    unfold Env.blockKind
    rw [G.sceq, G.fnk]
    rfl
  have b2 : X.env.kindOf x = some .local := by
    unfold Env.kindOf
    rw [G.sceq]
    exact h3
  have b3 : X.env.kindOf y = some .local := by
    unfold Env.kindOf
    rw [G.sceq]
    exact h4
  have b5 : ([x, y] : List Str).eraseDups.length = 2 := by
    simp [List.eraseDups_cons, Ne.symm h6, h6]
  have q1 : (Expr.Name x px).pos = px := rfl
  unfold swappedStores
  simp only [b1, h9, h10, List.filterMap_cons, List.filterMap_nil, b2, b3, List.head?_cons, Option.map_some, Option.getD_some, q1, h5, beq_self_eq_true, Bool.and_self, if_true, b5]
  refine Eq.trans (if_neg (fun z => by cases z)) (Eq.trans (if_neg (fun z => ?_)) rfl)
  obtain ⟨u, hu, hm⟩ := List.any_eq_true.mp z
  rcases List.mem_cons.mp hu with rfl | hu
  · cases u <;> first | (cases hm; done) | simp [notStar] at h7
  · rcases List.mem_cons.mp hu with rfl | hu
    · cases u <;> first | (cases hm; done) | simp [notStar] at h8
    · cases hu
theorem stores_three {X : Cx} {sc : Scope} {i j l : Nat} {x y z : Str} {px py pz : Pos} {a b c : Expr} {kt pt k2 pt2} (G : GoodS W C cl fr np k X sc) (h : parC3 C sc i j l x y z px py pz a b c = true) :
    swappedStores [.Tuple [.Name x px, .Name y py, .Name z pz] kt pt] (.Tuple [a, b, c] k2 pt2) X.env = pure (some [x, y, z]) := by
  simp only [parC3, Bool.and_eq_true, decide_eq_true_eq, Bool.not_eq_true', beq_iff_eq] at h
  obtain ⟨⟨⟨⟨⟨⟨⟨_, _⟩, _⟩, ⟨⟨l1, l2⟩, l3⟩⟩, ⟨p1, p2⟩⟩, ⟨⟨n1, n2⟩, n3⟩⟩, ⟨⟨s1, s2⟩, s3⟩⟩, ⟨f1, f2⟩⟩ := h
  have b1 : X.env.blockKind = .function := by
    unfold Env.blockKind
    rw [G.sceq, G.fnk]
    rfl
  have kk : ∀ {w : Str}, sc.names.lookup w = some .local → X.env.kindOf w = some .local := fun {w} e => by
    unfold Env.kindOf
    rw [G.sceq]
    exact e
  have b5 : ([x, y, z] : List Str).eraseDups.length = 3 := by
    simp [List.eraseDups_cons, Ne.symm n1, n1, Ne.symm n2, n2, Ne.symm n3, n3]
  have q1 : (Expr.Name x px).pos = px := rfl
  unfold swappedStores
  simp only [b1, f1, f2, List.filterMap_cons, List.filterMap_nil, kk l1, kk l2, kk l3, List.head?_cons, Option.map_some, Option.getD_some, q1, p1, p2, beq_self_eq_true, Bool.and_self, if_true, b5]
  refine Eq.trans (if_neg (fun z => by cases z)) (Eq.trans (if_neg (fun zz => ?_)) rfl)
  obtain ⟨u, hu, hm⟩ := List.any_eq_true.mp zz
  simp only [List.mem_cons, List.not_mem_nil, or_false] at hu
  rcases hu with rfl | rfl | rfl
  · cases u <;> first | (cases hm; done) | simp [notStar] at s1
  · cases u <;> first | (cases hm; done) | simp [notStar] at s2
  · cases u <;> first | (cases hm; done) | simp [notStar] at s3
theorem stores_cell3 {X : Cx} {sc : Scope} {x y z : Str} {px py pz : Pos} {a b c : Expr} {kt pt k2 pt2} (G : GoodS W C cl fr np k X sc) (h : (!decide (sc.names.lookup x = some .local) || !decide (sc.names.lookup y = some .local) || !decide (sc.names.lookup z = some .local)) = true) :
    swappedStores [.Tuple [.Name x px, .Name y py, .Name z pz] kt pt] (.Tuple [a, b, c] k2 pt2) X.env = pure none := by
  have b2 : ∀ z, X.env.kindOf z = sc.names.lookup z := fun z => by
    unfold Env.kindOf
    rw [G.sceq]
  have few : ([Expr.Name x px, Expr.Name y py, Expr.Name z pz].filterMap fun
      | .Name id pos => if X.env.kindOf id == some .local && pos.line == px.line then some id else none
      | _ => none).length ≠ 3 := by
    have ne : ∀ w, sc.names.lookup w ≠ some .local → (sc.names.lookup w == some .local) = false := fun w h => beq_eq_false_iff_ne.mpr h
    simp only [List.filterMap_cons, List.filterMap_nil, b2]
    rw [Bool.or_eq_true, Bool.or_eq_true, Bool.not_eq_true', Bool.not_eq_true', Bool.not_eq_true', decide_eq_false_iff_not, decide_eq_false_iff_not, decide_eq_false_iff_not] at h
    rcases h with (h | h) | h
    · rw [ne x h]
      simp only [Bool.false_and, Bool.false_eq_true, if_false]
      split <;> split <;> simp
    · rw [ne y h]
      simp only [Bool.false_and, Bool.false_eq_true, if_false]
      split <;> split <;> simp
    · rw [ne z h]
      simp only [Bool.false_and, Bool.false_eq_true, if_false]
      split <;> split <;> simp
  unfold swappedStores
  simp only
  split
  · rfl
  · split
    · rfl
    · split
      · rfl
      · rename_i zz
        exfalso
        simp only [Bool.or_eq_true, not_or] at zz
        exact zz.1 (by simp only [bne_iff_ne, ne_eq]; exact few)
theorem S_sub {X : Cx} {rm : Md} {lp fl fl' out : List Nat} {ev : Sl → Hs → Out Fl} {st : Stmt} (hs : ∀ i, i ∈ fl' → i ∈ fl) (p : PS X st (tS W F₀ ρ₀ H₀ rm lp fl' out ev)) : PS X st (tS W F₀ ρ₀ H₀ rm lp fl out ev) := by
  refine ps_mono p fun D σ H q => ?_
  obtain ⟨F, ρ, τ, h, r, h', st, ev, post⟩ := q
  obtain ⟨F', y, st'⟩ := st.sub hs
  exact ⟨F', ρ, τ, h, r, h', st', ev, post.pre y⟩
/-- an own name is handed back -/
theorem S_retv {X : Cx} {lp fl out : List Nat} {i : Nat} {x : Str} {p pos : Pos} (hi : i ∈ fl) (hN : X.N[i]? = some x) (hv : Vis X.env.scope x) (hd : (x == ("__debug__" : Str)) = false) (hcd : (x == ("__classdict__" : Str)) = false) :
    PS X (.Return (some (.Name x p)) pos) (tS W F₀ ρ₀ H₀ .f lp fl out (evS cl (.ret (.var i)))) := by
  refine ps_mono (ps_ret (pe_var hN hv hd hcd)) fun D σ H q => ?_
  obtain ⟨F, ρ, τ, h, r, h', st, ev, post⟩ := q
  simp only [evS, evE] at ev
  obtain ⟨v, h1, e1, e2⟩ := bind_ok ev
  obtain ⟨q0, rfl⟩ := of_ok e1
  simp only [Out.ok.injEq] at e2
  obtain ⟨rfl, rfl⟩ := e2
  obtain ⟨w, hw, _, o⟩ := st.rel.slot i v q0
  exact ⟨w, hw, post w F ρ H st.ext st.hps ⟨o hi, fun a m e => st.own i v a hi q0 m (by rw [hw, e])⟩⟩
theorem S_raise {X : Cx} {lp fl out : List Nat} {c : Nat} {e : E} {st : Stmt} : PS X st (tS W F₀ ρ₀ H₀ (rmOf rf) lp fl out (evS cl (.raise c e))) := by
  refine ⟨fun pins s σ H D I q => ?_⟩
  obtain ⟨F, ρ, τ, h, r, h', st, ev, post⟩ := q
  simp only [evS] at ev
  obtain ⟨v, g, e1, e2⟩ := bind_ok ev
  cases e2
theorem clsIs_ok {gl : List (Str × GV)} {x : Str} {c : Nat} (h : clsIs gl x c = true) : ∃ sup, glook gl x = some (.cls c sup) := by
  unfold clsIs at h
  split at h
  · rename_i c' sup e
    exact ⟨sup, by rw [e, of_decide_eq_true h]⟩
  · cases h
theorem clsAll_ok {gl : List (Str × GV)} {cs : List Nat} {c c' : Nat} {sup : List Nat} {x : Str} (h : clsAll gl cs c = true) (m : (x, GV.cls c' sup) ∈ gl) : cs.contains c' = sup.contains c := by
  have := List.all_eq_true.mp h _ m
  simpa using this
theorem strIs_ok {a : PV} {b : Str} (h : strIs a b = true) : a = .str b := by
  unfold strIs at h
  split at h
  · rw [of_decide_eq_true h]
  · cases h
theorem try_case {X : Cx} {sc : Scope} {lp fl : List Nat} {i f x j c d : Nat} {es : Es} {cs ds : List Nat} {u v : PV} {y z n n2 cN dN iN : Str} {u' v' : Str} {ce : Expr} {pt pa pi pn2 pd pq pu pv pf pz pb np1 pos' pos : Pos} {ku kv : Nat} (G : GoodS W C cl fr np k X sc)
    (a1 : nmOk C sc i y = true) (a2 : nmOk C sc x n = true) (a3 : nmOk C sc j z = true) (a4 : locIs sc y = true) (a5 : locIs sc z = true) (a6 : locIs sc n = true) (b1 : j ≠ x) (b2 : n2 = n) (b3 : blt C sc iN "isinstance" = true) (b4 : isGl sc cN = true) (b5 : notDbg cN = true) (b6 : clsIs C.gl cN c = true)
    (b7 : isGl sc dN = true) (b8 : notDbg dN = true) (b9 : clsIs C.gl dN d = true) (c1 : strIs u u' = true) (c2 : strIs v v' = true) (c3 : W.xs f = true) (c4 : fr f = false) (c5 : mE C (.call f es) sc ce = true) (c6 : okEs fr np .e fl es = true) (c7 : (esLen es == np f) = true) (c8 : clsAll C.gl cs c = true) (c9 : clsAll C.gl ds d = true) :
    PS X (.Try [.Assign [.Name y pt] ce pa] [.ExceptHandler (some (.Name cN np1)) (some n) [.Assign [.Name z pz] (.IfExp (.Call (.Name iN pi) [.Name n2 pn2, .Name dN pd] [] pq) (.Constant (.str u') ku pu) (.Constant (.str v') kv pv) pf) pb] pos'] [] [] pos)
      (tS W F₀ ρ₀ H₀ (rmOf rf) lp fl (without fl [i, j, x]) (evS cl (.try1 i f es c cs x j d ds u v))) := by
  subst b2
  cases strIs_ok c1
  cases strIs_ok c2
  obtain ⟨g, pg, xs', pc, rfl, h1, h2, h3, h4, h5⟩ := mE_call c5
  obtain ⟨n1, _, _, _⟩ := G.toGoodE.nm a1
  obtain ⟨m1, m2, m3, m4⟩ := G.toGoodE.nm a2
  obtain ⟨o1, _, _, _⟩ := G.toGoodE.nm a3
  simp only [locIs, decide_eq_true_eq] at a4 a5 a6
  simp only [blt, Bool.and_eq_true, decide_eq_true_eq] at b3
  obtain ⟨⟨⟨rfl, i1⟩, i2⟩, i3⟩ := b3
  obtain ⟨supc, e1⟩ := clsIs_ok b6
  obtain ⟨supd, e2⟩ := clsIs_ok b9
  obtain ⟨Cc, x1, g1⟩ := G.cls _ _ _ e1
  obtain ⟨Cd, x2, g2⟩ := G.cls _ _ _ e2
  have lo : ∀ {w : Str}, sc.names.lookup w = some .local → X.env.kindOf w = some .local := fun {w} e => by
    unfold Env.kindOf
    rw [G.sceq]
    exact e
  have dn : notDbg n2 = true := by
    simp only [nmOk, Bool.and_eq_true] at a2
    exact a2.2
  refine S_try1 G.toGoodE G.hstk G.hfrm n1 m1 o1 (.inl (lo a4)) (.inl (lo a5)) (lo a4) (lo a5) (lo a6) m2 dn b1 (gl_of G.scope i1) (G.free _ (by decide) (by simpa using i2)) (gl_of G.scope b4) g1 b5 (gl_of G.scope b7) g2 b8 (G.fnx _ _ h3 c3) c4 h1 h2 (fun pn xe => mainA es .e fl (X.tr pn xe) sc _ (G.toGoodE.tr pn xe) h4 c6 (by intro z; cases z)) h5 ?_ h4 ?_
  · rw [mEs_len h4]; exact by simpa using c7
  · intro c' A sup hA
    obtain ⟨ck, w, mem⟩ := G.clk c' A sup hA
    refine ⟨ck.ec, ?_, ?_⟩
    · rw [clsAll_ok c8 mem]; exact (G.sub c' A sup c Cc supc hA x1).1
    · rw [clsAll_ok c9 mem]; exact (G.sub c' A sup d Cd supd hA x2).2
mutual
theorem mainS : ∀ (s : S) (lp fl out : List Nat) (X : Cx) (sc : Scope) (st : Stmt), GoodS W C cl fr np k X sc → mS C fr np W.xs rf lp fl s sc st = some out → PS X st (tS W F₀ ρ₀ H₀ (rmOf rf) lp fl out (evS cl s))
  | .asg t e, lp, fl, out, X, sc, st, G, h => by
    simp only [mS] at h
    split at h <;> try contradiction
    rename_i tg ee pos
    split at h <;> try contradiction
    rename_i hc
    simp only [Bool.and_eq_true, Bool.not_eq_true', Bool.or_eq_true] at hc
    obtain ⟨⟨⟨h1, h2⟩, h4⟩, h3'⟩ := hc
    rcases h3' with h3 | hsc | hsd
    rotate_left 2
    · cases t with
      | t ts => cases tg <;> simp [mTg] at h1 <;> simp [swapD] at hsd
      | v i =>
        simp only at h
        split at h
        · rename_i o
          cases h
          exact S_dcomp G h1 h2 hsd o
        · split at h <;> try contradiction
          rename_i o1 o2
          exfalso
          obtain ⟨_, _, _, _, _, _, _, rfl, rfl, _⟩ := swapD_yes (n := 0) G hsd
          cases e <;> first | (simp [mE] at h2; done) | (simp [okM] at o2; done) | skip
          · rename_i f es
            cases f <;> simp [mE] at h2
          · exact o1 (by simp only [okM] at o2 ⊢; exact o2)
    rotate_left
    · cases t with
      | t ts => cases tg <;> simp [mTg] at h1 <;> simp [swapC] at hsc
      | v i =>
        simp only at h
        split at h
        · rename_i o
          cases h
          exact S_comp G h1 h2 hsc o
        · split at h <;> try contradiction
          rename_i o1 o2
          exfalso
          obtain ⟨_, _, _, _, _, _, rfl, rfl, _⟩ := swapC_yes (n := 0) G hsc
          cases e <;> first | (simp [mE] at h2; done) | (simp [okM] at o2; done) | skip
          · rename_i f es
            cases f <;> simp [mE] at h2
          · exact o1 (by simp only [okM] at o2 ⊢; exact o2)
          · exact o1 (by simp only [okM] at o2 ⊢; exact o2)
    cases t with
    | v i =>
      simp only at h
      have h1' := h1
      cases tg <;> simp only [mTg, Bool.false_eq_true] at h1'
      rename_i x p
      split at h
      · rename_i o
        cases h
        simp only [Bool.and_eq_true, decide_eq_true_eq] at h1'
        have hl := isLC_of h1'.1.2
        refine S_asgF (by rw [G.N]; exact G.nd) (by rw [G.N]; exact h1'.1.1) (G.scope.locs hl) (mainE e .f fl X sc ee G.toGoodE h2 o) (swap_no2 G h3) ?_
        rcases hl with hl | hl
        · exact .inr (G.scope.loc _ hl)
        · exact .inl (G.fnc x hl)
      · split at h <;> try contradiction
        rename_i o
        cases h
        exact S_asgM (t := .v i) (pg_M G.toGood (.v i) fl _ h1) (mainE e .e fl X sc ee G.toGoodE h2 o) (swap_no2 (n := pos.line) G h3) (stores_no2 h4) (each1 h1)
    | t ts =>
      simp only at h
      split at h <;> try contradiction
      rename_i o
      cases h
      exact S_asgM (pg_M G.toGood (.t ts) fl _ h1) (mainE e .e fl X sc ee G.toGoodE h2 o) (swap_no2 (n := pos.line) G h3) (stores_no2 h4) (each1 h1)
  | .par is es, lp, fl, out, X, sc, st, G, h => by
    simp only [mS] at h
    split at h
    rotate_left
    · rename_i i j l e1 e2 e3 x px y py z pz kt pt a b c k2 pt2 pos
      split at h <;> try contradiction
      rename_i hc
      simp only [Bool.and_eq_true, decide_eq_true_eq] at hc
      obtain ⟨⟨⟨⟨i1, i2⟩, i3⟩, ⟨⟨m1, m2⟩, m3⟩⟩, ⟨⟨o1, o2⟩, o3⟩⟩ := hc
      split at h <;> try contradiction
      rename_i hp
      cases h
      cases hc3 : parC3 C sc i j l x y z px py pz a b c with
      | true =>
        have hw := fun kt pt k2 pt2 => stores_three (kt := kt) (pt := pt) (k2 := k2) (pt2 := pt2) G hc3
        simp only [parC3, Bool.and_eq_true, decide_eq_true_eq, Bool.not_eq_true', beq_iff_eq] at hc3
        obtain ⟨⟨⟨⟨⟨⟨⟨n1, n2⟩, n3⟩, ⟨⟨l1, l2⟩, l3⟩⟩, _⟩, _⟩, ⟨⟨s1, s2⟩, s3⟩⟩, _⟩ := hc3
        exact S_par3 G.calm (by rw [G.N]; exact G.nd) (by rw [G.N]; exact n1) (by rw [G.N]; exact n2) (by rw [G.N]; exact n3) i1 i2 i3 (G.scope.loc _ l1) (G.scope.loc _ l2) (G.scope.loc _ l3)
          (mainE e1 _ fl X sc _ G.toGoodE m1 o1) (mainE e2 _ fl X sc _ G.toGoodE m2 o2) (mainE e3 _ fl X sc _ G.toGoodE m3 o3) s1 s2 s3 (hw _ _ _ _)
      | false =>
        rw [hc3, Bool.false_or] at hp
        simp only [parT3, Bool.and_eq_true] at hp
        obtain ⟨⟨⟨⟨h1, h2⟩, h3⟩, ⟨⟨s1, s2⟩, s3⟩⟩, h9⟩ := hp
        exact S_parT3 G.calm G.K i1 i2 i3 (pg_nm G.toGood h1) (pg_nm G.toGood h2) (pg_nm G.toGood h3) (mainE e1 _ fl X sc _ G.toGoodE m1 o1) (mainE e2 _ fl X sc _ G.toGoodE m2 o2) (mainE e3 _ fl X sc _ G.toGoodE m3 o3) s1 s2 s3 (stores_cell3 G h9)
    · cases h
    rename_i i j e1 e2 x px y py kt pt a b k2 pt2 pos
    split at h
    rotate_left
    · split at h <;> try contradiction
      rename_i hc
      simp only [Bool.and_eq_true, decide_eq_true_eq] at hc
      obtain ⟨⟨⟨⟨⟨c1, c2⟩, c3⟩, c4⟩, c5⟩, c6⟩ := hc
      simp only [parT, Bool.and_eq_true] at c2
      obtain ⟨⟨⟨⟨h1, h2⟩, h7⟩, h8⟩, h9⟩ := c2
      cases h
      exact S_parT G.calm G.K c1 (pg_nm G.toGood h1) (pg_nm G.toGood h2) (mainE e1 _ fl X sc _ G.toGoodE c3 c5) (mainE e2 _ fl X sc _ G.toGoodE c4 c6) h7 h8 (stores_cell G h9)
    rename_i hc
    simp only [Bool.and_eq_true, decide_eq_true_eq] at hc
    obtain ⟨⟨⟨⟨⟨c1, c2⟩, c3⟩, c4⟩, c5⟩, c6⟩ := hc
    have hw := fun kt pt k2 pt2 => stores_two (kt := kt) (pt := pt) (k2 := k2) (pt2 := pt2) G c2
    simp only [parC, Bool.and_eq_true, decide_eq_true_eq, Bool.not_eq_true', beq_iff_eq] at c2
    obtain ⟨⟨⟨⟨⟨⟨⟨⟨⟨h1, h2⟩, h3⟩, h4⟩, h5⟩, h6⟩, h7⟩, h8⟩, h9⟩, h10⟩ := c2
    cases h
    exact S_par G.calm (by rw [G.N]; exact G.nd) (by rw [G.N]; exact h1) (by rw [G.N]; exact h2) c1 (G.scope.loc _ h3) (G.scope.loc _ h4) (mainE e1 _ fl X sc _ G.toGoodE c3 c5) (mainE e2 _ fl X sc _ G.toGoodE c4 c6) h7 h8 (hw _ _ _ _)
  | .setI i kk e, lp, fl, out, X, sc, st, G, h => by
    simp only [mS] at h
    split at h <;> try contradiction
    split at h <;> try contradiction
    rename_i hc
    simp only [Bool.and_eq_true, Bool.not_eq_true'] at hc
    obtain ⟨⟨⟨⟨⟨⟨h1, h2⟩, h3⟩, h4⟩, h5⟩, h6⟩, h7⟩ := hc
    cases h
    obtain ⟨n1, n2, n3, n4⟩ := G.toGoodE.nm h2
    exact S_setI (by have := G.units; omega) G.K G.w (by simpa using h1) n1 n2 n3 n4 (mainE kk .e fl X sc _ G.toGoodE h3 h5) (mainE e .e fl X sc _ G.toGoodE h4 h6) h7 swap_sub (by unfold swappedStores; rfl)
  | .setR i kk e, lp, fl, out, X, sc, st, G, h => by
    simp only [mS] at h
    split at h <;> try contradiction
    split at h <;> try contradiction
    rename_i hc
    simp only [Bool.and_eq_true, Bool.not_eq_true'] at hc
    obtain ⟨⟨⟨⟨⟨h2, h3⟩, h4⟩, h5⟩, h6⟩, h7⟩ := hc
    cases h
    obtain ⟨n1, n2, n3, n4⟩ := G.toGoodE.nm h2
    exact S_setR (by have := G.units; omega) G.K G.w n1 n2 n3 n4 (mainE kk .e fl X sc _ G.toGoodE h3 h5) (mainE e .e fl X sc _ G.toGoodE h4 h6) h7 swap_sub (by unfold swappedStores; rfl)
  | .swap i a b c d, lp, fl, out, X, sc, st, G, h => by
    simp only [mS] at h
    split at h <;> try contradiction
    split at h <;> try contradiction
    rename_i hc
    simp only [Bool.and_eq_true, Bool.not_eq_true'] at hc
    obtain ⟨⟨⟨⟨⟨⟨⟨⟨⟨⟨⟨h1, h2⟩, h3⟩, h4⟩, h5⟩, h6⟩, h7⟩, h8⟩, h9⟩, h10⟩, h11⟩, h12⟩ := hc
    cases h
    obtain ⟨n1, n2, n3, n4⟩ := G.toGoodE.nm h2
    obtain ⟨m1, m2, m3, m4⟩ := G.toGoodE.nm h3
    have hu := G.toGoodE.units
    exact S_swap G.calm (by omega) G.K G.w (by simpa using h1) n1 n2 n3 n4 m1 m2 m3 m4 (mainE a .e fl X sc _ G.toGoodE h4 h7) (mainE b .e fl X sc _ G.toGoodE h5 h8) (mainE _ .e fl X sc _ G.toGoodE h6 h9) h10 h11 (swap_sole h12) (stores_subs _)
  | .setF .., lp, fl, out, X, sc, st, G, h => by simp [mS] at h
  | .mut m i es, lp, fl, out, X, sc, st, G, h => by
    simp only [mS] at h
    split at h <;> try contradiction
    rename_i x pp n ap xs cp pos
    split at h <;> try contradiction
    rename_i hc
    simp only [Bool.and_eq_true, decide_eq_true_eq, Bool.not_eq_true'] at hc
    obtain ⟨⟨⟨⟨⟨⟨⟨⟨h1, h2⟩, h3⟩, h4⟩, h5⟩, h6⟩, h7⟩, h8⟩, h9⟩ := hc
    cases h
    obtain ⟨n1, n2, n3, n4⟩ := G.toGoodE.nm h3
    cases xs with
    | nil => simp at h7
    | cons z zs =>
      cases m <;> simp only [muOk, decide_eq_true_eq, Bool.false_eq_true] at h1
      · subst h1
        exact S_append (by simpa using h2) n1 n2 n3 n4 (mainA es .e fl X sc _ G.toGoodE h4 h5 (by intro z; cases z)) h6 h8 h9
      · subst h1
        exact S_insert (by simpa using h2) n1 n2 n3 n4 (mainA es .e fl X sc _ G.toGoodE h4 h5 (by intro z; cases z)) h6 h8 h9
      · subst h1
        exact S_extend (by simpa using h2) n1 n2 n3 n4 (mainA es .e fl X sc _ G.toGoodE h4 h5 (by intro z; cases z)) h6 h8 h9
  | .expr e, lp, fl, out, X, sc, st, G, h => by
    simp only [mS] at h
    split at h <;> try contradiction
    split at h <;> try contradiction
    rename_i hc
    simp only [Bool.and_eq_true, Bool.not_eq_true'] at hc
    cases h
    exact S_expr (mainE e .e fl X sc _ G.toGoodE hc.1.1 hc.1.2) (swap_no hc.2)
  | .ret e, lp, fl, out, X, sc, st, G, h => by
    simp only [mS] at h
    split at h <;> try contradiction
    split at h
    · rename_i hc
      simp only [Bool.and_eq_true] at hc
      obtain ⟨c1, c2⟩ := hc
      cases e <;> simp only [retV, Bool.false_eq_true, Bool.and_eq_true] at c1
      rename_i i
      obtain ⟨rfl, c3⟩ := c1
      simp only [mE] at c2
      split at c2 <;> try contradiction
      obtain ⟨n1, n2, n3, n4⟩ := G.toGoodE.nm c2
      exact S_retv (by simpa using c3) n1 n2 n3 n4
    · split at h
      · rename_i hc
        simp only [Bool.and_eq_true] at hc
        exact S_ret (by cases rf <;> simp [rmOf]) (mainE e _ fl X sc _ G.toGoodE hc.1 hc.2)
      · split at h <;> try contradiction
        rename_i hc
        simp only [Bool.and_eq_true] at hc
        exact S_sub (fl' := []) (fun i hi => by cases hi) (S_ret (by cases rf <;> simp [rmOf]) (mainE e _ [] X sc _ G.toGoodE hc.1 hc.2))
  | .iff c a b, lp, fl, out, X, sc, st, G, h => by
    simp only [mS] at h
    split at h <;> try contradiction
    split at h <;> try contradiction
    rename_i hc
    simp only [Bool.and_eq_true] at hc
    split at h <;> try contradiction
    rename_i o1 o2 e1 e2
    cases h
    exact S_if (mainT c fl X sc _ G.toGoodE hc.1 hc.2) (mainSs a lp fl o1 X sc _ G e1) (mainSs b lp fl o2 X sc _ G e2) inter_l inter_r
  | .whl inv c b, lp, fl, out, X, sc, st, G, h => by
    simp only [mS] at h
    split at h <;> try contradiction
    split at h <;> try contradiction
    rename_i hc
    simp only [Bool.and_eq_true] at hc
    split at h <;> try contradiction
    rename_i o e1
    split at h <;> try contradiction
    rename_i hs
    cases h
    exact S_while G.hp (mainT c inv X sc _ G.toGoodE hc.1.1 hc.1.2) (mainSs b inv inv o X sc _ G e1) (subset_ok hc.2) (subset_ok hs)
  | .forr inv t i b, lp, fl, out, X, sc, st, G, h => by
    simp only [mS] at h
    split at h <;> try contradiction
    split at h <;> try contradiction
    rename_i hc
    simp only [Bool.and_eq_true, Bool.or_eq_true, Bool.not_eq_true'] at hc
    obtain ⟨⟨⟨⟨h1, h2⟩, h3⟩, h4⟩, h5⟩ := hc
    split at h <;> try contradiction
    rename_i o e1
    split at h <;> try contradiction
    rename_i hs
    cases h
    refine S_for G.hp G.calm (mainI i .e inv X sc _ _ G.toGoodE h2 h3 (Or.inl rfl) fun hn => ?_) (pg_M G.toGood t inv _ h1) (mainSs b inv (without inv (tgS t)) o X sc _ G e1) (mI_notSet h2) (subset_ok h5) (subset_ok hs)
    rcases h4 with z | z
    · rw [hn] at z; cases z
    · exact mTg_tup h1 z
  | .pass, lp, fl, out, X, sc, st, G, h => by
    simp only [mS] at h
    split at h <;> try contradiction
    cases h
    exact S_pass
  | .brk, lp, fl, out, X, sc, st, G, h => by
    simp only [mS] at h
    split at h <;> try contradiction
    split at h <;> try contradiction
    rename_i hs
    exact S_brk (subset_ok hs)
  | .cnt, lp, fl, out, X, sc, st, G, h => by
    simp only [mS] at h
    split at h <;> try contradiction
    split at h <;> try contradiction
    rename_i hs
    exact S_cnt (subset_ok hs)
  | .raise _ _, lp, fl, out, X, sc, st, G, h => S_raise
  | .tryy .., lp, fl, out, X, sc, st, G, h => by simp [mS] at h
  | .xst _, lp, fl, out, X, sc, st, G, h => by simp [mS] at h
  | .xraise _, lp, fl, out, X, sc, st, G, h => by simp [mS] at h
  | .xexp _, lp, fl, out, X, sc, st, G, h => by simp [mS] at h
  | .xret _, lp, fl, out, X, sc, st, G, h => by simp [mS] at h
  | .xiff .., lp, fl, out, X, sc, st, G, h => by simp [mS] at h
  | .try1 i f es c cs x j d ds u v, lp, fl, out, X, sc, st, G, h => by
    simp only [mS] at h
    split at h <;> try contradiction
    split at h <;> try contradiction
    rename_i hc
    cases h
    simp only [Bool.and_eq_true, Bool.not_eq_true'] at hc
    obtain ⟨⟨⟨⟨⟨⟨⟨a1, a2⟩, a3⟩, a4⟩, a5⟩, a6⟩, ⟨⟨⟨⟨⟨⟨⟨⟨b1, b2⟩, b3⟩, b4⟩, b5⟩, b6⟩, b7⟩, b8⟩, b9⟩⟩, ⟨⟨⟨⟨⟨⟨⟨⟨c1, c2⟩, c3⟩, c4⟩, c5⟩, c6⟩, c7⟩, c8⟩, c9⟩⟩ := hc
    exact try_case G a1 a2 a3 a4 a5 a6 (of_decide_eq_true b1) (of_decide_eq_true b2) b3 b4 b5 b6 b7 b8 b9 c1 c2 c3 c4 c5 c6 c7 c8 c9
theorem mainSs : ∀ (ss : Ss) (lp fl out : List Nat) (X : Cx) (sc : Scope) (sts : List Stmt), GoodS W C cl fr np k X sc → mSs C fr np W.xs rf lp fl ss sc sts = some out → PSs X sts (tS W F₀ ρ₀ H₀ (rmOf rf) lp fl out (evSs cl ss))
  | .nil, lp, fl, out, X, sc, sts, G, h => by
    simp only [mSs] at h
    split at h <;> try contradiction
    rename_i hs
    cases h
    rw [List.isEmpty_iff] at hs
    subst hs
    exact S_nil
  | .cons s ss, lp, fl, out, X, sc, sts, G, h => by
    cases sts with
    | nil => simp [mSs] at h
    | cons st r =>
      simp only [mSs] at h
      split at h
      · rename_i o e1
        exact S_cons (mainS s lp fl o X sc st G e1) (mainSs ss lp o out X sc r G h)
      · split at h <;> try contradiction
        split at h <;> try contradiction
        rename_i o e1
        exact S_cons (S_sub (fun i hi => (mem_withouts.mp hi).1) (mainS s lp _ o X sc st G e1)) (mainSs ss lp o out X sc r G h)
end
end
end MP

set_option Elab.async false
set_option linter.all false
set_option maxRecDepth 100000
set_option maxHeartbeats 1000000
namespace MP
open PySem PySem.Spec PyProof.Rows L2

/-! ### bodies that may let an exception out -/
section
variable (C : TC) (fr : Nat → Bool) (np : Nat → Nat) (xs : Nat → Bool) (rf : Bool)
def mC (b : Bool) (fl : List Nat) : E → Scope → Expr → Bool
  | .call f es, sc, e => mE C (.call f es) sc e && xs f && (fr f == b) && okEs fr np .e fl es && (esLen es == np f)
  | .ite c x y, sc, e => (match e with
    | .IfExp ec ea eb _ => mE C c sc ec && okT fr np fl c && mC b fl x sc ea && mC b fl y sc eb
    | _ => false)
  | _, _, _ => false
mutual
def mX (fl : List Nat) : S → Scope → Stmt → Option (List Nat)
  | .xst s, sc, st => mS C fr np xs rf [] fl s sc st
  | .xraise c, sc, st => (match st with
    | .Raise (some (.Call (.Name x _) [.Constant (.str _) _ _] [] _)) none _ => if isGl sc x && notDbg x && clsIs C.gl x c then some (List.range C.N.length) else none
    | _ => none)
  | .xexp e, sc, st => (match st with
    | .Expr ee _ => if (mC C fr np xs true fl e sc ee || mC C fr np xs false fl e sc ee) && !isComp ee then some fl else none
    | _ => none)
  | .xret e, sc, st => (match st with
    | .Return (some ee) _ => if mC C fr np xs rf fl e sc ee then some (List.range C.N.length) else none
    | _ => none)
  | .xiff c a b, sc, st => (match st with
    | .If ec sa sb _ => if mE C c sc ec && okT fr np fl c then (match mXs fl a sc sa, mXs fl b sc sb with
        | some o1, some o2 => some (inter o1 o2)
        | _, _ => none) else none
    | _ => none)
  | _, _, _ => none
def mXs (fl : List Nat) : Ss → Scope → List Stmt → Option (List Nat)
  | .nil, _, sts => if sts.isEmpty then some fl else none
  | .cons s ss, sc, sts => (match sts with
    | st :: r => (match mX fl s sc st with
      | some o => mXs o ss sc r
      | none => none)
    | [] => none)
end
end
section
variable {W : Wd} {cl : CL} {C : TC} {fr : Nat → Bool} {np : Nat → Nat} {k : Nat} {rf : Bool} {F₀ : AS} {ρ₀ : List Addr} {H₀ : Hp} {EX : XK}
theorem mainC {b : Bool} : ∀ (e : E) (fl : List Nat) (X : Cx) (sc : Scope) (ee : Expr), GoodS W C cl fr np k X sc → Takes X (fun cls d _ H => EX cls d H) → mC C fr np W.xs b fl e sc ee = true → PE X ee (tXE W cl fl (rmOf b) e fun _ => EX)
  | .call f es, fl, X, sc, ee, G, tk, h => by
    simp only [mC, Bool.and_eq_true, beq_iff_eq] at h
    obtain ⟨⟨⟨⟨c5, c3⟩, c4⟩, c6⟩, c7⟩ := h
    obtain ⟨g, pg, xs', pc, rfl, h1, h2, h3, h4, h5⟩ := mE_call c5
    have L := L_callX (fl := fl) (pp := pg) (pos := pc) (EX := fun _ => EX) G.toGoodE (G.fnx _ _ h3 c3) (fun σ => passAt tk σ) h1 h2 (mainA es .e fl X sc _ G.toGoodE h4 c6 (by intro z; cases z)) h5 (by rw [mEs_len h4, c7]) h4
    rw [c4] at L
    exact L
  | .ite c x y, fl, X, sc, ee, G, tk, h => by
    unfold mC at h
    split at h <;> try contradiction
    simp only [Bool.and_eq_true] at h
    obtain ⟨⟨⟨h1, h2⟩, h3⟩, h4⟩ := h
    exact L_iteX (mainT c fl X sc _ G.toGoodE h1 h2) (mainC x fl X sc _ G tk h3) (mainC y fl X sc _ G tk h4) (by cases b <;> simp [rmOf])
  | .var _, _, _, _, _, _, _, h | .con _, _, _, _, _, _, _, h | .bin .., _, _, _, _, _, _, h | .neg _, _, _, _, _, _, _, h | .not _, _, _, _, _, _, _, h | .cmp .., _, _, _, _, _, _, h | .chain .., _, _, _, _, _, _, h | .and .., _, _, _, _, _, _, h | .or .., _, _, _, _, _, _, h
  | .tup _, _, _, _, _, _, _, h | .lst _, _, _, _, _, _, _, h | .shr _, _, _, _, _, _, _, h | .dnew, _, _, _, _, _, _, h | .idx .., _, _, _, _, _, _, h | .slc .., _, _, _, _, _, _, h | .rev _, _, _, _, _, _, _, h | .bi .., _, _, _, _, _, _, h | .callv .., _, _, _, _, _, _, h | .meth .., _, _, _, _, _, _, h
  | .isin .., _, _, _, _, _, _, h | .listOf _, _, _, _, _, _, _, h | .tupOf _, _, _, _, _, _, _, h | .fld .., _, _, _, _, _, _, h | .comp .., _, _, _, _, _, _, h | .comp2 .., _, _, _, _, _, _, h | .dcomp .., _, _, _, _, _, _, h => by simp [mC] at h
mutual
theorem mainX : ∀ (s : S) (fl out : List Nat) (X : Cx) (sc : Scope) (st : Stmt), GoodS W C cl fr np k X sc → Takes X (fun cls d _ H => EX cls d H) → mX C fr np W.xs rf fl s sc st = some out → PS X st (tX W F₀ ρ₀ H₀ (rmOf rf) EX fl out (evS cl s))
  | .xst s, fl, out, X, sc, st, G, tk, h => X_st (mainS s [] fl out X sc st G (by simpa only [mX] using h))
  | .xraise c, fl, out, X, sc, st, G, tk, h => by
    simp only [mX] at h
    split at h <;> try contradiction
    split at h <;> try contradiction
    rename_i hc
    simp only [Bool.and_eq_true] at hc
    obtain ⟨sup, e1⟩ := clsIs_ok hc.2
    obtain ⟨A, x1, g1⟩ := G.cls _ _ _ e1
    exact X_raise G.calm tk x1 g1 (gl_of G.scope hc.1.1) (notDbg_of hc.1.2).1 (G.clk _ _ _ x1).1
  | .xexp e, fl, out, X, sc, st, G, tk, h => by
    simp only [mX] at h
    split at h <;> try contradiction
    split at h <;> try contradiction
    rename_i hc
    cases h
    simp only [Bool.and_eq_true, Bool.or_eq_true, Bool.not_eq_true'] at hc
    rcases hc.1 with z | z
    · exact X_expr (mainC e fl X sc _ G tk z) (swap_no hc.2)
    · exact X_expr (mainC e fl X sc _ G tk z) (swap_no hc.2)
  | .xret e, fl, out, X, sc, st, G, tk, h => by
    simp only [mX] at h
    split at h <;> try contradiction
    split at h <;> try contradiction
    rename_i hc
    exact X_ret (by cases rf <;> simp [rmOf]) (mainC e fl X sc _ G tk hc)
  | .xiff c a b, fl, out, X, sc, st, G, tk, h => by
    simp only [mX] at h
    split at h <;> try contradiction
    split at h <;> try contradiction
    rename_i hc
    simp only [Bool.and_eq_true] at hc
    split at h <;> try contradiction
    rename_i o1 o2 e1 e2
    cases h
    exact X_if (mainT c fl X sc _ G.toGoodE hc.1 hc.2) (mainXs a fl o1 X sc _ G tk e1) (mainXs b fl o2 X sc _ G tk e2) inter_l inter_r
  | .asg .., _, _, _, _, _, _, _, h | .par .., _, _, _, _, _, _, _, h | .setI .., _, _, _, _, _, _, _, h | .setR .., _, _, _, _, _, _, _, h | .swap .., _, _, _, _, _, _, _, h | .setF .., _, _, _, _, _, _, _, h | .mut .., _, _, _, _, _, _, _, h | .expr _, _, _, _, _, _, _, _, h | .ret _, _, _, _, _, _, _, _, h
  | .iff .., _, _, _, _, _, _, _, h | .whl .., _, _, _, _, _, _, _, h | .forr .., _, _, _, _, _, _, _, h | .pass, _, _, _, _, _, _, _, h | .brk, _, _, _, _, _, _, _, h | .cnt, _, _, _, _, _, _, _, h | .raise .., _, _, _, _, _, _, _, h | .tryy .., _, _, _, _, _, _, _, h | .try1 .., _, _, _, _, _, _, _, h => by simp [mX] at h
theorem mainXs : ∀ (ss : Ss) (fl out : List Nat) (X : Cx) (sc : Scope) (sts : List Stmt), GoodS W C cl fr np k X sc → Takes X (fun cls d _ H => EX cls d H) → mXs C fr np W.xs rf fl ss sc sts = some out → PSs X sts (tX W F₀ ρ₀ H₀ (rmOf rf) EX fl out (evSs cl ss))
  | .nil, fl, out, X, sc, sts, G, tk, h => by
    simp only [mXs] at h
    split at h <;> try contradiction
    rename_i hs
    cases h
    rw [List.isEmpty_iff] at hs
    subst hs
    exact X_nil
  | .cons s ss, fl, out, X, sc, sts, G, tk, h => by
    cases sts with
    | nil => simp [mXs] at h
    | cons st r =>
      simp only [mXs] at h
      split at h <;> try contradiction
      rename_i o e1
      exact X_cons (mainX s fl o X sc st G tk e1) (mainXs ss o out X sc r G tk h)
end
end
end MP

set_option Elab.async false
set_option linter.all false
set_option maxRecDepth 100000
namespace MP
open PySem PySem.Spec PyProof.Rows L2

/-! ### a def -/
/-- one def as it stands in the text, and its term -/
structure DD where
  name : Str
  qual : Str
  params : Arguments
  body : List Stmt
  scope : Scope
  N : List Str
  ps : List Str
  d : Def
  fr : Bool
  x : Bool
/-- what the kernel looks at, for one def -/
def DD.ok (gl : List (Str × GV)) (fr : Nat → Bool) (np : Nat → Nat) (xs : Nat → Bool) (D : DD) : Bool :=
  (if D.x then (mXs ⟨D.N, gl⟩ fr np xs D.fr [] D.d.body D.scope D.body).isSome else (mSs ⟨D.N, gl⟩ fr np xs D.fr [] [] D.d.body D.scope D.body).isSome) && (D.d.np == D.ps.length) && (D.d.nn == D.N.length) && Nat.ble D.ps.length D.N.length
section
variable {W : Wd} {P : Program} {w : World} {K : PySem.W.Frag} {mg : Str → Option Value} {base : Heap}
theorem start_rel {F : AS} {ρ : List Addr} {H : Hp} {ts : List PV} {vs : List V} {N : List Str} (r : Reps W F ρ H ts vs) (hl : ts.length ≤ N.length) :
    Rel W F ρ [] (ts.map some ++ List.replicate (N.length - ts.length) none) (L2.start N vs) H := by
  have e := r.length
  refine ⟨by simp [L2.start]; omega, fun i t q => ?_, fun _ _ _ _ _ h => absurd h (by simp)⟩
  have key : ts[i]? = some t := by
    unfold getS at q
    by_cases h : i < ts.length
    · rw [List.getElem?_append_left (by simpa using h)] at q
      rw [List.getElem?_map] at q
      cases z : ts[i]? with
      | none => rw [z] at q; simp at q
      | some u => rw [z] at q; simp at q; rw [q]
    · rw [List.getElem?_append_right (by simpa using Nat.le_of_not_lt h)] at q
      rw [List.getElem?_replicate] at q
      split at q
      · rename_i z
        split at z <;> cases z
      · cases q
  obtain ⟨v, hv, rv⟩ := r.get key
  refine ⟨v, ?_, fun _ => rv, fun h => absurd h (by simp)⟩
  have hi : i < vs.length := (List.getElem?_eq_some_iff.mp hv).1
  unfold L2.start
  rw [List.getElem?_append_left (by simpa using hi), List.getElem?_map, hv]
  rfl
theorem def_ok {D : DD} {gl : List (Str × GV)} {fr : Nat → Bool} {np : Nat → Nat} {Pt : Nat → Option Def} {k f : Nat} {a : Addr} {fd : FuncData} (hD : FunD K D.name D.qual D.params D.body D.scope [] [] a fd) (S : FnScope D.N D.ps D.scope)
    (hPt : Pt f = some D.d) (hfr : fr f = D.fr) (hx : D.x = false) (ok : D.ok gl fr np W.xs = true) (hW : W.K = K) (hw : W.w = w)
    (fns : ∀ x g, glook gl x = some (.fn g) → ∃ a fd ps, mg x = some (.ref a) ∧ PySem.W.keepIn K (.ref a) = true ∧ Binds K fd ps [] ∧ ps.length = np g ∧ FnG P w K mg base k a fd ps (spG W (run Pt k) fr g))
    (fnx : ∀ x g, glook gl x = some (.fn g) → W.xs g = true → ∃ a fd ps, mg x = some (.ref a) ∧ PySem.W.keepIn K (.ref a) = true ∧ Binds K fd ps [] ∧ ps.length = np g ∧ FnX P w K mg base k a fd ps (spX W (run Pt k) fr g))
    (cls : ∀ x c sup, glook gl x = some (.cls c sup) → ∃ A, W.xc c = some (A, sup) ∧ mg x = some (.ref A)) (clk : ∀ c A sup, W.xc c = some (A, sup) → ClsK K A ∧ ∃ x, (x, GV.cls c sup) ∈ gl)
    (sub : ∀ c A sup d B sup', W.xc c = some (A, sup) → W.xc d = some (B, sup') → PySem.W.exmOne K (.ref A) (.ref B) = some (sup.contains d) ∧ PySem.W.kitOne K (.ref A) (.ref B) = some (sup.contains d))
    (cons : ∀ x v, glook gl x = some (.con v) → ∃ vv u, mg x = some u ∧ RelV vv u ∧ ∀ F ρ H, Rep W F ρ H v vv) (free : ∀ x, x ∈ bltNames → glook gl x = none → mg x = none) :
    FnG P w K mg base (k + 1) a fd D.ps (spG W (run Pt (k + 1)) fr f) := by
  simp only [DD.ok, hx, Bool.false_eq_true, if_false, Bool.and_eq_true, beq_iff_eq] at ok
  obtain ⟨⟨⟨ok1, ok2⟩, ok3⟩, ok4⟩ := ok
  obtain ⟨out, hout⟩ := Option.isSome_iff_exists.mp ok1
  have ok4 := Nat.le_of_ble_eq_true ok4
  refine fn_g hD S fun cdv A outer s H vs Q E hr hg hl hsp => ?_
  obtain ⟨F, ρ, h, ts, t, h', p, r, ev, post⟩ := hsp
  simp only [run, hPt] at ev
  unfold evD at ev
  split at ev <;> try contradiction
  rename_i hlen
  have hlen := Nat.eq_of_beq_eq_true hlen
  obtain ⟨fl, h1, e1, e2⟩ := bind_ok ev
  have G : GoodS W ⟨D.N, gl⟩ (run Pt k) fr np k (cxOf NoX P w K mg base D.N D.qual D.scope a cdv A outer s H E).nox D.scope := by
    refine ⟨⟨⟨rfl, ScOk.refl _, S.nd, rfl, hW.symm, hw.symm, fun _ _ => rfl⟩, hg, hr, fns, cons, free⟩, PassesOwn.never, rfl, S.kind, rfl, rfl, fnx, cls, clk, sub⟩
  have M := mainSs (F₀ := F) (ρ₀ := ρ) (H₀ := H) (rf := D.fr) D.d.body [] [] out _ D.scope D.body G hout
  refine ⟨_, PSs.nox M, F, ρ, ts.map some ++ List.replicate (D.d.nn - D.d.np) none, h, fl, h1, ⟨?_, p, p.ext0, fun _ _ _ hh => absurd hh (by simp)⟩, e1, ?_⟩
  · rw [ok3, ← hlen]
    exact start_rel r (by rw [hlen, ok2]; exact ok4)
  · cases fl with
    | nx τ =>
      simp only [Out.ok.injEq] at e2
      obtain ⟨rfl, rfl⟩ := e2
      exact fun F' ρ' σ' H' _ st => post .non F' ρ' H' st.ext st.hps (Rm.val _ rfl (by simp only [Rep]))
    | bk τ => cases e2
    | ct τ => cases e2
    | rt v =>
      simp only [Out.ok.injEq] at e2
      obtain ⟨rfl, rfl⟩ := e2
      rw [hfr] at post
      exact fun w F' ρ' H' x p' rm => post w F' ρ' H' x p' rm
/-- one that may let an exception out -/
theorem defx_ok {D : DD} {gl : List (Str × GV)} {fr : Nat → Bool} {np : Nat → Nat} {Pt : Nat → Option Def} {k f : Nat} {a : Addr} {fd : FuncData} (hD : FunD K D.name D.qual D.params D.body D.scope [] [] a fd) (S : FnScope D.N D.ps D.scope)
    (hPt : Pt f = some D.d) (hfr : fr f = D.fr) (hx : D.x = true) (ok : D.ok gl fr np W.xs = true) (hW : W.K = K) (hw : W.w = w)
    (fns : ∀ x g, glook gl x = some (.fn g) → ∃ a fd ps, mg x = some (.ref a) ∧ PySem.W.keepIn K (.ref a) = true ∧ Binds K fd ps [] ∧ ps.length = np g ∧ FnG P w K mg base k a fd ps (spG W (run Pt k) fr g))
    (fnx : ∀ x g, glook gl x = some (.fn g) → W.xs g = true → ∃ a fd ps, mg x = some (.ref a) ∧ PySem.W.keepIn K (.ref a) = true ∧ Binds K fd ps [] ∧ ps.length = np g ∧ FnX P w K mg base k a fd ps (spX W (run Pt k) fr g))
    (cls : ∀ x c sup, glook gl x = some (.cls c sup) → ∃ A, W.xc c = some (A, sup) ∧ mg x = some (.ref A)) (clk : ∀ c A sup, W.xc c = some (A, sup) → ClsK K A ∧ ∃ x, (x, GV.cls c sup) ∈ gl)
    (sub : ∀ c A sup d B sup', W.xc c = some (A, sup) → W.xc d = some (B, sup') → PySem.W.exmOne K (.ref A) (.ref B) = some (sup.contains d) ∧ PySem.W.kitOne K (.ref A) (.ref B) = some (sup.contains d))
    (cons : ∀ x v, glook gl x = some (.con v) → ∃ vv u, mg x = some u ∧ RelV vv u ∧ ∀ F ρ H, Rep W F ρ H v vv) (free : ∀ x, x ∈ bltNames → glook gl x = none → mg x = none) :
    FnX P w K mg base (k + 1) a fd D.ps (spX W (run Pt (k + 1)) fr f) := by
  simp only [DD.ok, hx, if_true, Bool.and_eq_true, beq_iff_eq] at ok
  obtain ⟨⟨⟨ok1, ok2⟩, ok3⟩, ok4⟩ := ok
  obtain ⟨out, hout⟩ := Option.isSome_iff_exists.mp ok1
  have ok4 := Nat.le_of_ble_eq_true ok4
  refine fn_x hD S fun cdv A outer s H vs Q E hr hg hl hsp => ?_
  obtain ⟨F, ρ, h, ts, p, r, hsp⟩ := hsp
  have run1 : run Pt (k + 1) f ts h = evD (run Pt k) D.d ts h := by
    show (match Pt f with | some D => evD (run Pt k) D ts h | none => .bad) = _
    rw [hPt]
  have hlen : ts.length = D.d.np := by
    rcases hsp with ⟨t, h', ev, _⟩ | ⟨c, pl, h', ev, _⟩ <;>
    · rw [run1] at ev
      unfold evD at ev
      split at ev <;> try contradiction
      rename_i hlen
      exact Nat.eq_of_beq_eq_true hlen
  have G : GoodS W ⟨D.N, gl⟩ (run Pt k) fr np k (cxOf (L2.CX P w) P w K mg base D.N D.qual D.scope a cdv A outer s H E) D.scope := by
    refine ⟨⟨⟨rfl, ScOk.refl _, S.nd, rfl, hW.symm, hw.symm, fun _ _ => rfl⟩, hg, hr, fns, cons, free⟩, passes_of rfl, rfl, S.kind, rfl, rfl, fnx, cls, clk, sub⟩
  have tk : Takes (cxOf (L2.CX P w) P w K mg base D.N D.qual D.scope a cdv A outer s H E) (fun cls d _ H => E cls d H) := takes_of rfl rfl rfl rfl
  have M := mainXs (F₀ := F) (ρ₀ := ρ) (H₀ := H) (rf := D.fr) (EX := E) D.d.body [] out _ D.scope D.body G tk hout
  refine ⟨_, M, F, ρ, ts.map some ++ List.replicate (D.d.nn - D.d.np) none, h, ⟨?_, p, p.ext0, fun _ _ _ hh => absurd hh (by simp)⟩, ?_⟩
  · rw [ok3, ← hlen]
    exact start_rel r (by rw [hlen, ok2]; exact ok4)
  have eD : evD (run Pt k) D.d ts h = (evSs (run Pt k) D.d.body (ts.map some ++ List.replicate (D.d.nn - D.d.np) none) h).bind fun f h => match f with
    | .rt v => .ok v h
    | .nx _ => .ok .non h
    | _ => .bad := by
    unfold evD
    rw [if_pos (by rw [hlen]; exact Nat.beq_refl _)]
    try rfl
  rcases hsp with ⟨t, h', ev, post⟩ | ⟨c, pl, h', ev, post⟩
  · rw [run1, eD] at ev
    obtain ⟨fl, h1, e1, e2⟩ := bind_ok ev
    refine .inl ⟨fl, h1, e1, ?_⟩
    cases fl with
    | nx τ =>
      simp only [Out.ok.injEq] at e2
      obtain ⟨rfl, rfl⟩ := e2
      exact fun F' ρ' σ' H' _ st => post .non F' ρ' H' st.ext st.hps (Rm.val _ rfl (by simp only [Rep]))
    | bk τ => cases e2
    | ct τ => cases e2
    | rt v =>
      simp only [Out.ok.injEq] at e2
      obtain ⟨rfl, rfl⟩ := e2
      rw [hfr] at post
      exact fun w F' ρ' H' x p' rm => post w F' ρ' H' x p' rm
  · rw [run1, eD] at ev
    cases e1 : evSs (run Pt k) D.d.body (ts.map some ++ List.replicate (D.d.nn - D.d.np) none) h with
    | bad => rw [e1] at ev; cases ev
    | ok fl h1 =>
      rw [e1, Out.bind_ok] at ev
      cases fl <;> cases ev
    | exc c1 p1 h1 =>
      rw [e1] at ev
      simp only [Out.bind_exc, Out.exc.injEq] at ev
      obtain ⟨rfl, rfl, rfl⟩ := ev
      exact .inr ⟨c1, p1, h1, rfl, post⟩
theorem defx_zero {fr : Nat → Bool} {Pt : Nat → Option Def} {f : Nat} {a : Addr} {fd : FuncData} {ps : List Str} : FnX P w K mg base 0 a fd ps (spX W (run Pt 0) fr f) := by
  constructor
  intro A outer s H args us vs Q E _ _ _ _ _ _ hsp
  obtain ⟨F, ρ, h, ts, p, r, hsp⟩ := hsp
  rcases hsp with ⟨t, h', ev, _⟩ | ⟨c, pl, h', ev, _⟩ <;> simp [run] at ev
/-- no depth is left: nothing is promised -/
theorem def_zero {fr : Nat → Bool} {Pt : Nat → Option Def} {f : Nat} {a : Addr} {fd : FuncData} {ps : List Str} : FnG P w K mg base 0 a fd ps (spG W (run Pt 0) fr f) := by
  constructor
  intro A outer s H args us vs Q E _ _ _ _ _ _ hsp
  obtain ⟨F, ρ, h, ts, t, h', p, r, ev, _⟩ := hsp
  simp [run] at ev
end
end MP

set_option Elab.async false
set_option linter.all false
set_option maxRecDepth 100000
namespace MP
open PySem PySem.Spec PyProof.Rows L2

/-! ### all the defs of a text -/
def ptT (tb : List DD) (i : Nat) : Option Def := (tb[i]?).map (·.d)
def frT (tb : List DD) (i : Nat) : Bool := match tb[i]? with
  | some D => D.fr
  | none => false
def xsT (tb : List DD) (i : Nat) : Bool := match tb[i]? with
  | some D => D.x
  | none => false
def npT (tb : List DD) (i : Nat) : Nat := match tb[i]? with
  | some D => D.ps.length
  | none => 0
/-- every name of a def stands for the def of that name -/
def tabB (tb : List DD) (gl : List (Str × GV)) : Bool := gl.all fun p => match p.2 with
  | .fn g => (match tb[g]? with
    | some D => decide (D.name = p.1)
    | none => false)
  | _ => true
theorem glook_mem {x : Str} {g : GV} : ∀ {gl : List (Str × GV)}, glook gl x = some g → (x, g) ∈ gl
  | [], h => by simp [glook] at h
  | (y, u) :: r, h => by
    simp only [glook] at h
    split at h
    · rename_i e
      cases h
      subst e
      exact List.mem_cons_self
    · exact List.mem_cons_of_mem _ (glook_mem h)
theorem tabB_ok {tb : List DD} {gl : List (Str × GV)} (h : tabB tb gl = true) {x : Str} {g : Nat} (e : glook gl x = some (.fn g)) : ∃ D, tb[g]? = some D ∧ D.name = x := by
  have := List.all_eq_true.mp h _ (glook_mem e)
  simp only at this
  cases q : tb[g]? with
  | none => rw [q] at this; cases this
  | some D => rw [q] at this; exact ⟨D, rfl, of_decide_eq_true this⟩
/-- the scope of a def, by its Bool -/
def scB (N ps : List Str) (sc : Scope) : Bool :=
  (match sc.kind with | .function => true | _ => false) && (!sc.isCoroutine) && (!sc.isGenerator) && decide N.Nodup && decide (N.take ps.length = ps) &&
    (ps.all fun x => match sc.names.lookup x with | some .local => true | some .cell => true | _ => false) && (sc.names.all fun y => match y.2 with | .free => false | _ => true)
theorem scB_ok {N ps : List Str} {sc : Scope} (h : scB N ps sc = true) : FnScope N ps sc := by
  simp only [scB, Bool.and_eq_true, decide_eq_true_eq, List.all_eq_true, Bool.not_eq_true'] at h
  obtain ⟨⟨⟨⟨⟨⟨h1, h2⟩, h3⟩, h4⟩, h5⟩, h6⟩, h7⟩ := h
  refine ⟨?_, h2, h3, h4, h5, fun x hx => ?_, fun y hy e => ?_⟩
  · split at h1
    · assumption
    · cases h1
  · have := h6 x hx
    split at this
    · rename_i e; exact .inl e
    · rename_i e; exact .inr e
    · cases this
  · have := h7 y hy
    rw [e] at this
    cases this
section
variable {W : Wd} {P : Program} {w : World} {K : PySem.W.Frag} {mg : Str → Option Value} {base : Heap}
theorem tab_ok {tb : List DD} {gl : List (Str × GV)} (hW : W.K = K) (hw : W.w = w) (hxs : W.xs = xsT tb) (names : tabB tb gl = true)
    (funs : ∀ D ∈ tb, ∃ fd, FunD K D.name D.qual D.params D.body D.scope [] [] (He.ga K D.name) fd ∧ Binds K fd D.ps [])
    (mgs : ∀ D ∈ tb, mg D.name = some (.ref (He.ga K D.name))) (scs : ∀ D ∈ tb, FnScope D.N D.ps D.scope) (oks : ∀ D ∈ tb, D.ok gl (frT tb) (npT tb) (xsT tb) = true)
    (cls : ∀ x c sup, glook gl x = some (.cls c sup) → ∃ A, W.xc c = some (A, sup) ∧ mg x = some (.ref A)) (clk : ∀ c A sup, W.xc c = some (A, sup) → ClsK K A ∧ ∃ x, (x, GV.cls c sup) ∈ gl)
    (sub : ∀ c A sup d B sup', W.xc c = some (A, sup) → W.xc d = some (B, sup') → PySem.W.exmOne K (.ref A) (.ref B) = some (sup.contains d) ∧ PySem.W.kitOne K (.ref A) (.ref B) = some (sup.contains d))
    (cons : ∀ x v, glook gl x = some (.con v) → ∃ vv u, mg x = some u ∧ RelV vv u ∧ ∀ F ρ H, Rep W F ρ H v vv) (free : ∀ x, x ∈ bltNames → glook gl x = none → mg x = none) :
    ∀ (k g : Nat) (D : DD) (fd : FuncData), tb[g]? = some D → FunD K D.name D.qual D.params D.body D.scope [] [] (He.ga K D.name) fd →
      FnG P w K mg base k (He.ga K D.name) fd D.ps (spG W (run (ptT tb) k) (frT tb) g) ∧ (D.x = true → FnX P w K mg base k (He.ga K D.name) fd D.ps (spX W (run (ptT tb) k) (frT tb) g))
  | 0, _, _, _, _, _ => ⟨def_zero, fun _ => defx_zero⟩
  | k + 1, g, D, fd, hg, hD => by
    have hm := List.mem_of_getElem? hg
    have ih := tab_ok hW hw hxs names funs mgs scs oks cls clk sub cons free k
    have fns : ∀ x g', glook gl x = some (.fn g') → ∃ a fd ps, mg x = some (.ref a) ∧ PySem.W.keepIn K (.ref a) = true ∧ Binds K fd ps [] ∧ ps.length = npT tb g' ∧ FnG P w K mg base k a fd ps (spG W (run (ptT tb) k) (frT tb) g') := fun x g' hx => by
      obtain ⟨D', h1, rfl⟩ := tabB_ok names hx
      have hm' := List.mem_of_getElem? h1
      obtain ⟨fd', h2, h3⟩ := funs D' hm'
      exact ⟨_, fd', D'.ps, mgs D' hm', h2.kp, h3, by simp [npT, h1], (ih g' D' fd' h1 h2).1⟩
    have fnx : ∀ x g', glook gl x = some (.fn g') → W.xs g' = true → ∃ a fd ps, mg x = some (.ref a) ∧ PySem.W.keepIn K (.ref a) = true ∧ Binds K fd ps [] ∧ ps.length = npT tb g' ∧ FnX P w K mg base k a fd ps (spX W (run (ptT tb) k) (frT tb) g') := fun x g' hx hxx => by
      obtain ⟨D', h1, rfl⟩ := tabB_ok names hx
      have hm' := List.mem_of_getElem? h1
      obtain ⟨fd', h2, h3⟩ := funs D' hm'
      rw [hxs] at hxx
      exact ⟨_, fd', D'.ps, mgs D' hm', h2.kp, h3, by simp [npT, h1], (ih g' D' fd' h1 h2).2 (by simpa [xsT, h1] using hxx)⟩
    have ok := oks D hm
    rw [← hxs] at ok
    cases hx : D.x with
    | false => exact ⟨def_ok hD (scs D hm) (by simp [ptT, hg]) (by simp [frT, hg]) hx ok hW hw fns fnx cls clk sub cons free, fun z => by cases z⟩
    | true =>
      have X := defx_ok (base := base) hD (scs D hm) (show ptT tb g = some D.d by simp [ptT, hg]) (show frT tb g = D.fr by simp [frT, hg]) hx ok hW hw fns fnx cls clk sub cons free
      exact ⟨X.g, fun _ => X⟩
end
/-! ### values of the module -/
mutual
/-- the value u of the module is the tree t -/
def conB (K : PySem.W.Frag) : PV → Value → Bool
  | .non, .none => true
  | .bl b, .bool c => b == c
  | .int i, .int j _ => decide (i = j)
  | .str x, .str y _ => decide (x = y)
  | .tup ts, .ref a => (match K.lookup a with
    | some ⟨.type c, none, .seq its _, _⟩ => decide (c = "tuple") && (decide (its.size ≤ sizeLine) && consB K ts its.toList)
    | _ => false)
  | _, _ => false
def consB (K : PySem.W.Frag) : List PV → List Value → Bool
  | [], [] => true
  | t :: ts, u :: us => conB K t u && consB K ts us
  | _, _ => false
end
mutual
theorem conB_ok {W : Wd} : ∀ {t : PV} {u : Value}, conB W.K t u = true → ∃ vv, RelV vv u ∧ ∀ F ρ H, Rep W F ρ H t vv
  | .non, u, h => by cases u <;> first | exact ⟨.non, rfl, fun _ _ _ => by simp [Rep]⟩ | simp [conB] at h
  | .bl b, u, h => by
    cases u <;> try simp [conB] at h
    subst h
    exact ⟨.bl _, rfl, fun _ _ _ => by simp [Rep]⟩
  | .int i, u, h => by
    cases u <;> try simp [conB] at h
    subst h
    exact ⟨.int _, ⟨_, rfl⟩, fun _ _ _ => by simp [Rep]⟩
  | .str i, u, h => by
    cases u <;> try simp [conB] at h
    subst h
    exact ⟨.str _, ⟨_, rfl⟩, fun _ _ _ => by simp [Rep]⟩
  | .tup ts, u, h => by
    cases u <;> try simp [conB] at h
    rename_i a
    split at h
    · rename_i c its n sl e
      simp only [Bool.and_eq_true, decide_eq_true_eq] at h
      obtain ⟨rfl, h2, h3⟩ := h
      obtain ⟨vs, r, hr⟩ := consB_ok h3
      exact ⟨.ref a, rfl, fun F ρ H => by simp only [Rep]; exact ⟨a, vs, rfl, .inr ⟨_, its, n, e, rfl, rfl, rfl, h2, r⟩, hr F ρ H⟩⟩
    · cases h
  | .lst _, u, h => by cases u <;> simp [conB] at h
  | .dct _ _, u, h => by cases u <;> simp [conB] at h
  | .scr _, u, h => by cases u <;> simp [conB] at h
  | .ref _, u, h => by cases u <;> simp [conB] at h
  | .fn _, u, h => by cases u <;> simp [conB] at h
  | .cls _, u, h => by cases u <;> simp [conB] at h
theorem consB_ok {W : Wd} : ∀ {ts : List PV} {us : List Value}, consB W.K ts us = true → ∃ vs, Vals vs us ∧ ∀ F ρ H, Reps W F ρ H ts vs
  | [], us, h => by cases us <;> simp [consB] at h; exact ⟨[], .nil, fun _ _ _ => by simp [Reps]⟩
  | t :: ts, us, h => by
    cases us with
    | nil => simp [consB] at h
    | cons u us =>
      simp only [consB, Bool.and_eq_true] at h
      obtain ⟨v, r, hr⟩ := conB_ok h.1
      obtain ⟨vs, rs, hrs⟩ := consB_ok h.2
      exact ⟨v :: vs, .cons r rs, fun F ρ H => by simp only [Reps]; exact ⟨v, vs, rfl, hr F ρ H, hrs F ρ H⟩⟩
end
/-- all values of the module that the table names -/
def glB (K : PySem.W.Frag) (gl : List (Str × GV)) : Bool := gl.all fun p => match p.2 with
  | .con t => (match PySem.W.nsIn K mainGlobals p.1 with
    | some (some u) => conB K t u
    | _ => false)
  | _ => true
theorem glB_ok {W : Wd} {gl : List (Str × GV)} {h : Heap} {mg : Str → Option Value} (X : W.K.In h) (G : h.Ns mainGlobals mg) (c : glB W.K gl = true) {x : Str} {v : PV} (e : glook gl x = some (.con v)) :
    ∃ vv u, mg x = some u ∧ RelV vv u ∧ ∀ F ρ H, Rep W F ρ H v vv := by
  have := List.all_eq_true.mp c _ (glook_mem e)
  simp only at this
  split at this
  · rename_i u q
    obtain ⟨vv, r, hr⟩ := conB_ok this
    exact ⟨vv, u, PySem.W.mg_of X G q, r, hr⟩
  · cases this
/-! ### classes of errors -/
def xcN : List (Str × GV) → Nat → Option (Str × List Nat)
  | [], _ => none
  | (x, .cls c sup) :: r, c' => if c' = c then some (x, sup) else xcN r c'
  | (_, .fn _) :: r, c' => xcN r c'
  | (_, .con _) :: r, c' => xcN r c'
def xcT (K : PySem.W.Frag) (gl : List (Str × GV)) (c : Nat) : Option (Addr × List Nat) := (xcN gl c).map fun p => (He.ga K p.1, p.2)
def clsKB (K : PySem.W.Frag) (A : Addr) : Bool :=
  (PySem.W.excIn K A [.type "ValueError", .type "Exception", .type "BaseException", .type "object"] "ValueError.__new__" && PySem.W.keepIn K (.ref A) && decide ((PySem.W.subIn K (.ref A) (.type "BaseException")) = (some true)) && decide ((PySem.W.typeIn K (.ref A)) = (some (.type "type")))) &&
  (decide ((PySem.W.findIn K (.ref A) "__getattribute__") = (some (some (.builtin "BaseException.__getattribute__")))) && decide ((PySem.W.findIn K (.ref A) "__getattr__") = (some none)) && PySem.W.hasDictIn K A && decide ((PySem.W.findIn K (.ref A) "__class__") = (some (some (.builtin "object.__class__")))) &&
   decide ((PySem.W.specialIn K (.builtin "object.__class__") "__get__") = (some (some (.builtin "getset_descriptor.__get__")))) && decide ((PySem.W.takesIn K (.builtin "object.__class__")) = (some true)) && decide ((PySem.W.mroIn K A (.type "object")) = (some true)))
theorem clsKB_ok {K : PySem.W.Frag} {A : Addr} (h : clsKB K A = true) : ClsK K A := by
  simp only [clsKB, Bool.and_eq_true] at h
  obtain ⟨⟨⟨⟨a1, a2⟩, a3⟩, a4⟩, ⟨⟨⟨⟨⟨⟨b1, b2⟩, b3⟩, b4⟩, b5⟩, b6⟩, b7⟩⟩ := h
  exact ⟨a1, a2, of_decide_eq_true a3, of_decide_eq_true a4, ⟨of_decide_eq_true b1, of_decide_eq_true b2, of_decide_eq_true a3, b3, of_decide_eq_true b4, of_decide_eq_true b5, of_decide_eq_true b6, of_decide_eq_true b7⟩⟩
def isCls : GV → Bool
  | .cls _ _ => true
  | _ => false
def clsN (gl : List (Str × GV)) : List Str := (gl.filter fun p => isCls p.2).map (·.1)
def clsB (K : PySem.W.Frag) (gl : List (Str × GV)) : Bool := gl.all fun p => match p.2 with
  | .cls c sup => decide (xcN gl c = some (p.1, sup)) && clsKB K (He.ga K p.1) && gl.all fun q => match q.2 with
    | .cls d _ => decide ((PySem.W.exmOne K (.ref (He.ga K p.1)) (.ref (He.ga K q.1))) = (some (sup.contains d))) && decide ((PySem.W.kitOne K (.ref (He.ga K p.1)) (.ref (He.ga K q.1))) = (some (sup.contains d)))
    | _ => true
  | _ => true
theorem xcN_mem {c : Nat} {x : Str} {sup : List Nat} : ∀ {gl : List (Str × GV)}, xcN gl c = some (x, sup) → (x, GV.cls c sup) ∈ gl
  | [], h => by cases h
  | (y, .cls c' sup') :: r, h => by
    simp only [xcN] at h
    split at h
    · rename_i e
      cases h
      rw [e]; exact List.mem_cons_self
    · exact List.mem_cons_of_mem _ (xcN_mem h)
  | (y, .fn _) :: r, h => List.mem_cons_of_mem _ (xcN_mem (gl := r) h)
  | (y, .con _) :: r, h => List.mem_cons_of_mem _ (xcN_mem (gl := r) h)
theorem xcT_ok {K : PySem.W.Frag} {gl : List (Str × GV)} {c : Nat} {A : Addr} {sup : List Nat} (h : xcT K gl c = some (A, sup)) : ∃ x, (x, GV.cls c sup) ∈ gl ∧ A = He.ga K x := by
  unfold xcT at h
  obtain ⟨⟨x, s⟩, e, q⟩ := Option.map_eq_some_iff.mp h
  cases q
  exact ⟨x, xcN_mem e, rfl⟩
theorem clsB_one {K : PySem.W.Frag} {gl : List (Str × GV)} (h : clsB K gl = true) {x : Str} {c : Nat} {sup : List Nat} (m : (x, GV.cls c sup) ∈ gl) : xcN gl c = some (x, sup) ∧ ClsK K (He.ga K x) ∧
    ∀ y d s, (y, GV.cls d s) ∈ gl → PySem.W.exmOne K (.ref (He.ga K x)) (.ref (He.ga K y)) = some (sup.contains d) ∧ PySem.W.kitOne K (.ref (He.ga K x)) (.ref (He.ga K y)) = some (sup.contains d) := by
  have := List.all_eq_true.mp h _ m
  simp only [Bool.and_eq_true, decide_eq_true_eq] at this
  obtain ⟨⟨h1, h2⟩, h3⟩ := this
  refine ⟨h1, clsKB_ok h2, fun y d s mm => ?_⟩
  have := List.all_eq_true.mp h3 _ mm
  simp only [Bool.and_eq_true] at this
  exact ⟨of_decide_eq_true this.1, of_decide_eq_true this.2⟩
theorem clsB_cls {K : PySem.W.Frag} {gl : List (Str × GV)} {mg : Str → Option Value} (h : clsB K gl = true) (mgs : ∀ x ∈ clsN gl, mg x = some (.ref (He.ga K x))) : ∀ x c sup, glook gl x = some (.cls c sup) → ∃ A, xcT K gl c = some (A, sup) ∧ mg x = some (.ref A) := fun x c sup e => by
  have m := glook_mem e
  refine ⟨He.ga K x, ?_, mgs x (List.mem_map.mpr ⟨_, List.mem_filter.mpr ⟨m, rfl⟩, rfl⟩)⟩
  unfold xcT
  rw [(clsB_one h m).1]; rfl
end MP

set_option Elab.async false
set_option linter.all false
set_option maxRecDepth 100000
set_option maxHeartbeats 2000000
namespace MP
open PySem PySem.Spec PyProof.Rows L2

/-! ### what the head tells -/
def hookM (n : Nat) (fa : List He.Fa) (fn : List He.DefD) (ex : PySem.W.Frag → Bool) : PySem.W.Hook where
  α := He.AlD × Bool
  obs := fun s => (fun Z => (He.obsD fa fn Z, ex Z)) (He.frG s.heap.get? (He.asD s.heap.get? n))
  val := fun _ => (He.valD fn, true)
  says := fun _ h => ∃ Z : PySem.W.Frag, Z.In h ∧ He.SaysD fa fn Z ∧ ex Z = true
  of := fun _ _ e => ⟨_, He.frG_in, congrArg Prod.fst e, congrArg Prod.snd e⟩
  keeps := fun _ _ _ ⟨Z, hZ, c⟩ kp => ⟨Z, PySem.W.Frag.In.keeps hZ kp, c⟩
def obM (n : Nat) (fa : List He.Fa) (fn : List He.DefD) (ex : PySem.W.Frag → Bool) (s : PySem.W.SharedT) : He.AlD × Bool :=
  (fun Z => (He.obsD fa fn Z, ex Z)) (He.frG (HandSHeadRun.getT s) (He.asD (HandSHeadRun.getT s) n))
theorem obM_eq {n : Nat} {fa : List He.Fa} {fn : List He.DefD} {ex : PySem.W.Frag → Bool} (s : PySem.W.SharedT) : obM n fa fn ex s = (hookM n fa fn ex).obs s.abs := by
  have e : HandSHeadRun.getT s = s.abs.heap.get? := funext (HandSHeadRun.getT_eq s)
  unfold obM
  rw [e]
  rfl
/-! ### the law's end, for a def that prints -/
section
variable {P : Program} {w : World} {Z : PySem.W.Frag} {mg mb : Str → Option Value} {k : Nat} {fa a : Addr} {fd : FuncData} {x : Str} {sp : Sp} {t : Shared} {us : List Value} {ns : List Int}
/-- over one choice of what is tracked: nothing but the script -/
theorem end_core (inZ : Z.In t.heap) (glb : t.heap.Ns mainGlobals mg) (blt : t.heap.Ns builtinsNs mb) (boot : ∀ y : Str, y ≠ "__name__" → mb y = bootBuiltins y) (lim : t.heap.NoLimit) (noGen : t.gens = #[])
    (hs : t.heap.get? a = some { cls := .type "list", data := .seq us.toArray }) (room : Room k callerA)
    (prom : ∀ b0 : Heap, Z.In b0 → b0.Ns mainGlobals mg → FnG P w Z mg b0 k fa fd [x] sp) (bnd : ∀ (z : Shared) (u : Value), BindsTo z fd ⟨[u], []⟩ [(x, u)])
    (keep : ∀ H : Hp, Only H → SqL Z H a (ns.map V.int) → sp [.ref a] H (fun v _ => v = .bl true) fun _ _ _ => False)
    {H : Hp} (only : Only H) (seq : SqL Z H a (ns.map V.int)) (held : HOk P w H t.heap) (at_a : ∀ c, H c ≠ none → c = a) (free : H a ≠ none → Z.lookup a = none) :
    codeAny (model P w) callerA (.call (.ref fa) ⟨[.ref a], []⟩) (fun r z => r = .ok (.ret (.bool true)) ∧ OldK t.heap z.heap ∧ z.os = t.os ∧ AllBare z.gens) t := by
  have dictFree : ∀ {c : Addr} {o : Obj} {es : Array DictEntry} {n : Nat}, t.heap.get? c = some o → o.data = .dict es n → H c = none := by
    intro c o es n e d
    by_cases q : H c = none
    · exact q
    · have ec := at_a c q
      rw [ec, hs] at e
      have eo := Option.some.inj e
      rw [← eo] at d
      cases d
  have nsOk : ∀ {c : Addr} {m : Str → Option Value}, t.heap.Ns c m → (hidT t.heap H).Ns c m := by
    rintro c m ⟨o, es, n, e, d, r⟩
    exact ⟨o, es, n, hidT_get e (dictFree e d), d, r⟩
  have inZ2 : Z.In (hidT t.heap H) := by
    intro c o e
    refine hidT_get (inZ c o e) ?_
    by_cases q : H c = none
    · exact q
    · have ec := at_a c q
      have fz := free (by rw [← ec]; exact q)
      rw [ec, fz] at e
      cases e
  obtain ⟨mc, l1, l2⟩ := lim
  have modl : Mod Z mg (hidT t.heap H) := ⟨inZ2, nsOk glb, ⟨mb, nsOk blt, boot⟩, ⟨mc, nsOk l1, l2⟩⟩
  have noPin : ∀ c : Addr, c ∈ ([] : List Addr) → False := fun c hc => by cases hc
  have env : Env0 P w Z mg (hidT t.heap H) callerA [] t H :=
    ⟨rfl, modl, fun c o e => of_hidT e, Nat.le_of_eq (hidT_size _ _), trivial, fun c hc => (noPin c hc).elim, held, .of_eq noGen⟩
  have go := (prom _ inZ2 (nsOk glb)).run callerA [] t H ⟨[.ref a], []⟩ [.ref a] [.ref a] (fun v _ => v = .bl true) (fun _ _ _ => False) room rfl env (bnd t (.ref a)) (.cons rfl .nil) rfl (keep H only seq)
  refine codeAny_mono go fun r z hz => ?_
  match r, hz with
  | .ok (.ret u), ⟨v, H', os, bare, un, held', rv, q⟩ =>
    have q' : v = .bl true := q
    rw [q'] at rv
    have eu : u = Value.bool true := rv
    refine ⟨by rw [eu], OldK.of_keep fun c o e => ?_, os, bare⟩
    by_cases q2 : H c = none
    · exact un.keep c o e q2 (fun z => (noPin c z).elim) (by simp)
    · rcases only c with z | ⟨o2, ys, z⟩
      · exact absurd z q2
      · have p1 := (held c _ z).1
        have p2 := (held' c _ (un.frzs c o2 _ z)).1
        rw [e] at p1
        rw [Option.some.inj p1]
        exact p2
theorem law_callG (inZ : Z.In t.heap) (glb : t.heap.Ns mainGlobals mg) (blt : t.heap.Ns builtinsNs mb) (boot : ∀ y : Str, y ≠ "__name__" → mb y = bootBuiltins y) (lim : t.heap.NoLimit) (noGen : t.gens = #[])
    (hs : t.heap.get? a = some { cls := .type "list", data := .seq us.toArray }) (areInts : IntsAre us ns) (short : ns.length ≤ sizeLine) (room : Room k callerA)
    (prom : ∀ b0 : Heap, Z.In b0 → b0.Ns mainGlobals mg → FnG P w Z mg b0 k fa fd [x] sp) (bnd : ∀ (z : Shared) (u : Value), BindsTo z fd ⟨[u], []⟩ [(x, u)])
    (keep : ∀ H : Hp, Only H → SqL Z H a (ns.map V.int) → sp [.ref a] H (fun v _ => v = .bl true) fun _ _ _ => False) :
    codeAny (model P w) callerA (.call (.ref fa) ⟨[.ref a], []⟩) (fun r z => r = .ok (.ret (.bool true)) ∧ OldK t.heap z.heap ∧ z.os = t.os ∧ AllBare z.gens) t := by
  have vals := vals_ints areInts
  by_cases q : ∃ o, Z.lookup a = some o
  · obtain ⟨o, q⟩ := q
    have e := (inZ a o q).symm.trans hs
    rw [Option.some.inj e] at q
    refine end_core (H := fun _ => none) inZ glb blt boot lim noGen hs room prom bnd keep (fun _ => .inl rfl) ?_ (fun c u z => nomatch z) (fun c z => absurd rfl z) fun z => absurd rfl z
    exact .inr ⟨_, us.toArray, _, q, rfl, rfl, rfl, by rw [List.size_toArray, areInts.length]; exact short, by simpa using vals⟩
  · have qn : Z.lookup a = none := by
      cases q3 : Z.lookup a with
      | none => rfl
      | some o => exact absurd ⟨o, q3⟩ q
    have hne : ∀ {c : Addr}, c ≠ a → (fun c => if c = a then some (HO.frz { cls := .type "list", data := .seq us.toArray } (.lst (ns.map V.int))) else none) c = none := fun n => if_neg n
    have hat : (fun c => if c = a then some (HO.frz { cls := .type "list", data := .seq us.toArray } (.lst (ns.map V.int))) else none) a = some (HO.frz { cls := .type "list", data := .seq us.toArray } (.lst (ns.map V.int))) := if_pos rfl
    refine end_core (H := fun c => if c = a then some (.frz { cls := .type "list", data := .seq us.toArray } (.lst (ns.map V.int))) else none) inZ glb blt boot lim noGen hs room prom bnd keep ?_ (.inl (.inr ⟨_, hat⟩)) ?_ ?_ fun _ => qn
    · intro c
      by_cases e : c = a
      · exact .inr ⟨_, _, by rw [e]; exact hat⟩
      · exact .inl (hne e)
    · intro c u z
      by_cases e : c = a
      · subst e
        have zz := Option.some.inj (hat.symm.trans z)
        rw [← zz]
        exact ⟨hs, by rw [List.length_map]; exact short, us, _, vals, hs⟩
      · exact nomatch (hne e).symm.trans z
    · intro c z
      by_cases e : c = a
      · exact e
      · exact absurd (hne e) z
end
/-- a law, from a table of its defs and what its term tells -/
theorem walk_ofG {l : PySem.W.OpenLaw} {n k : Nat} {q : Program} {loose : List Str} {XP : (Str → Option Value) → Heap → Prop} {YP : World → Heap → Prop} {d : DefRec} {x : Str}
    (most : l.most = some n) (short : n ≤ sizeLine) (nodf : d.params.defaults = []) (room : Room k callerA)
    (F : ∀ (w : World) (mg : Str → Option Value) (fa : Addr) (h : Heap), YP w h → h.Ns mainGlobals mg → mg d.name = some (.ref fa) →
      ∃ (Z : PySem.W.Frag) (fd : FuncData) (sp : Sp), Z.In h ∧ (∀ (s : Shared) (u : Value), BindsTo s fd ⟨[u], []⟩ [(x, u)]) ∧
        (∀ (H : Hp) (a : Addr) (ns : List Int), ns.length ≤ n → Only H → SqL Z H a (ns.map V.int) → sp [.ref a] H (fun v _ => v = .bl true) fun _ _ _ => False) ∧
        ∀ base : Heap, Z.In base → base.Ns mainGlobals mg → FnG l.prog w Z mg base k fa fd [x] sp) :
    PySem.W.WalkO q loose XP YP l.row.toRowW d [] (fun f vs => PySem.call f vs) := by
  refine Att.attach_call most nodf fun w s t mg mb fa o pm cd doc a us ns gr Y _ _ _ isFa hs areInts len noGen => ?_
  obtain ⟨Z, fd, sp, inZ, bnd, keep, prom⟩ := F w mg fa _ Y gr.T.g isFa
  exact law_callG inZ gr.T.g gr.T.b gr.T.builtins gr.T.nolimit noGen hs areInts (Nat.le_trans len short) room prom bnd fun H only sq => keep H a ns len only sq
/-! ### all of it, from the table -/
def dOf (D : DD) : He.DefD := ⟨(D.name, none), D.name, D.qual, D.params, D.body, D.scope, [], []⟩
def faOf (tb : List DD) (gl : List (Str × GV)) : List He.Fa := tb.map (fun D => .glo D.name) ++ ((bltNames.filter fun x => (glook gl x).isNone).map .free ++ (clsN gl).map .glo)
section
variable {P : Program} {w : World} {Z : PySem.W.Frag} {mg : Str → Option Value}
theorem law_facts {tb : List DD} {gl : List (Str × GV)} {k g n : Nat} {h : Heap} {D : DD} {fa : Addr} {x : Str} (inZ : Z.In h) (glb : h.Ns mainGlobals mg) (says : He.SaysD (faOf tb gl) (tb.map dOf) Z) (ex : (glB Z gl && clsB Z gl) = true)
    (names : tabB tb gl = true) (scs : (tb.all fun D => scB D.N D.ps D.scope) = true) (oks : (tb.all fun D => D.ok gl (frT tb) (npT tb) (xsT tb)) = true)
    (bnd : ∀ D ∈ tb, ∀ (kV doc pm : Value) (an : Option Addr) (cdv ct : Value) (us : List Value), us.length = D.ps.length → bindArgs (PySem.W.fnOf D.name D.qual D.params D.body D.scope .none kV doc pm an cdv ct) ⟨us, []⟩ = pure (D.ps.zip us))
    (hg : tb[g]? = some D) (hps : D.ps = [x]) (hmg : mg D.name = some (.ref fa))
    (plain : ∀ ns : List Int, ns.length ≤ n → ∃ h', run (ptT tb) k g [.scr (ns.map .int)] [] = .ok (.bl true) h') :
    ∃ (fd : FuncData) (sp : Sp), (∀ (s : Shared) (u : Value), BindsTo s fd ⟨[u], []⟩ [(x, u)]) ∧
        (∀ (H : Hp) (a : Addr) (ns : List Int), ns.length ≤ n → Only H → SqL Z H a (ns.map V.int) → sp [.ref a] H (fun v _ => v = .bl true) fun _ _ _ => False) ∧
        ∀ base : Heap, Z.In base → base.Ns mainGlobals mg → FnG P w Z mg base k fa fd [x] sp := by
  have mem := List.mem_of_getElem? hg
  simp only [Bool.and_eq_true] at ex
  obtain ⟨ex, exc⟩ := ex
  have fact : ∀ f ∈ faOf tb gl, f.ok Z = true := fun f hf => by
    obtain ⟨i, hi, e⟩ := List.mem_iff_getElem.mp hf
    exact says.fact i (by rw [List.getElem?_eq_getElem hi, e])
  have glos : ∀ D ∈ tb, mg D.name = some (.ref (He.ga Z D.name)) := fun D hD => He.glo_ok inZ glb (fact _ (List.mem_append_left _ (List.mem_map.mpr ⟨D, hD, rfl⟩)))
  have funs : ∀ D ∈ tb, ∃ fd, FunD Z D.name D.qual D.params D.body D.scope [] [] (He.ga Z D.name) fd := fun D hD => by
    obtain ⟨i, hi, e⟩ := List.mem_iff_getElem.mp hD
    exact says.def_ i (d := dOf D) (by rw [List.getElem?_map, List.getElem?_eq_getElem hi, e]; rfl)
  have clss : ∀ x ∈ clsN gl, mg x = some (.ref (He.ga Z x)) := fun x hx => He.glo_ok inZ glb (fact (.glo x) (List.mem_append_right _ (List.mem_append_right _ (List.mem_map.mpr ⟨x, hx, rfl⟩))))
  obtain ⟨fd, F⟩ := funs D mem
  have e := (glos D mem).symm.trans hmg
  cases e
  have ok : ∀ (base : Heap), Z.In base → base.Ns mainGlobals mg → FnG P w Z mg base k (He.ga Z D.name) fd D.ps (spG ⟨Z, w, fun _ => none, fun _ => none, xcT Z gl, xsT tb⟩ (run (ptT tb) k) (frT tb) g) := fun base i1 i2 =>
    (tab_ok (W := ⟨Z, w, fun _ => none, fun _ => none, xcT Z gl, xsT tb⟩) rfl rfl rfl names (fun D hD => let ⟨fd, F⟩ := funs D hD; ⟨fd, F, F.bindsN (bnd D hD)⟩) glos (fun D hD => scB_ok (List.all_eq_true.mp scs D hD)) (fun D hD => List.all_eq_true.mp oks D hD)
      (clsB_cls exc clss) (fun c A sup h => by obtain ⟨x, m, rfl⟩ := xcT_ok h; exact ⟨(clsB_one exc m).2.1, x, m⟩)
      (fun c A sup d B sup' h1 h2 => by obtain ⟨x, m, rfl⟩ := xcT_ok h1; obtain ⟨y, n, rfl⟩ := xcT_ok h2; exact (clsB_one exc m).2.2 y d sup' n)
      (fun y v hy => glB_ok (W := ⟨Z, w, fun _ => none, fun _ => none, xcT Z gl, xsT tb⟩) inZ glb ex hy) (fun y hy hn => He.free_ok inZ glb (fact (.free y) (List.mem_append_right _ (List.mem_append_left _ (List.mem_map.mpr ⟨y, List.mem_filter.mpr ⟨hy, by rw [hn]; rfl⟩, rfl⟩))))) k g D fd hg F).1
  rw [hps] at ok
  refine ⟨fd, _, fun s u => ?_, fun H a ns len only sq => ?_, ok⟩
  · have := F.bindsA (bnd D mem) s [u] (by rw [hps]; rfl)
    rw [hps] at this
    exact this
  · obtain ⟨h', hr⟩ := plain ns len
    refine ⟨fun _ => False, [], [], [.scr (ns.map .int)], _, h', ⟨rfl, fun _ _ _ e => by simp at e, List.nodup_nil, fun _ z => z.elim, fun _ z => z.elim⟩, ?_, hr, fun v F' ρ' H' _ _ rm => ?_⟩
    · simp only [Reps, Rep]
      refine ⟨_, _, rfl, ⟨a, _, rfl, ?_, reps_ints⟩, rfl⟩
      rcases sq with (h1 | h1) | h1
      · rcases only a with z | ⟨_, _, z⟩ <;> (rw [h1] at z; cases z)
      · exact .inl h1
      · exact .inr h1
    · unfold rmOf at rm
      split at rm
      · exact rm.1
      · exact rm
where
  reps_ints {W : Wd} {F : AS} {ρ : List Addr} {H : Hp} : ∀ {ns : List Int}, Reps W F ρ H (ns.map .int) (ns.map V.int)
    | [] => rfl
    | n :: ns => ⟨_, _, rfl, rfl, reps_ints⟩
end
end MP

set_option Elab.async false
set_option linter.all false
set_option maxRecDepth 100000
namespace MP
open PySem

/-! ### plain law: rules of the evaluator -/
theorem run_at {P : Nat → Option Def} {d f : Nat} {D : Def} {xs : List PV} {h : Hs} (e : P f = some D) : run P (d + 1) f xs h = evD (run P d) D xs h := by
  show (match P f with | some D => evD (run P d) D xs h | none => .bad) = _
  rw [e]
section
variable {cl : Nat → List PV → Hs → Out PV}
theorem ss_nx {s : S} {ss : Ss} {σ σ' : Sl} {h h' : Hs} (e : evS cl s σ h = .ok (.nx σ') h') : evSs cl (.cons s ss) σ h = evSs cl ss σ' h' := by
  simp only [evSs, e, Out.bind_ok]
theorem ss_rt {s : S} {ss : Ss} {σ : Sl} {h h' : Hs} {v : PV} (e : evS cl s σ h = .ok (.rt v) h') : evSs cl (.cons s ss) σ h = .ok (.rt v) h' := by
  simp only [evSs, e, Out.bind_ok]
theorem d_rt {D : Def} {xs : List PV} {h h' : Hs} {v : PV} (hl : xs.length = D.np) (e : evSs cl D.body (xs.map some ++ List.replicate (D.nn - D.np) none) h = .ok (.rt v) h') : evD cl D xs h = .ok v h' := by
  unfold evD
  rw [if_pos (by rw [hl]; exact Nat.beq_refl _), e]
  rfl
theorem d_nx {D : Def} {xs : List PV} {σ : Sl} {h h' : Hs} (hl : xs.length = D.np) (e : evSs cl D.body (xs.map some ++ List.replicate (D.nn - D.np) none) h = .ok (.nx σ) h') : evD cl D xs h = .ok .non h' := by
  unfold evD
  rw [if_pos (by rw [hl]; exact Nat.beq_refl _), e]
  rfl
/-- a for loop, by an invariant over what is left -/
theorem for_rule {t : Tg} {b : Sl → Hs → Out Fl} (I : List PV → Sl → Hs → Prop) (step : ∀ x xs σ h, I (x :: xs) σ h → ∃ σ1 σ' h', setT t x σ = some σ1 ∧ (b σ1 h = .ok (.nx σ') h' ∨ b σ1 h = .ok (.ct σ') h') ∧ I xs σ' h') :
    ∀ (xs : List PV) (σ : Sl) (h : Hs), I xs σ h → ∃ σ' h', forL t b xs σ h = .ok (.nx σ') h' ∧ I [] σ' h'
  | [], σ, h, i => ⟨σ, h, rfl, i⟩
  | x :: xs, σ, h, i => by
    obtain ⟨σ1, σ', h', e1, e2, i'⟩ := step x xs σ h i
    obtain ⟨σ2, h2, e3, i2⟩ := for_rule I step xs σ' h' i'
    refine ⟨σ2, h2, ?_, i2⟩
    rw [forL, e1, Out.of_some, Out.bind_ok]
    rcases e2 with e2 | e2 <;> (rw [e2, Out.bind_ok]; exact e3)
/-- a while loop, by an invariant and a measure -/
theorem while_rule {c : Sl → Hs → Out PV} {b : Sl → Hs → Out Fl} (I : Nat → Sl → Hs → Prop) (Post : Sl → Hs → Prop)
    (step : ∀ m σ h, I m σ h → (c σ h = .ok (.bl false) h ∧ Post σ h) ∨ (c σ h = .ok (.bl true) h ∧ ∃ m' σ' h', m' < m ∧ (b σ h = .ok (.nx σ') h' ∨ b σ h = .ok (.ct σ') h') ∧ I m' σ' h')) :
    ∀ (n m : Nat) (σ : Sl) (h : Hs), m < n → I m σ h → ∃ σ' h', whileL c b n σ h = .ok (.nx σ') h' ∧ Post σ' h'
  | 0, m, _, _, hm, _ => absurd hm (Nat.not_lt_zero _)
  | n + 1, m, σ, h, hm, i => by
    rcases step m σ h i with ⟨e, p⟩ | ⟨e, m', σ', h', hm', e2, i'⟩
    · exact ⟨σ, h, by rw [whileL, e, Out.bind_ok], p⟩
    · obtain ⟨σ2, h2, e3, p⟩ := while_rule I Post step n m' σ' h' (by omega) i'
      refine ⟨σ2, h2, ?_, p⟩
      rw [whileL, e, Out.bind_ok]
      rcases e2 with e2 | e2 <;> (rw [e2, Out.bind_ok]; exact e3)
/-- a comprehension whose items are told one by one, by an invariant of the heap -/
theorem each_rule {α : Type} {f : PV → Hs → Out (List α)} (I : List PV → List α → Hs → Prop) (step : ∀ x xs ys h, I (x :: xs) ys h → ∃ as h', f x h = .ok as h' ∧ I xs (ys ++ as) h') :
    ∀ (xs : List PV) (ys : List α) (h : Hs), I xs ys h → ∃ zs h', eachL f xs h = .ok zs h' ∧ I [] (ys ++ zs) h'
  | [], ys, h, i => ⟨[], h, rfl, by simpa using i⟩
  | x :: xs, ys, h, i => by
    obtain ⟨as, h', e, i'⟩ := step x xs ys h i
    obtain ⟨zs, h2, e2, i2⟩ := each_rule I step xs (ys ++ as) h' i'
    refine ⟨as ++ zs, h2, ?_, by simpa [List.append_assoc] using i2⟩
    rw [eachL, e]
    simp only [e2]
/-- .. that does not touch the heap -/
theorem each_map {α β : Type} {f : PV → Hs → Out (List α)} {h : Hs} {p : β → PV} {g : β → List α} : ∀ (xs : List β), (∀ x ∈ xs, f (p x) h = .ok (g x) h) → eachL f (xs.map p) h = .ok (xs.flatMap g) h
  | [], _ => rfl
  | x :: xs, e => by
    rw [List.map_cons, eachL, e x List.mem_cons_self]
    simp only [each_map xs fun y hy => e y (List.mem_cons_of_mem _ hy)]
    rfl
theorem each_id {α : Type} {f : PV → Hs → Out (List α)} {h : Hs} {g : PV → List α} : ∀ (xs : List PV), (∀ x ∈ xs, f x h = .ok (g x) h) → eachL f xs h = .ok (xs.flatMap g) h
  | [], _ => rfl
  | x :: xs, e => by
    rw [eachL, e x List.mem_cons_self]
    simp only [each_id xs fun y hy => e y (List.mem_cons_of_mem _ hy)]
    rfl
end
theorem flatMap_one {α β : Type} (f : α → β) : ∀ xs : List α, (xs.flatMap fun x => [f x]) = xs.map f
  | [] => rfl
  | x :: xs => by rw [List.flatMap_cons, flatMap_one f xs]; rfl
theorem intsOf_map : ∀ is : List Int, intsOf (is.map .int) = some is
  | [] => rfl
  | i :: is => by show (intsOf (is.map .int)).map (i :: ·) = _; rw [intsOf_map is]; rfl
theorem boolsOf_map : ∀ is : List Bool, boolsOf (is.map .bl) = some is
  | [] => rfl
  | i :: is => by show (boolsOf (is.map .bl)).map (i :: ·) = _; rw [boolsOf_map is]; rfl
theorem rangeL_map : ∀ (n : Nat) (lo : Int), rangeL lo n = (List.range n).map fun i : Nat => PV.int (lo + (i : Int))
  | 0, _ => rfl
  | n + 1, lo => by
    rw [rangeL, rangeL_map n, List.range_succ_eq_map, List.map_cons, List.map_map]
    congr 1
    · simp
    · apply List.map_congr_left
      intro a _
      simp only [Function.comp]
      congr 1
      omega
theorem plEnumLen : ∀ (xs : List PV) (k : Int), (enumL k xs).length = xs.length
  | [], _ => rfl
  | x :: xs, k => by simp [enumL, plEnumLen xs]
theorem getS_0 (v : Option PV) (σ : Sl) : getS (v :: σ) 0 = v := by cases v <;> rfl
theorem getS_s (v : Option PV) (σ : Sl) (n : Nat) : getS (v :: σ) (n + 1) = getS σ n := by simp [getS]
theorem wipe_nil (σ : Sl) : wipe σ [] = σ := rfl
theorem wipe_cons (σ : Sl) (i : Nat) (r : List Nat) : wipe σ (i :: r) = wipe (σ.set i none) r := rfl
theorem setT_v (i : Nat) (v : PV) (σ : Sl) : setT (.v i) v σ = some (σ.set i (some v)) := rfl
theorem setT_t (ts : Tgs) (xs : List PV) (σ : Sl) : setT (.t ts) (.tup xs) σ = setTs ts xs σ := rfl
theorem setTs_nil (σ : Sl) : setTs .nil [] σ = some σ := rfl
theorem setTs_cons (t : Tg) (ts : Tgs) (x : PV) (xs : List PV) (σ : Sl) : setTs (.cons t ts) (x :: xs) σ = (setT t x σ).bind fun σ' => setTs ts xs σ' := rfl
theorem start_sl (xs : List PV) (n : Nat) : ∀ (D : Def), xs.map some ++ List.replicate (D.nn - D.np) (none : Option PV) = xs.map some ++ List.replicate (D.nn - D.np) none := fun _ => rfl

/-- what a comprehension does with one item -/
def compF (cl : Nat → List PV → Hs → Out PV) (own : List Nat) (elt : E) (t : Tg) (c : E) (σ : Sl) (x : PV) (h : Hs) : Out (List PV) :=
  (Out.of (setT t x (wipe σ own)) h).bind fun σ' h => (evE cl c σ' h).bind fun b h => match b with
    | .bl true => (evE cl elt σ' h).bind fun y h => .ok [y] h
    | .bl false => .ok [] h
    | _ => .bad
theorem comp_run {cl : Nat → List PV → Hs → Out PV} {own : List Nat} {elt : E} {t : Tg} {i : I} {c : E} {σ : Sl} {h h1 h2 : Hs} {xs ys : List PV} (e1 : evI cl i σ h = .ok xs h1) (e2 : eachL (compF cl own elt t c σ) xs h1 = .ok ys h2) (z : ys.length ≤ 16000000) :
    evE cl (.comp own elt t i c) σ h = .ok (.lst ys) h2 := by
  rw [evE, e1, Out.bind_ok]
  show (eachL (compF cl own elt t c σ) xs h1).bind _ = _
  rw [e2, Out.bind_ok, if_pos (show szOk ys.length = true from Nat.ble_eq_true_of_le z)]
theorem e_bin {cl : Nat → List PV → Hs → Out PV} {op : Operator} {a b : E} {σ : Sl} {h h1 h2 : Hs} {x y z : PV} (e1 : evE cl a σ h = .ok x h1) (e2 : evE cl b σ h1 = .ok y h2) (e3 : binV op x y = some z) : evE cl (.bin op a b) σ h = .ok z h2 := by
  rw [evE, e1, Out.bind_ok, e2, Out.bind_ok, e3]; rfl
theorem e_cmp {cl : Nat → List PV → Hs → Out PV} {op : CmpOp} {a b : E} {σ : Sl} {h h1 h2 : Hs} {x y : PV} {z : Bool} (e1 : evE cl a σ h = .ok x h1) (e2 : evE cl b σ h1 = .ok y h2) (e3 : cmpV op x y = some z) : evE cl (.cmp op a b) σ h = .ok (.bl z) h2 := by
  rw [evE, e1, Out.bind_ok, e2, Out.bind_ok, e3]; rfl
theorem e_bi1 {cl : Nat → List PV → Hs → Out PV} {f : BI} {a : E} {σ : Sl} {h h1 : Hs} {x z : PV} (e1 : evE cl a σ h = .ok x h1) (e3 : biV h1 f [x] = some z) : evE cl (.bi f (.cons a .nil)) σ h = .ok z h1 := by
  rw [evE, evEs, e1, Out.bind_ok, evEs, Out.bind_ok, Out.bind_ok, e3]; rfl
theorem e_call1 {cl : Nat → List PV → Hs → Out PV} {f : Nat} {a : E} {σ : Sl} {h h1 h2 : Hs} {x z : PV} (e1 : evE cl a σ h = .ok x h1) (e3 : cl f [x] h1 = .ok z h2) : evE cl (.call f (.cons a .nil)) σ h = .ok z h2 := by
  rw [evE, evEs, e1, Out.bind_ok, evEs, Out.bind_ok, Out.bind_ok, e3]
theorem e_call2 {cl : Nat → List PV → Hs → Out PV} {f : Nat} {a b : E} {σ : Sl} {h h1 h2 h3 : Hs} {x y z : PV} (e1 : evE cl a σ h = .ok x h1) (e2 : evE cl b σ h1 = .ok y h2) (e3 : cl f [x, y] h2 = .ok z h3) : evE cl (.call f (.cons a (.cons b .nil))) σ h = .ok z h3 := by
  rw [evE, evEs, e1, Out.bind_ok, evEs, e2, Out.bind_ok, evEs, Out.bind_ok, Out.bind_ok, Out.bind_ok, e3]
theorem s_asg {cl : Nat → List PV → Hs → Out PV} {i : Nat} {a : E} {σ : Sl} {h h1 : Hs} {x : PV} (e1 : evE cl a σ h = .ok x h1) : evS cl (.asg (.v i) a) σ h = .ok (.nx (σ.set i (some x))) h1 := by
  rw [evS, e1]; rfl
theorem s_ret {cl : Nat → List PV → Hs → Out PV} {a : E} {σ : Sl} {h h1 : Hs} {x : PV} (e1 : evE cl a σ h = .ok x h1) : evS cl (.ret a) σ h = .ok (.rt x) h1 := by
  rw [evS, e1]; rfl
theorem s_expr {cl : Nat → List PV → Hs → Out PV} {a : E} {σ : Sl} {h h1 : Hs} {x : PV} (e1 : evE cl a σ h = .ok x h1) : evS cl (.expr a) σ h = .ok (.nx σ) h1 := by
  rw [evS, e1]; rfl
theorem s_iff {cl : Nat → List PV → Hs → Out PV} {c : E} {a b : Ss} {σ : Sl} {h h1 : Hs} {z : Bool} (e1 : evE cl c σ h = .ok (.bl z) h1) : evS cl (.iff c a b) σ h = (if z then evSs cl a σ h1 else evSs cl b σ h1) := by
  rw [evS, e1]; cases z <;> rfl
theorem e_or_ff {cl : Nat → List PV → Hs → Out PV} {a b : E} {σ : Sl} {h h1 h2 : Hs} {z : Bool} (e1 : evE cl a σ h = .ok (.bl false) h1) (e2 : evE cl b σ h1 = .ok (.bl z) h2) : evE cl (.or a b) σ h = .ok (.bl z) h2 := by
  rw [evE, e1, Out.bind_ok]; exact e2
theorem e_or_t {cl : Nat → List PV → Hs → Out PV} {a b : E} {σ : Sl} {h h1 : Hs} (e1 : evE cl a σ h = .ok (.bl true) h1) : evE cl (.or a b) σ h = .ok (.bl true) h1 := by
  rw [evE, e1]; rfl
theorem e_and_tt {cl : Nat → List PV → Hs → Out PV} {a b : E} {σ : Sl} {h h1 h2 : Hs} {z : Bool} (e1 : evE cl a σ h = .ok (.bl true) h1) (e2 : evE cl b σ h1 = .ok (.bl z) h2) : evE cl (.and a b) σ h = .ok (.bl z) h2 := by
  rw [evE, e1, Out.bind_ok]; exact e2
theorem e_and_f {cl : Nat → List PV → Hs → Out PV} {a b : E} {σ : Sl} {h h1 : Hs} (e1 : evE cl a σ h = .ok (.bl false) h1) : evE cl (.and a b) σ h = .ok (.bl false) h1 := by
  rw [evE, e1]; rfl
theorem e_not {cl : Nat → List PV → Hs → Out PV} {a : E} {σ : Sl} {h h1 : Hs} {z : Bool} (e1 : evE cl a σ h = .ok (.bl z) h1) : evE cl (.not a) σ h = .ok (.bl (!z)) h1 := by
  rw [evE, e1]; rfl
theorem ss_exc {cl : Nat → List PV → Hs → Out PV} {s : S} {ss : Ss} {σ : Sl} {h h' : Hs} {c : Nat} {p : PV} (e : evS cl s σ h = .exc c p h') : evSs cl (.cons s ss) σ h = .exc c p h' := by
  simp only [evSs, e, Out.bind_exc]
theorem d_exc {cl : Nat → List PV → Hs → Out PV} {D : Def} {xs : List PV} {h h' : Hs} {c : Nat} {p : PV} (hl : xs.length = D.np) (e : evSs cl D.body (xs.map some ++ List.replicate (D.nn - D.np) none) h = .exc c p h') : evD cl D xs h = .exc c p h' := by
  unfold evD
  rw [if_pos (by rw [hl]; exact Nat.beq_refl _), e]
  rfl
theorem s_xiff {cl : Nat → List PV → Hs → Out PV} {c : E} {a b : Ss} {σ : Sl} {h h1 : Hs} {z : Bool} (e1 : evE cl c σ h = .ok (.bl z) h1) : evS cl (.xiff c a b) σ h = (if z then evSs cl a σ h1 else evSs cl b σ h1) := by
  rw [evS, e1]; cases z <;> rfl
theorem s_xst {cl : Nat → List PV → Hs → Out PV} {s : S} {σ : Sl} {h h1 : Hs} {f : Fl} (e1 : evS cl s σ h = .ok f h1) : evS cl (.xst s) σ h = .ok f h1 := by
  rw [evS, e1]; rfl
theorem s_xret2 {cl : Nat → List PV → Hs → Out PV} {f : Nat} {a b : E} {σ : Sl} {h : Hs} {x y : PV} (e1 : evE cl a σ h = .ok x h) (e2 : evE cl b σ h = .ok y h) : evS cl (.xret (.call f (.cons a (.cons b .nil)))) σ h = (cl f [x, y] h).bind fun v h => .ok (.rt v) h := by
  have : evEs cl (.cons a (.cons b .nil)) σ h = .ok [x, y] h := by rw [evEs, e1, Out.bind_ok, evEs, e2, Out.bind_ok, evEs, Out.bind_ok, Out.bind_ok]
  rw [evS, evC, this]
theorem s_xexp1 {cl : Nat → List PV → Hs → Out PV} {f : Nat} {a : E} {σ : Sl} {h : Hs} {x : PV} (e1 : evE cl a σ h = .ok x h) : evS cl (.xexp (.call f (.cons a .nil))) σ h = (cl f [x] h).bind fun _ h => .ok (.nx σ) h := by
  have : evEs cl (.cons a .nil) σ h = .ok [x] h := by rw [evEs, e1, Out.bind_ok, evEs, Out.bind_ok]
  rw [evS, evC, this]
theorem eq_of_ne {x : PV} (e : cmpV .NotEq x x = some false) : cmpV .Eq x x = some true := by
  have e' : (if plain depthLine x && plain depthLine x then some (!eqv x x) else none) = some false := e
  show (if plain depthLine x && plain depthLine x then some (eqv x x) else none) = some true
  split at e'
  · rename_i c
    rw [if_pos c]
    simp only [Option.some.injEq, Bool.not_eq_false'] at e'
    rw [e']
  · cases e'
theorem range_ok {m : Int} (h : m ≤ 1000000) (h0 : 0 ≤ m) : rangeV [.int m] = some (rangeL 0 m.toNat) := by
  show (if (smallI m && Nat.ble m.toNat 16000000) = true then some (rangeL 0 m.toNat) else none) = _
  rw [if_pos]
  have : smallI m = true := by unfold smallI; rw [decide_eq_true (by omega), decide_eq_true (by omega)]; rfl
  rw [this, Bool.true_and]
  exact Nat.ble_eq_true_of_le (by omega)
theorem i_range {cl : Nat → List PV → Hs → Out PV} {a : E} {σ : Sl} {h h1 : Hs} {m : Int} (e1 : evE cl a σ h = .ok (.int m) h1) (k : m ≤ 1000000) (k0 : 0 ≤ m) : evI cl (.range (.cons a .nil)) σ h = .ok (rangeL 0 m.toNat) h1 := by
  rw [evI, evEs, e1, Out.bind_ok, evEs, Out.bind_ok, Out.bind_ok, range_ok k k0]; rfl
theorem i_it {cl : Nat → List PV → Hs → Out PV} {a : E} {σ : Sl} {h h1 : Hs} {x : PV} {xs : List PV} (e1 : evE cl a σ h = .ok x h1) (e2 : seqOf x = some xs) : evI cl (.it a) σ h = .ok xs h1 := by
  rw [evI, e1, Out.bind_ok, e2]; rfl
end MP

set_option Elab.async false
set_option linter.all false
set_option maxRecDepth 100000
namespace MP
open PySem

/-! ### plain law: the draws -/
def pSpread : Ss := (.cons (.iff (.cmp .GtE (.var 0) (.bin .Pow (.con (.int (10))) (.con (.int (18))))) (.cons (.ret (.var 0)) .nil) .nil) (.cons (.asg (.v 2) (.lst (.cons (.con (.int (2147483629))) (.cons (.con (.int (2147483587))) (.cons (.con (.int (2147483579))) (.cons (.con (.int (2147483563))) (.cons (.con (.int (2147483549))) (.cons (.con (.int (2147483543))) (.cons (.con (.int (2147483497))) .nil))))))))) (.cons (.asg (.v 2) (.bin .Add (.var 2) (.lst (.cons (.con (.int (2147483489))) (.cons (.con (.int (2147483477))) (.cons (.con (.int (2147483423))) (.cons (.con (.int (2147483399))) (.cons (.con (.int (2147483353))) (.cons (.con (.int (2147483323))) .nil))))))))) (.cons (.asg (.v 3) (.bin .Add (.bin .Add (.bin .Mult (.bin .Mod (.bi .int (.cons (.var 0) .nil)) (.con (.int (1000000007)))) (.bin .Add (.bin .Mult (.con (.int (2))) (.var 1)) (.con (.int (69069))))) (.bin .Mult (.var 1) (.con (.int (40503))))) (.con (.int (977))))) (.cons (.asg (.v 4) (.bin .Mod (.bi .int (.cons (.bin .Pow (.var 3) (.con (.int (3)))) .nil)) (.idx (.var 2) (.bin .Mod (.bi .int (.cons (.var 1) .nil)) (.con (.int (13))))))) (.cons (.asg (.v 5) (.bin .Add (.bin .Mod (.bi .int (.cons (.var 0) .nil)) (.con (.int (65537)))) (.con (.int (5))))) (.cons (.asg (.v 6) (.bin .Mod (.bi .int (.cons (.bin .Pow (.bin .Add (.bin .Mult (.var 4) (.bin .Add (.var 1) (.con (.int (3))))) (.var 5)) (.con (.int (5)))) .nil)) (.idx (.var 2) (.bin .Mod (.bi .int (.cons (.bin .Add (.var 1) (.con (.int (5)))) .nil)) (.con (.int (13))))))) (.cons (.asg (.v 7) (.bin .Mod (.bi .int (.cons (.bin .Pow (.bin .Add (.bin .Add (.var 6) (.bin .Mod (.bi .int (.cons (.var 4) .nil)) (.con (.int (1009))))) (.var 1)) (.con (.int (3)))) .nil)) (.idx (.var 2) (.bin .Mod (.bi .int (.cons (.bin .Add (.var 1) (.con (.int (7)))) .nil)) (.con (.int (13))))))) (.cons (.ret (.bin .Add (.bin .Mult (.bin .Add (.bin .Mult (.var 4) (.con (.int (2147483647)))) (.var 6)) (.con (.int (2147483647)))) (.var 7))) .nil)))))))))
def primes : List Int := [2147483629, 2147483587, 2147483579, 2147483563, 2147483549, 2147483543, 2147483497, 2147483489, 2147483477, 2147483423, 2147483399, 2147483353, 2147483323]
theorem prime_at {i : Int} (h : 0 ≤ i) : ∃ p : Int, atL (primes.map .int) (i.fmod 13) = some (.int p) ∧ 2000000000 < p ∧ p < 2147483648 := by
  have h1 : 0 ≤ i.fmod 13 := Int.fmod_nonneg_of_pos _ (by omega)
  have h2 : i.fmod 13 < 13 := Int.fmod_lt_of_pos _ (by omega)
  generalize i.fmod 13 = j at h1 h2
  have : j = 0 ∨ j = 1 ∨ j = 2 ∨ j = 3 ∨ j = 4 ∨ j = 5 ∨ j = 6 ∨ j = 7 ∨ j = 8 ∨ j = 9 ∨ j = 10 ∨ j = 11 ∨ j = 12 := by omega
  rcases this with rfl | rfl | rfl | rfl | rfl | rfl | rfl | rfl | rfl | rfl | rfl | rfl | rfl <;> exact ⟨_, rfl, by omega, by omega⟩
theorem log2_le {n k : Nat} (h : n < 2 ^ k) : n.log2 ≤ k := by
  by_cases z : n = 0
  · subst z; simp
  · have := (Nat.log2_lt z).mpr h
    omega
theorem mulOk_of {i j : Int} (h1 : i.natAbs < 2 ^ 9000) (h2 : j.natAbs < 2 ^ 9000) : mulOk i j = true := by
  have a := log2_le h1
  have b := log2_le h2
  unfold mulOk
  rw [Nat.blt_eq]
  omega
theorem pow_ok {i : Int} {n : Nat} (h1 : 0 ≤ i) (h2 : i < 18446744073709551616) (hn : n ≤ 1000) : binV .Pow (.int i) (.int n) = some (.int (i ^ n)) := by
  show (if 0 ≤ (n : Int) ∧ (n : Int) ≤ 1000 ∧ i.natAbs < 18446744073709551616 then some (PV.int (i ^ (n : Int).toNat)) else none) = _
  rw [if_pos ⟨by omega, by omega, by omega⟩, Int.toNat_natCast]
theorem mod_ok {i j : Int} (h : 0 < j) : binV .Mod (.int i) (.int j) = some (.int (i.fmod j)) := by
  show (if (j == 0) = true then none else some (PV.int (i.fmod j))) = _
  rw [if_neg (by simp; omega)]
theorem mul_ok {i j : Int} (h1 : i.natAbs < 2 ^ 9000) (h2 : j.natAbs < 2 ^ 9000) : binV .Mult (.int i) (.int j) = some (.int (i * j)) := by
  show (if mulOk i j = true then some (PV.int (i * j)) else none) = _
  rw [if_pos (mulOk_of h1 h2)]
theorem big : (10 : Int) ^ 30 < 2 ^ 9000 := by decide +kernel
theorem small_ok {i : Int} (h1 : -1000000000000000000000000000000 < i) (h2 : i < 1000000000000000000000000000000) : i.natAbs < 2 ^ 9000 := by
  have := big
  have e : ((i.natAbs : Nat) : Int) < 2 ^ 9000 := by omega
  have e2 : ((2 ^ 9000 : Nat) : Int) = (2 : Int) ^ 9000 := by simp
  omega
theorem fmod_pos {i j : Int} (h : 0 < j) : 0 ≤ i.fmod j ∧ i.fmod j < j := ⟨Int.fmod_nonneg_of_pos _ h, Int.fmod_lt_of_pos _ h⟩
theorem mul_bd {a b A B : Int} (h1 : 0 ≤ a) (h2 : a ≤ A) (h3 : 0 ≤ b) (h4 : b ≤ B) : 0 ≤ a * b ∧ a * b ≤ A * B := ⟨Int.mul_nonneg h1 h3, Int.mul_le_mul h2 h4 h3 (by omega)⟩
theorem spread_ok {cl : Nat → List PV → Hs → Out PV} {c a : Int} {h : Hs} (h0 : 0 ≤ a) (h1 : a ≤ 1000000) : ∃ r : Int, evD cl ⟨2, 8, pSpread⟩ [.int c, .int a] h = .ok (.int r) h ∧ 0 ≤ r := by
  have e : binV .Pow (.int 10) (.int 18) = some (.int (10 ^ 18)) := pow_ok (n := 18) (by omega) (by omega) (by omega)
  by_cases hc : 10 ^ 18 ≤ c
  · refine ⟨c, d_rt rfl (ss_rt ?_), by omega⟩
    simp only [evS, evE, evSs, evEs, evI, List.map_cons, List.map_nil, List.cons_append, List.nil_append, List.replicate_succ, List.replicate_zero, getS_0, getS_s, List.set_cons_zero, List.set_cons_succ, wipe_nil, wipe_cons, setT_v, setT_t, setTs_nil, setTs_cons, setAll, Option.bind_some, Out.of_some, Out.bind_ok, Nat.reduceSub, e, cmpV, cmpI, decide_eq_true hc]
  · have m1 := mod_ok (i := c) (j := 1000000007) (by omega)
    obtain ⟨b1, b2⟩ := fmod_pos (i := c) (j := 1000000007) (by omega)
    have m2 := mod_ok (i := c) (j := 65537) (by omega)
    obtain ⟨b3, b4⟩ := fmod_pos (i := c) (j := 65537) (by omega)
    generalize c.fmod 1000000007 = u at m1 b1 b2
    generalize c.fmod 65537 = v at m2 b3 b4
    have m3 := mul_ok (i := 2) (j := a) (small_ok (by omega) (by omega)) (small_ok (by omega) (by omega))
    obtain ⟨c1, c2⟩ := mul_bd (a := u) (b := 2 * a + 69069) (A := 1000000007) (B := 2100000) b1 (by omega) (by omega) (by omega)
    have m4 := mul_ok (i := u) (j := 2 * a + 69069) (small_ok (by omega) (by omega)) (small_ok (by omega) (by omega))
    have m5 := mul_ok (i := a) (j := 40503) (small_ok (by omega) (by omega)) (small_ok (by omega) (by omega))
    generalize u * (2 * a + 69069) = w at m4 c1 c2
    have p1 : binV .Pow (.int (w + a * 40503 + 977)) (.int 3) = _ := pow_ok (n := 3) (by omega) (by omega) (by omega)
    generalize (w + a * 40503 + 977) ^ 3 = x at p1
    have k1 := mod_ok (i := a) (j := 13) (by omega)
    have k2 := mod_ok (i := a + 5) (j := 13) (by omega)
    have k3 := mod_ok (i := a + 7) (j := 13) (by omega)
    obtain ⟨q1, i1, l1, u1⟩ := prime_at (i := a) h0
    obtain ⟨q2, i2, l2, u2⟩ := prime_at (i := a + 5) (by omega)
    obtain ⟨q3, i3, l3, u3⟩ := prime_at (i := a + 7) (by omega)
    have n1 := mod_ok (i := x) (j := q1) (by omega)
    obtain ⟨d1, d2⟩ := fmod_pos (i := x) (j := q1) (by omega)
    generalize x.fmod q1 = one at n1 d1 d2
    obtain ⟨f1, f2⟩ := mul_bd (a := one) (b := a + 3) (A := 2147483648) (B := 1000003) d1 (by omega) (by omega) (by omega)
    have m6 := mul_ok (i := one) (j := a + 3) (small_ok (by omega) (by omega)) (small_ok (by omega) (by omega))
    generalize one * (a + 3) = oa at m6 f1 f2
    have p2 : binV .Pow (.int (oa + (v + 5))) (.int 5) = _ := pow_ok (n := 5) (by omega) (by omega) (by omega)
    generalize (oa + (v + 5)) ^ 5 = y at p2
    have n2 := mod_ok (i := y) (j := q2) (by omega)
    obtain ⟨d3, d4⟩ := fmod_pos (i := y) (j := q2) (by omega)
    generalize y.fmod q2 = two at n2 d3 d4
    have n3 := mod_ok (i := one) (j := 1009) (by omega)
    obtain ⟨d5, d6⟩ := fmod_pos (i := one) (j := 1009) (by omega)
    generalize one.fmod 1009 = oo at n3 d5 d6
    have p3 : binV .Pow (.int (two + oo + a)) (.int 3) = _ := pow_ok (n := 3) (by omega) (by omega) (by omega)
    generalize (two + oo + a) ^ 3 = z at p3
    have n4 := mod_ok (i := z) (j := q3) (by omega)
    obtain ⟨d7, d8⟩ := fmod_pos (i := z) (j := q3) (by omega)
    generalize z.fmod q3 = three at n4 d7 d8
    have m7 := mul_ok (i := one) (j := 2147483647) (small_ok (by omega) (by omega)) (small_ok (by omega) (by omega))
    have m8 := mul_ok (i := one * 2147483647 + two) (j := 2147483647) (small_ok (by omega) (by omega)) (small_ok (by omega) (by omega))
    refine ⟨(one * 2147483647 + two) * 2147483647 + three, d_rt rfl ?_, by omega⟩
    have addI : ∀ i j : Int, binV .Add (.int i) (.int j) = some (.int (i + j)) := fun _ _ => rfl
    have ix : ∀ (i : Int) (xs : List PV), idxV h (.lst xs) (.int i) = atL xs i := fun _ _ => rfl
    have pl : ∀ p : List PV, p = [.int 2147483629, .int 2147483587, .int 2147483579, .int 2147483563, .int 2147483549, .int 2147483543, .int 2147483497] → binV .Add (.lst p) (.lst [.int 2147483489, .int 2147483477, .int 2147483423, .int 2147483399, .int 2147483353, .int 2147483323]) = some (.lst (primes.map .int)) := fun _ e => by rw [e]; rfl
    have pl := pl _ rfl
    have nc : decide ((10 : Int) ^ 18 ≤ c) = false := decide_eq_false hc
    have bi : ∀ i : Int, biV h .int [.int i] = some (.int i) := fun _ => rfl
    have sz7 : szOk 7 = true := rfl
    have sz6 : szOk 6 = true := rfl
    unfold pSpread
    simp only [evS, evE, evSs, evEs, evI, List.map_cons, List.map_nil, List.cons_append, List.nil_append, List.replicate_succ, List.replicate_zero, getS_0, getS_s, List.set_cons_zero, List.set_cons_succ, wipe_nil, wipe_cons, setT_v, setT_t, setTs_nil, setTs_cons, setAll, Option.bind_some, Out.of_some, Out.bind_ok, Nat.reduceSub, e, cmpV, cmpI, nc, List.length_cons, List.length_nil, sz7, sz6, addI, ix, pl, bi, m1, m2, m3, m4, m5, p1, k1, k2, k3, i1, i2, i3, n1, m6, p2, n2, n3, p3, n4, m7, m8, if_true, Nat.reduceAdd]

/-- the pen: what is left of the script, how many draws, the rest of the number under way -/
def pen (cs : List Int) (a r : Int) : HV := .lst [.lst (cs.map .int), .int a, .int r]
/-- the pen stands at n, at most B numbers were taken -/
def PenOk (n : Nat) (B : Int) (h : Hs) : Prop := ∃ cs a r, h[n]? = some (pen cs a r) ∧ 0 ≤ a ∧ a ≤ B ∧ 0 ≤ r
theorem PenOk.mono {n : Nat} {B C : Int} {h : Hs} (p : PenOk n B h) (hB : B ≤ C) : PenOk n C h := by
  obtain ⟨cs, a, r, h1, h2, h3, h4⟩ := p
  exact ⟨cs, a, r, h1, h2, by omega, h4⟩
theorem set_at {n : Nat} {h : Hs} {o u : HV} (e : h[n]? = some o) : (h.set n u)[n]? = some u := by
  obtain ⟨hl, _⟩ := List.getElem?_eq_some_iff.mp e
  rw [List.getElem?_set_self hl]
def pTake (sp : Nat) : Ss := (.cons (.iff (.cmp .Lt (.idx (.var 0) (.con (.int (2)))) (.var 1)) (.cons (.asg (.v 3) (.idx (.var 0) (.con (.int (1))))) (.cons (.asg (.v 4) (.con (.int (0)))) (.cons (.iff (.cmp .Lt (.var 3) (.bi .len (.cons (.idx (.var 0) (.con (.int (0)))) .nil))) (.cons (.asg (.v 4) (.idx (.idx (.var 0) (.con (.int (0)))) (.var 3))) .nil) (.cons (.iff (.cmp .Gt (.bi .len (.cons (.idx (.var 0) (.con (.int (0)))) .nil)) (.con (.int (0)))) (.cons (.asg (.v 4) (.bin .Mod (.bi .int (.cons (.idx (.idx (.var 0) (.con (.int (0)))) (.bin .Mod (.bi .int (.cons (.bin .Add (.bin .Mult (.var 3) (.con (.int (5)))) (.con (.int (3)))) .nil)) (.bi .len (.cons (.idx (.var 0) (.con (.int (0)))) .nil)))) .nil)) (.bin .Add (.bin .Pow (.con (.int (10))) (.con (.int (17)))) (.var 3)))) .nil) .nil) .nil)) (.cons (.setR 0 (.con (.int (1))) (.bin .Add (.var 3) (.con (.int (1))))) (.cons (.setR 0 (.con (.int (2))) (.call sp (.cons (.var 4) (.cons (.var 3) .nil)))) .nil))))) .nil) (.cons (.asg (.v 2) (.bin .Mod (.bi .int (.cons (.idx (.var 0) (.con (.int (2)))) .nil)) (.var 1))) (.cons (.setR 0 (.con (.int (2))) (.bin .FloorDiv (.idx (.var 0) (.con (.int (2)))) (.var 1))) (.cons (.ret (.var 2)) .nil))))
theorem idx_ref {h : Hs} {n : Nat} {xs : List PV} (e : h[n]? = some (.lst xs)) (i : Int) : idxV h (.ref n) (.int i) = atL xs i := by
  show (match h[n]? with | some (.lst xs) => atL xs i | _ => none) = _
  rw [e]
theorem setR_ok {cl : Nat → List PV → Hs → Out PV} {i n m : Nat} {k e : E} {σ : Sl} {h h' : Hs} {v : PV} {j : Int} {xs : List PV} (e1 : evE cl e σ h = .ok v h') (e2 : getS σ i = some (.ref n)) (e3 : evE cl k σ h' = .ok (.int j) h')
    (e4 : h'[n]? = some (.lst xs)) (e5 : place xs.length j = some m) : evS cl (.setR i k e) σ h = .ok (.nx σ) (h'.set n (.lst (xs.set m v))) := by
  simp only [evS, e1, Out.bind_ok, e2, Out.of_some, e3, e4, e5]
theorem at_len {xs : List PV} {i : Int} (h0 : 0 ≤ i) (h1 : i < xs.length) : ∃ v, xs[i.toNat]? = some v ∧ atL xs i = some v := by
  have hl : i.toNat < xs.length := by omega
  refine ⟨xs[i.toNat], List.getElem?_eq_getElem hl, ?_⟩
  unfold atL place
  rw [if_pos h0, if_pos h1]
  show xs[i.toNat]? = _
  exact List.getElem?_eq_getElem hl
theorem at_ints {xs : List Int} {i : Int} (h0 : 0 ≤ i) (h1 : i < xs.length) : ∃ v : Int, atL (xs.map .int) i = some (.int v) := by
  obtain ⟨v, e, e2⟩ := at_len (xs := xs.map .int) h0 (by simpa using h1)
  rw [List.getElem?_map] at e
  cases q : xs[i.toNat]? with
  | none => rw [q] at e; cases e
  | some u => rw [q] at e; cases e; exact ⟨u, e2⟩
/-- what spread keeps -/
def SpreadC (cl : Nat → List PV → Hs → Out PV) (sp : Nat) : Prop := ∀ (c a : Int) (h : Hs), 0 ≤ a → a ≤ 1000000 → ∃ r : Int, cl sp [.int c, .int a] h = .ok (.int r) h ∧ 0 ≤ r
/-- what take keeps -/
def TakeC (cl : Nat → List PV → Hs → Out PV) (tk : Nat) : Prop := ∀ (n : Nat) (B m : Int) (h : Hs), PenOk n B h → B ≤ 1000000 → 0 < m → m < 1000000 →
  ∃ (r : Int) (h' : Hs), cl tk [.ref n, .int m] h = .ok (.int r) h' ∧ 0 ≤ r ∧ r < m ∧ PenOk n (B + 1) h' ∧ h'.length = h.length
theorem div_ok {i j : Int} (h : 0 < j) (h2 : j < 1000000000000000000000000000000) : binV .FloorDiv (.int i) (.int j) = some (.int (i.fdiv j)) := by
  show (if divOk j = true then some (PV.int (i.fdiv j)) else none) = _
  rw [if_pos]
  unfold divOk
  have := log2_le (small_ok (i := j) (by omega) h2)
  have e : (j == 0) = false := by simp; omega
  have l : j.natAbs.log2 < 9000 := by
    have h3 : j.natAbs < 2 ^ 100 := by omega
    have := log2_le h3
    omega
  rw [e, Bool.not_false, Bool.true_and, Nat.blt_eq]
  exact l
theorem take_ok {cl : Nat → List PV → Hs → Out PV} {sp : Nat} (S : SpreadC cl sp) {n : Nat} {B m : Int} {h : Hs} (p : PenOk n B h) (hB : B ≤ 1000000) (m0 : 0 < m) (m1 : m < 1000000) :
    ∃ (r : Int) (h' : Hs), evD cl ⟨2, 5, pTake sp⟩ [.ref n, .int m] h = .ok (.int r) h' ∧ 0 ≤ r ∧ r < m ∧ PenOk n (B + 1) h' ∧ h'.length = h.length := by
  obtain ⟨cs, a, r, hn, a0, a1, r0⟩ := p
  have bi : ∀ (h : Hs) (i : Int), biV h .int [.int i] = some (.int i) := fun _ _ => rfl
  have key : ∃ (r' a' : Int) (σ' : Sl) (h1 : Hs), evS cl (match pTake sp with | .cons s _ => s | _ => .pass) [some (.ref n), some (.int m), none, none, none] h = .ok (.nx σ') h1 ∧ (∃ x y, σ' = [some (.ref n), some (.int m), none, x, y]) ∧
      h1[n]? = some (pen cs a' r') ∧ 0 ≤ r' ∧ 0 ≤ a' ∧ a' ≤ B + 1 ∧ h1.length = h.length := by
    have i2 : idxV h (.ref n) (.int 2) = some (.int r) := idx_ref hn 2
    have i1 : idxV h (.ref n) (.int 1) = some (.int a) := idx_ref hn 1
    have i0 : idxV h (.ref n) (.int 0) = some (.lst (cs.map .int)) := idx_ref hn 0
    by_cases c : r < m
    · have dc : decide (r < m) = true := decide_eq_true c
      have len : biV h .len [.lst (cs.map .int)] = some (.int (cs.length : Int)) := by show some (PV.int ((cs.map PV.int).length : Int)) = _; rw [List.length_map]
      -- the cell
      have cell : ∃ c2 : Int, evS cl (.iff (.cmp .Lt (.var 3) (.bi .len (.cons (.idx (.var 0) (.con (.int (0)))) .nil))) (.cons (.asg (.v 4) (.idx (.idx (.var 0) (.con (.int (0)))) (.var 3))) .nil) (.cons (.iff (.cmp .Gt (.bi .len (.cons (.idx (.var 0) (.con (.int (0)))) .nil)) (.con (.int (0)))) (.cons (.asg (.v 4) (.bin .Mod (.bi .int (.cons (.idx (.idx (.var 0) (.con (.int (0)))) (.bin .Mod (.bi .int (.cons (.bin .Add (.bin .Mult (.var 3) (.con (.int (5)))) (.con (.int (3)))) .nil)) (.bi .len (.cons (.idx (.var 0) (.con (.int (0)))) .nil)))) .nil)) (.bin .Add (.bin .Pow (.con (.int (10))) (.con (.int (17)))) (.var 3)))) .nil) .nil) .nil)) [some (.ref n), some (.int m), none, some (.int a), some (.int 0)] h = .ok (.nx [some (.ref n), some (.int m), none, some (.int a), some (.int c2)]) h := by
        have ix : ∀ (i : Int) (xs : List PV), idxV h (.lst xs) (.int i) = atL xs i := fun _ _ => rfl
        by_cases q : a < cs.length
        · obtain ⟨v, hv⟩ := at_ints (xs := cs) a0 q
          have dq : decide (a < (cs.length : Int)) = true := decide_eq_true q
          exact ⟨v, by simp only [evS, evE, evSs, evEs, evI, List.map_cons, List.map_nil, List.cons_append, List.nil_append, List.replicate_succ, List.replicate_zero, getS_0, getS_s, List.set_cons_zero, List.set_cons_succ, wipe_nil, wipe_cons, setT_v, setT_t, setTs_nil, setTs_cons, setAll, Option.bind_some, Out.of_some, Out.bind_ok, Nat.reduceSub, i0, len, cmpV, cmpI, dq, ix, hv]⟩
        · have dq : decide (a < (cs.length : Int)) = false := decide_eq_false q
          by_cases z : 0 < (cs.length : Int)
          · have dz : decide ((0 : Int) < (cs.length : Int)) = true := decide_eq_true z
            have mu := mul_ok (i := a) (j := 5) (small_ok (by omega) (by omega)) (small_ok (by omega) (by omega))
            have md := mod_ok (i := a * 5 + 3) (j := (cs.length : Int)) z
            obtain ⟨f1, f2⟩ := fmod_pos (i := a * 5 + 3) (j := (cs.length : Int)) z
            obtain ⟨v, hv⟩ := at_ints (xs := cs) f1 f2
            have pw : binV .Pow (.int 10) (.int 17) = some (.int (10 ^ 17)) := pow_ok (n := 17) (by omega) (by omega) (by omega)
            have md2 := mod_ok (i := v) (j := 10 ^ 17 + a) (by omega)
            have ad : ∀ i j : Int, binV .Add (.int i) (.int j) = some (.int (i + j)) := fun _ _ => rfl
            exact ⟨v.fmod (10 ^ 17 + a), by simp only [evS, evE, evSs, evEs, evI, List.map_cons, List.map_nil, List.cons_append, List.nil_append, List.replicate_succ, List.replicate_zero, getS_0, getS_s, List.set_cons_zero, List.set_cons_succ, wipe_nil, wipe_cons, setT_v, setT_t, setTs_nil, setTs_cons, setAll, Option.bind_some, Out.of_some, Out.bind_ok, Nat.reduceSub, i0, len, cmpV, cmpI, dq, dz, ix, mu, ad, bi, md, hv, pw, md2]⟩
          · have dz : decide ((0 : Int) < (cs.length : Int)) = false := decide_eq_false z
            exact ⟨0, by simp only [evS, evE, evSs, evEs, evI, List.map_cons, List.map_nil, List.cons_append, List.nil_append, List.replicate_succ, List.replicate_zero, getS_0, getS_s, List.set_cons_zero, List.set_cons_succ, wipe_nil, wipe_cons, setT_v, setT_t, setTs_nil, setTs_cons, setAll, Option.bind_some, Out.of_some, Out.bind_ok, Nat.reduceSub, i0, len, cmpV, cmpI, dq, dz]⟩
      obtain ⟨c2, cell⟩ := cell
      obtain ⟨r', hs, r'0⟩ := S c2 a (h.set n (pen cs (a + 1) r)) a0 (by omega)
      refine ⟨r', a + 1, [some (.ref n), some (.int m), none, some (.int a), some (.int c2)], (h.set n (pen cs (a + 1) r)).set n (pen cs (a + 1) r'), ?_, ⟨_, _, rfl⟩, set_at (set_at hn), r'0, by omega, by omega, by simp⟩
      have s1 : evS cl (.setR 0 (.con (.int (1))) (.bin .Add (.var 3) (.con (.int (1))))) [some (.ref n), some (.int m), none, some (.int a), some (.int c2)] h = .ok (.nx [some (.ref n), some (.int m), none, some (.int a), some (.int c2)]) (h.set n (pen cs (a + 1) r)) :=
        setR_ok (m := 1) (j := 1) (v := .int (a + 1)) (by simp only [evS, evE, evSs, evEs, evI, List.map_cons, List.map_nil, List.cons_append, List.nil_append, List.replicate_succ, List.replicate_zero, getS_0, getS_s, List.set_cons_zero, List.set_cons_succ, wipe_nil, wipe_cons, setT_v, setT_t, setTs_nil, setTs_cons, setAll, Option.bind_some, Out.of_some, Out.bind_ok, Nat.reduceSub, binV]) rfl rfl hn rfl
      have s2 : evS cl (.setR 0 (.con (.int (2))) (.call sp (.cons (.var 4) (.cons (.var 3) .nil)))) [some (.ref n), some (.int m), none, some (.int a), some (.int c2)] (h.set n (pen cs (a + 1) r)) = .ok (.nx [some (.ref n), some (.int m), none, some (.int a), some (.int c2)]) ((h.set n (pen cs (a + 1) r)).set n (pen cs (a + 1) r')) :=
        setR_ok (h' := h.set n (pen cs (a + 1) r)) (m := 2) (j := 2) (v := .int r') (by simp only [evS, evE, evSs, evEs, evI, List.map_cons, List.map_nil, List.cons_append, List.nil_append, List.replicate_succ, List.replicate_zero, getS_0, getS_s, List.set_cons_zero, List.set_cons_succ, wipe_nil, wipe_cons, setT_v, setT_t, setTs_nil, setTs_cons, setAll, Option.bind_some, Out.of_some, Out.bind_ok, Nat.reduceSub, hs]) rfl rfl (set_at hn) rfl
      have s3 : evS cl (.asg (.v 3) (.idx (.var 0) (.con (.int (1))))) [some (.ref n), some (.int m), none, none, none] h = .ok (.nx [some (.ref n), some (.int m), none, some (.int a), none]) h := by simp only [evS, evE, evSs, evEs, evI, List.map_cons, List.map_nil, List.cons_append, List.nil_append, List.replicate_succ, List.replicate_zero, getS_0, getS_s, List.set_cons_zero, List.set_cons_succ, wipe_nil, wipe_cons, setT_v, setT_t, setTs_nil, setTs_cons, setAll, Option.bind_some, Out.of_some, Out.bind_ok, Nat.reduceSub, i1]
      have s4 : evS cl (.asg (.v 4) (.con (.int (0)))) [some (.ref n), some (.int m), none, some (.int a), none] h = .ok (.nx [some (.ref n), some (.int m), none, some (.int a), some (.int 0)]) h := by simp only [evS, evE, evSs, evEs, evI, List.map_cons, List.map_nil, List.cons_append, List.nil_append, List.replicate_succ, List.replicate_zero, getS_0, getS_s, List.set_cons_zero, List.set_cons_succ, wipe_nil, wipe_cons, setT_v, setT_t, setTs_nil, setTs_cons, setAll, Option.bind_some, Out.of_some, Out.bind_ok, Nat.reduceSub]
      show evS cl (.iff (.cmp .Lt (.idx (.var 0) (.con (.int (2)))) (.var 1)) (.cons _ (.cons _ (.cons _ (.cons _ (.cons _ .nil))))) .nil) _ h = _
      have cnd : evE cl (.cmp .Lt (.idx (.var 0) (.con (.int (2)))) (.var 1)) [some (.ref n), some (.int m), none, none, none] h = .ok (.bl true) h := by simp only [evS, evE, evSs, evEs, evI, List.map_cons, List.map_nil, List.cons_append, List.nil_append, List.replicate_succ, List.replicate_zero, getS_0, getS_s, List.set_cons_zero, List.set_cons_succ, wipe_nil, wipe_cons, setT_v, setT_t, setTs_nil, setTs_cons, setAll, Option.bind_some, Out.of_some, Out.bind_ok, Nat.reduceSub, i2, cmpV, cmpI, dc]
      rw [evS, cnd]
      show evSs cl (.cons _ (.cons _ (.cons _ (.cons _ (.cons _ .nil))))) _ h = _
      rw [ss_nx s3, ss_nx s4, ss_nx cell, ss_nx s1, ss_nx s2]
      rfl
    · have dc : decide (r < m) = false := decide_eq_false c
      refine ⟨r, a, [some (.ref n), some (.int m), none, none, none], h, ?_, ⟨_, _, rfl⟩, hn, r0, a0, by omega, rfl⟩
      have cnd : evE cl (.cmp .Lt (.idx (.var 0) (.con (.int (2)))) (.var 1)) [some (.ref n), some (.int m), none, none, none] h = .ok (.bl false) h := by simp only [evS, evE, evSs, evEs, evI, List.map_cons, List.map_nil, List.cons_append, List.nil_append, List.replicate_succ, List.replicate_zero, getS_0, getS_s, List.set_cons_zero, List.set_cons_succ, wipe_nil, wipe_cons, setT_v, setT_t, setTs_nil, setTs_cons, setAll, Option.bind_some, Out.of_some, Out.bind_ok, Nat.reduceSub, i2, cmpV, cmpI, dc]
      show evS cl (.iff (.cmp .Lt (.idx (.var 0) (.con (.int (2)))) (.var 1)) (.cons _ (.cons _ (.cons _ (.cons _ (.cons _ .nil))))) .nil) _ h = _
      rw [evS, cnd]
      rfl
  obtain ⟨r', a', σ', h1, k1, ⟨x, y, rfl⟩, k2, k3, k4, k5, k6⟩ := key
  have i2 : idxV h1 (.ref n) (.int 2) = some (.int r') := idx_ref k2 2
  have md := mod_ok (i := r') (j := m) m0
  have dv := div_ok (i := r') (j := m) m0 (by omega)
  obtain ⟨f1, f2⟩ := fmod_pos (i := r') (j := m) m0
  refine ⟨r'.fmod m, h1.set n (pen cs a' (r'.fdiv m)), d_rt rfl ?_, f1, f2, ⟨cs, a', _, set_at k2, k4, k5, Int.fdiv_nonneg k3 (by omega)⟩, by simpa using k6⟩
  show evSs cl (.cons _ (.cons _ (.cons _ (.cons _ .nil)))) [some (.ref n), some (.int m), none, none, none] h = _
  refine (ss_nx k1).trans ?_
  have t1 : evS cl (.asg (.v 2) (.bin .Mod (.bi .int (.cons (.idx (.var 0) (.con (.int (2)))) .nil)) (.var 1))) [some (.ref n), some (.int m), none, x, y] h1 = .ok (.nx [some (.ref n), some (.int m), some (.int (r'.fmod m)), x, y]) h1 := by simp only [evS, evE, evSs, evEs, evI, List.map_cons, List.map_nil, List.cons_append, List.nil_append, List.replicate_succ, List.replicate_zero, getS_0, getS_s, List.set_cons_zero, List.set_cons_succ, wipe_nil, wipe_cons, setT_v, setT_t, setTs_nil, setTs_cons, setAll, Option.bind_some, Out.of_some, Out.bind_ok, Nat.reduceSub, i2, bi, md]
  have t2 : evS cl (.setR 0 (.con (.int (2))) (.bin .FloorDiv (.idx (.var 0) (.con (.int (2)))) (.var 1))) [some (.ref n), some (.int m), some (.int (r'.fmod m)), x, y] h1 = .ok (.nx [some (.ref n), some (.int m), some (.int (r'.fmod m)), x, y]) (h1.set n (pen cs a' (r'.fdiv m))) :=
    setR_ok (h' := h1) (m := 2) (j := 2) (v := .int (r'.fdiv m)) (by simp only [evS, evE, evSs, evEs, evI, List.map_cons, List.map_nil, List.cons_append, List.nil_append, List.replicate_succ, List.replicate_zero, getS_0, getS_s, List.set_cons_zero, List.set_cons_succ, wipe_nil, wipe_cons, setT_v, setT_t, setTs_nil, setTs_cons, setAll, Option.bind_some, Out.of_some, Out.bind_ok, Nat.reduceSub, i2, dv]) rfl rfl k2 rfl
  exact (ss_nx t1).trans ((ss_nx t2).trans (ss_rt (by simp only [evS, evE, evSs, evEs, evI, List.map_cons, List.map_nil, List.cons_append, List.nil_append, List.replicate_succ, List.replicate_zero, getS_0, getS_s, List.set_cons_zero, List.set_cons_succ, wipe_nil, wipe_cons, setT_v, setT_t, setTs_nil, setTs_cons, setAll, Option.bind_some, Out.of_some, Out.bind_ok, Nat.reduceSub])))
/-- open: the pen is laid -/
def pOpen : Ss := (.cons (.asg (.v 1) (.bi .list (.cons (.slc (.var 0) (.con .non) (.con (.int (12)))) .nil))) (.cons (.forr [1] (.t (.cons (.v 2) (.cons (.v 3) .nil))) (.enum (.slc (.var 0) (.con (.int (12))) (.con (.int (63))))) (.cons (.setI 1 (.bin .Mod (.bi .int (.cons (.var 2) .nil)) (.con (.int (12)))) (.bin .Add (.idx (.var 1) (.bin .Mod (.bi .int (.cons (.var 2) .nil)) (.con (.int (12))))) (.var 3))) .nil)) (.cons (.ret (.shr (.cons (.var 1) (.cons (.con (.int (0))) (.cons (.con (.int (0))) .nil))))) .nil)))
theorem open_ok {cl : Nat → List PV → Hs → Out PV} {ns : List Int} {h : Hs} : ∃ cs : List Int, evD cl ⟨1, 4, pOpen⟩ [.scr (ns.map .int)] h = .ok (.ref h.length) (h ++ [pen cs 0 0]) := by
  let c0 : List Int := ns.take 12
  have s1 : evS cl (.asg (.v 1) (.bi .list (.cons (.slc (.var 0) (.con .non) (.con (.int (12)))) .nil))) [some (.scr (ns.map .int)), none, none, none] h = .ok (.nx [some (.scr (ns.map .int)), some (.lst (c0.map .int)), none, none]) h := by
    have e : slcV (.scr (ns.map .int)) none (some 12) = some (.lst (c0.map .int)) := by
      show some (PV.lst (cut _ none (some 12))) = _
      have : cut (ns.map PV.int) none (some 12) = (ns.take 12).map .int := by
        unfold cut clip
        simp [List.map_take, Nat.min_comm]
      rw [this]
    have b : ∀ xs, biV h .list [.lst xs] = some (.lst xs) := fun _ => rfl
    simp only [evS, evE, evSs, evEs, evI, List.map_cons, List.map_nil, List.cons_append, List.nil_append, List.replicate_succ, List.replicate_zero, getS_0, getS_s, List.set_cons_zero, List.set_cons_succ, wipe_nil, wipe_cons, setT_v, setT_t, setTs_nil, setTs_cons, setAll, Option.bind_some, Out.of_some, Out.bind_ok, Nat.reduceSub, partV, e, b]
  let r0 : List Int := (ns.take 63).drop 12
  have it : evI cl (.enum (.slc (.var 0) (.con (.int (12))) (.con (.int (63))))) [some (.scr (ns.map .int)), some (.lst (c0.map .int)), none, none] h = .ok (enumL 0 (r0.map .int)) h := by
    have e : slcV (.scr (ns.map .int)) (some 12) (some 63) = some (.lst (r0.map .int)) := by
      show some (PV.lst (cut _ (some 12) (some 63))) = _
      have : cut (ns.map PV.int) (some 12) (some 63) = ((ns.take 63).drop 12).map .int := by
        unfold cut clip
        simp only [List.length_map]
        rw [if_neg (by omega), if_neg (by omega), List.map_drop, List.map_take]
        show ((ns.map PV.int).drop (min 12 ns.length)).take (min 63 ns.length - min 12 ns.length) = _
        by_cases q : 12 ≤ ns.length
        · rw [Nat.min_eq_left q, List.drop_take]
          by_cases q2 : 63 ≤ ns.length
          · rw [Nat.min_eq_left q2]
          · rw [Nat.min_eq_right (by omega), List.take_of_length_le (by simp), List.take_of_length_le (by simp; omega)]
        · rw [Nat.min_eq_right (by omega : ns.length ≤ 12), Nat.min_eq_right (by omega : ns.length ≤ 63), Nat.sub_self, List.take_zero, List.drop_eq_nil_of_le (by simp; omega)]
      rw [this]
    simp only [evS, evE, evSs, evEs, evI, List.map_cons, List.map_nil, List.cons_append, List.nil_append, List.replicate_succ, List.replicate_zero, getS_0, getS_s, List.set_cons_zero, List.set_cons_succ, wipe_nil, wipe_cons, setT_v, setT_t, setTs_nil, setTs_cons, setAll, Option.bind_some, Out.of_some, Out.bind_ok, Nat.reduceSub, partV, e, seqOf]
  have lp := for_rule (t := .t (.cons (.v 2) (.cons (.v 3) .nil))) (b := evSs cl (.cons (.setI 1 (.bin .Mod (.bi .int (.cons (.var 2) .nil)) (.con (.int (12)))) (.bin .Add (.idx (.var 1) (.bin .Mod (.bi .int (.cons (.var 2) .nil)) (.con (.int (12))))) (.var 3))) .nil))
    (fun rest σ h' => h' = h ∧ ∃ (cs ys : List Int) (k : Int) (x y : Option PV), 0 ≤ k ∧ rest = enumL k (ys.map .int) ∧ (ys ≠ [] → cs.length = 12) ∧ σ = [some (.scr (ns.map .int)), some (.lst (cs.map .int)), x, y])
    (by
      rintro x xs σ h' ⟨rfl, cs, ys, k, u, v, k0, e, l, rfl⟩
      cases ys with
      | nil => cases e
      | cons y ys =>
        simp only [List.map_cons, enumL, List.cons.injEq] at e
        obtain ⟨rfl, rfl⟩ := e
        have l := l (List.cons_ne_nil _ _)
        obtain ⟨f1, f2⟩ := fmod_pos (i := k) (j := 12) (by omega)
        have md := mod_ok (i := k) (j := 12) (by omega)
        obtain ⟨w, hw⟩ := at_ints (xs := cs) (i := k.fmod 12) f1 (by omega)
        have bi : biV h' .int [.int k] = some (.int k) := rfl
        have ix : idxV h' (.lst (cs.map .int)) (.int (k.fmod 12)) = some (.int w) := hw
        have sv : setV (.lst (cs.map .int)) (.int (k.fmod 12)) (.int (w + y)) = some (.lst ((cs.set (k.fmod 12).toNat (w + y)).map .int)) := by
          show (place (cs.map PV.int).length (k.fmod 12)).map _ = _
          unfold place
          rw [if_pos f1, if_pos (by rw [List.length_map]; omega)]
          show some (PV.lst ((cs.map PV.int).set _ _)) = _
          rw [List.map_set]
        have ad : binV .Add (.int w) (.int y) = some (.int (w + y)) := rfl
        refine ⟨[some (.scr (ns.map .int)), some (.lst (cs.map .int)), some (.int k), some (.int y)], [some (.scr (ns.map .int)), some (.lst ((cs.set (k.fmod 12).toNat (w + y)).map .int)), some (.int k), some (.int y)], h', ?_, .inl ?_, rfl, _, ys, k + 1, _, _, by omega, rfl, fun _ => by simpa using l, rfl⟩
        · simp only [evS, evE, evSs, evEs, evI, List.map_cons, List.map_nil, List.cons_append, List.nil_append, List.replicate_succ, List.replicate_zero, getS_0, getS_s, List.set_cons_zero, List.set_cons_succ, wipe_nil, wipe_cons, setT_v, setT_t, setTs_nil, setTs_cons, setAll, Option.bind_some, Out.of_some, Out.bind_ok, Nat.reduceSub]
        · simp only [evS, evE, evSs, evEs, evI, List.map_cons, List.map_nil, List.cons_append, List.nil_append, List.replicate_succ, List.replicate_zero, getS_0, getS_s, List.set_cons_zero, List.set_cons_succ, wipe_nil, wipe_cons, setT_v, setT_t, setTs_nil, setTs_cons, setAll, Option.bind_some, Out.of_some, Out.bind_ok, Nat.reduceSub, bi, md, ix, ad, sv])
  obtain ⟨σ', h', e1, rfl, cs, ys, k, u, v, _, e2, _, rfl⟩ := lp (enumL 0 (r0.map .int)) [some (.scr (ns.map .int)), some (.lst (c0.map .int)), none, none] h ⟨rfl, c0, r0, 0, none, none, by omega, rfl, fun hr => by
    have : r0.length ≠ 0 := fun z => hr (List.eq_nil_of_length_eq_zero z)
    show (ns.take 12).length = 12
    simp only [r0, List.length_drop, List.length_take] at this ⊢
    omega, rfl⟩
  refine ⟨cs, d_rt rfl ((ss_nx s1).trans ?_)⟩
  refine (ss_nx (by rw [evS, it]; exact e1)).trans (ss_rt ?_)
  have z : szOk 3 = true := rfl
  simp only [evS, evE, evSs, evEs, evI, List.map_cons, List.map_nil, List.cons_append, List.nil_append, List.replicate_succ, List.replicate_zero, getS_0, getS_s, List.set_cons_zero, List.set_cons_succ, wipe_nil, wipe_cons, setT_v, setT_t, setTs_nil, setTs_cons, setAll, Option.bind_some, Out.of_some, Out.bind_ok, Nat.reduceSub, List.length_cons, List.length_nil, Nat.reduceAdd, z, if_true]
  rfl
/-- anew -/
def pAnew : Ss := (.cons (.setR 0 (.con (.int (2))) (.con (.int (0)))) (.cons (.ret (.var 0)) .nil))
theorem anew_ok {cl : Nat → List PV → Hs → Out PV} {n : Nat} {B : Int} {h : Hs} (p : PenOk n B h) : ∃ h', evD cl ⟨1, 1, pAnew⟩ [.ref n] h = .ok (.ref n) h' ∧ PenOk n B h' ∧ h'.length = h.length := by
  obtain ⟨cs, a, r, hn, a0, a1, r0⟩ := p
  have s1 : evS cl (.setR 0 (.con (.int (2))) (.con (.int (0)))) [some (.ref n)] h = .ok (.nx [some (.ref n)]) (h.set n (pen cs a 0)) := setR_ok (h' := h) (m := 2) (j := 2) (v := .int 0) rfl rfl rfl hn rfl
  exact ⟨_, d_rt rfl ((ss_nx s1).trans (ss_rt (by simp only [evS, evE, evSs, evEs, evI, List.map_cons, List.map_nil, List.cons_append, List.nil_append, List.replicate_succ, List.replicate_zero, getS_0, getS_s, List.set_cons_zero, List.set_cons_succ, wipe_nil, wipe_cons, setT_v, setT_t, setTs_nil, setTs_cons, setAll, Option.bind_some, Out.of_some, Out.bind_ok, Nat.reduceSub]))), ⟨cs, a, 0, set_at hn, a0, a1, by omega⟩, by simp⟩
/-- one of a list -/
def pOne (tk : Nat) : Ss := (.cons (.ret (.idx (.var 1) (.call tk (.cons (.var 0) (.cons (.bi .len (.cons (.var 1) .nil)) .nil))))) .nil)
def OneC (cl : Nat → List PV → Hs → Out PV) (on : Nat) : Prop := ∀ (n : Nat) (B : Int) (xs : List PV) (h : Hs), PenOk n B h → B ≤ 1000000 → xs ≠ [] → xs.length < 1000000 →
  ∃ (v : PV) (h' : Hs), v ∈ xs ∧ cl on [.ref n, .lst xs] h = .ok v h' ∧ PenOk n (B + 1) h' ∧ h'.length = h.length
theorem one_ok {cl : Nat → List PV → Hs → Out PV} {tk : Nat} (T : TakeC cl tk) {n : Nat} {B : Int} {xs : List PV} {h : Hs} (p : PenOk n B h) (hB : B ≤ 1000000) (x0 : xs ≠ []) (x1 : xs.length < 1000000) :
    ∃ (v : PV) (h' : Hs), v ∈ xs ∧ evD cl ⟨2, 2, pOne tk⟩ [.ref n, .lst xs] h = .ok v h' ∧ PenOk n (B + 1) h' ∧ h'.length = h.length := by
  have l0 : xs.length ≠ 0 := fun z => x0 (List.eq_nil_of_length_eq_zero z)
  obtain ⟨r, h', e, r0, r1, p', hl⟩ := T n B xs.length h p hB (by omega) (by omega)
  obtain ⟨v, e1, e2⟩ := at_len (xs := xs) r0 r1
  have len : biV h .len [.lst xs] = some (.int (xs.length : Int)) := rfl
  have ix : idxV h' (.lst xs) (.int r) = some v := e2
  exact ⟨v, h', List.mem_of_getElem? e1, d_rt rfl (ss_rt (by simp only [evS, evE, evSs, evEs, evI, List.map_cons, List.map_nil, List.cons_append, List.nil_append, List.replicate_succ, List.replicate_zero, getS_0, getS_s, List.set_cons_zero, List.set_cons_succ, wipe_nil, wipe_cons, setT_v, setT_t, setTs_nil, setTs_cons, setAll, Option.bind_some, Out.of_some, Out.bind_ok, Nat.reduceSub, len, e, ix])), p', hl⟩
end MP

set_option Elab.async false
set_option linter.all false
set_option maxRecDepth 100000
set_option exponentiation.threshold 100
namespace MP
open PySem

/-! ### plain law: fractions -/
abbrev Big : Nat := 2 ^ 9000
theorem log2_lt {n : Nat} (h0 : n ≠ 0) (h : n < Big) : n.log2 < 9000 := (Nat.log2_lt h0).mpr h
theorem div_big {i j : Int} (h : 0 < j) (h2 : j.natAbs < Big) : binV .FloorDiv (.int i) (.int j) = some (.int (i.fdiv j)) := by
  show (if divOk j = true then some (PV.int (i.fdiv j)) else none) = _
  rw [if_pos]
  have e : (j == 0) = false := by simp; omega
  have l := log2_lt (n := j.natAbs) (by omega) h2
  unfold divOk
  rw [e, Bool.not_false, Bool.true_and, Nat.blt_eq]
  exact l
theorem fdiv_nat (a b : Nat) : (a : Int).fdiv (b : Int) = ((a / b : Nat) : Int) := by
  rw [Int.fdiv_eq_ediv_of_nonneg _ (by omega)]
  exact (Int.natCast_ediv a b).symm
theorem fmod_nat (a b : Nat) : (a : Int).fmod (b : Int) = ((a % b : Nat) : Int) := by
  rw [Int.fmod_eq_emod_of_nonneg _ (by omega)]
  exact (Int.natCast_emod a b).symm
/-- what is left of Euclid's steps -/
def em (a b : Nat) : Nat := if b = 0 then 0 else if b ≤ a then (a * b).log2 + 1 else (a * b).log2 + 2
theorem em_step {a b : Nat} (h : 0 < b) : em b (a % b) < em a b := by
  have hb : b ≠ 0 := by omega
  have hm := Nat.mod_lt a h
  unfold em
  rw [if_neg hb]
  by_cases z : a % b = 0
  · rw [if_pos z]; split <;> omega
  · rw [if_neg z, if_pos (by omega)]
    by_cases c : b ≤ a
    · rw [if_pos c]
      have q := Nat.div_add_mod a b
      have q1 : 1 ≤ a / b := (Nat.one_le_div_iff h).mpr c
      have q2 : b * 1 ≤ b * (a / b) := Nat.mul_le_mul_left b q1
      have h3 : 2 * (a % b) ≤ a := by omega
      have h4 : 2 * (b * (a % b)) ≤ a * b := by
        calc 2 * (b * (a % b)) = 2 * (a % b) * b := by rw [Nat.mul_comm b, Nat.mul_assoc]
          _ ≤ a * b := Nat.mul_le_mul_right b h3
      have nz : b * (a % b) ≠ 0 := Nat.mul_ne_zero hb z
      have nz2 : a * b ≠ 0 := by omega
      have l1 : 2 ^ (b * (a % b)).log2 ≤ b * (a % b) := (Nat.le_log2 nz).mp (Nat.le_refl _)
      have l2 : (b * (a % b)).log2 + 1 ≤ (a * b).log2 := (Nat.le_log2 nz2).mpr (by rw [Nat.pow_succ]; omega)
      omega
    · rw [if_neg c, Nat.mod_eq_of_lt (by omega), Nat.mul_comm b a]
      omega
theorem em_le {a b : Nat} (ha : a < Big) (hb : b < Big) : em a b < turns := by
  unfold em
  have : (a * b).log2 ≤ 18000 := by
    by_cases z : a * b = 0
    · rw [z]; simp
    · refine Nat.le_of_lt ((Nat.log2_lt z).mpr ?_)
      have : (2 : Nat) ^ 18000 = Big * Big := by
        show (2 : Nat) ^ 18000 = 2 ^ 9000 * 2 ^ 9000
        rw [← Nat.pow_add]
      rw [this]
      exact Nat.mul_lt_mul'' ha hb
  unfold turns
  split
  · omega
  · split <;> omega
/-- Euclid's loop, whatever writes the rest of a division -/
theorem euclid {cl : Nat → List PV → Hs → Out PV} {x : E} {h : Hs} {tl : Sl}
    (rest : ∀ a b : Nat, a < Big → 0 < b → b < Big → evE cl x (some (.int a) :: some (.int b) :: tl) h = .ok (.int ((a % b : Nat) : Int)) h) {a b : Nat} (ha : a < Big) (hb : b < Big) :
    evS cl (.whl [1] (.cmp .Gt (.var 1) (.con (.int (0)))) (.cons (.par [0, 1] (.cons (.var 1) (.cons x .nil))) .nil)) (some (.int a) :: some (.int b) :: tl) h = .ok (.nx (some (.int (Nat.gcd a b)) :: some (.int 0) :: tl)) h := by
  have lp := while_rule (c := evE cl (.cmp .Gt (.var 1) (.con (.int (0))))) (b := evSs cl (.cons (.par [0, 1] (.cons (.var 1) (.cons x .nil))) .nil))
    (fun m σ h' => h' = h ∧ ∃ c d : Nat, m = em c d ∧ c < Big ∧ d < Big ∧ Nat.gcd c d = Nat.gcd a b ∧ σ = some (.int c) :: some (.int d) :: tl)
    (fun σ h' => h' = h ∧ σ = some (.int (Nat.gcd a b)) :: some (.int 0) :: tl)
    (by
      rintro m σ h' ⟨rfl, c, d, rfl, hc, hd, e, rfl⟩
      by_cases z : d = 0
      · subst z
        have dc : decide ((0 : Int) < ((0 : Nat) : Int)) = false := rfl
        refine .inl ⟨by simp only [evS, evE, evSs, evEs, evI, List.map_cons, List.map_nil, List.cons_append, List.nil_append, List.replicate_succ, List.replicate_zero, getS_0, getS_s, List.set_cons_zero, List.set_cons_succ, wipe_nil, wipe_cons, setT_v, setT_t, setTs_nil, setTs_cons, setAll, Option.bind_some, Out.of_some, Out.bind_ok, Nat.reduceSub, cmpV, cmpI, dc], rfl, ?_⟩
        rw [← e, Nat.gcd_zero_right]
        rfl
      · have dc : decide ((0 : Int) < (d : Int)) = true := decide_eq_true (by omega)
        have r := rest c d hc (by omega) hd
        refine .inr ⟨by simp only [evS, evE, evSs, evEs, evI, List.map_cons, List.map_nil, List.cons_append, List.nil_append, List.replicate_succ, List.replicate_zero, getS_0, getS_s, List.set_cons_zero, List.set_cons_succ, wipe_nil, wipe_cons, setT_v, setT_t, setTs_nil, setTs_cons, setAll, Option.bind_some, Out.of_some, Out.bind_ok, Nat.reduceSub, cmpV, cmpI, dc], em d (c % d), some (.int d) :: some (.int ((c % d : Nat) : Int)) :: tl, h', em_step (by omega), .inl ?_, rfl, d, c % d, rfl, hd, Nat.lt_trans (Nat.mod_lt c (by omega)) hd, ?_, rfl⟩
        · simp only [evS, evE, evSs, evEs, evI, List.map_cons, List.map_nil, List.cons_append, List.nil_append, List.replicate_succ, List.replicate_zero, getS_0, getS_s, List.set_cons_zero, List.set_cons_succ, wipe_nil, wipe_cons, setT_v, setT_t, setTs_nil, setTs_cons, setAll, Option.bind_some, Out.of_some, Out.bind_ok, Nat.reduceSub, r]
        · rw [← e, Nat.gcd_comm c d, Nat.gcd_rec d c, Nat.gcd_comm])
  obtain ⟨σ', h', e1, rfl, rfl⟩ := lp turns (em a b) (some (.int a) :: some (.int b) :: tl) h (em_le ha hb) ⟨rfl, a, b, rfl, ha, hb, rfl, rfl⟩
  rw [evS]
  exact e1
theorem abs_bi (h : Hs) (i : Int) : biV h .abs [.int i] = some (.int (i.natAbs : Int)) := by
  show some (PV.int (if i < 0 then -i else i)) = _
  congr 2
  split <;> omega
/-- the program's own divisor -/
def pDivisor : Ss := (.cons (.par [0, 1] (.cons (.bi .abs (.cons (.var 0) .nil)) (.cons (.bi .abs (.cons (.var 1) .nil)) .nil))) (.cons (.whl [1] (.cmp .Gt (.var 1) (.con (.int (0)))) (.cons (.par [0, 1] (.cons (.var 1) (.cons (.bin .Sub (.var 0) (.bin .Mult (.bin .FloorDiv (.var 0) (.var 1)) (.var 1))) .nil))) .nil)) (.cons (.ret (.var 0)) .nil)))
theorem divisor_ok {cl : Nat → List PV → Hs → Out PV} {a b : Int} {h : Hs} (ha : a.natAbs < Big) (hb : b.natAbs < Big) : evD cl ⟨2, 2, pDivisor⟩ [.int a, .int b] h = .ok (.int (Int.gcd a b)) h := by
  have s1 : evS cl (.par [0, 1] (.cons (.bi .abs (.cons (.var 0) .nil)) (.cons (.bi .abs (.cons (.var 1) .nil)) .nil))) [some (.int a), some (.int b)] h = .ok (.nx [some (.int (a.natAbs : Int)), some (.int (b.natAbs : Int))]) h := by
    simp only [evS, evE, evSs, evEs, evI, List.map_cons, List.map_nil, List.cons_append, List.nil_append, List.replicate_succ, List.replicate_zero, getS_0, getS_s, List.set_cons_zero, List.set_cons_succ, wipe_nil, wipe_cons, setT_v, setT_t, setTs_nil, setTs_cons, setAll, Option.bind_some, Out.of_some, Out.bind_ok, Nat.reduceSub, abs_bi]
  refine d_rt rfl ((ss_nx s1).trans ((ss_nx (euclid (tl := []) (fun c d hc d0 hd => ?_) ha hb)).trans (ss_rt (by simp only [evS, evE, evSs, evEs, evI, List.map_cons, List.map_nil, List.cons_append, List.nil_append, List.replicate_succ, List.replicate_zero, getS_0, getS_s, List.set_cons_zero, List.set_cons_succ, wipe_nil, wipe_cons, setT_v, setT_t, setTs_nil, setTs_cons, setAll, Option.bind_some, Out.of_some, Out.bind_ok, Nat.reduceSub]; rfl))))
  have dv := div_big (i := (c : Int)) (j := (d : Int)) (by omega) (by rw [Int.natAbs_natCast]; exact hd)
  rw [fdiv_nat] at dv
  have q := Nat.div_add_mod c d
  have le : c / d * d ≤ c := Nat.div_mul_le_self c d
  have mu := mul_ok (i := ((c / d : Nat) : Int)) (j := (d : Int)) (by rw [Int.natAbs_natCast]; exact Nat.lt_of_le_of_lt (Nat.div_le_self c d) hc) (by rw [Int.natAbs_natCast]; exact hd)
  have sb : binV .Sub (.int (c : Int)) (.int (((c / d : Nat) : Int) * (d : Int))) = some (.int ((c % d : Nat) : Int)) := by
    show some (PV.int ((c : Int) - ((c / d : Nat) : Int) * (d : Int))) = _
    congr 2
    have e : (((c / d : Nat) : Int) * (d : Int)) = ((c / d * d : Nat) : Int) := by simp
    rw [e]
    have : c % d = c - c / d * d := by rw [Nat.mul_comm]; omega
    omega
  simp only [evS, evE, evSs, evEs, evI, List.map_cons, List.map_nil, List.cons_append, List.nil_append, List.replicate_succ, List.replicate_zero, getS_0, getS_s, List.set_cons_zero, List.set_cons_succ, wipe_nil, wipe_cons, setT_v, setT_t, setTs_nil, setTs_cons, setAll, Option.bind_some, Out.of_some, Out.bind_ok, Nat.reduceSub, dv, mu, sb]
/-- the law's own divisor -/
def pLDivisor : Ss := (.cons (.par [0, 1] (.cons (.bi .abs (.cons (.var 0) .nil)) (.cons (.bi .abs (.cons (.var 1) .nil)) .nil))) (.cons (.whl [1] (.cmp .Gt (.var 1) (.con (.int (0)))) (.cons (.par [0, 1] (.cons (.var 1) (.cons (.bin .Mod (.bi .int (.cons (.var 0) .nil)) (.var 1)) .nil))) .nil)) (.cons (.ret (.var 0)) .nil)))
theorem ldivisor_ok {cl : Nat → List PV → Hs → Out PV} {a b : Int} {h : Hs} (ha : a.natAbs < Big) (hb : b.natAbs < Big) : evD cl ⟨2, 2, pLDivisor⟩ [.int a, .int b] h = .ok (.int (Int.gcd a b)) h := by
  have s1 : evS cl (.par [0, 1] (.cons (.bi .abs (.cons (.var 0) .nil)) (.cons (.bi .abs (.cons (.var 1) .nil)) .nil))) [some (.int a), some (.int b)] h = .ok (.nx [some (.int (a.natAbs : Int)), some (.int (b.natAbs : Int))]) h := by
    simp only [evS, evE, evSs, evEs, evI, List.map_cons, List.map_nil, List.cons_append, List.nil_append, List.replicate_succ, List.replicate_zero, getS_0, getS_s, List.set_cons_zero, List.set_cons_succ, wipe_nil, wipe_cons, setT_v, setT_t, setTs_nil, setTs_cons, setAll, Option.bind_some, Out.of_some, Out.bind_ok, Nat.reduceSub, abs_bi]
  refine d_rt rfl ((ss_nx s1).trans ((ss_nx (euclid (tl := []) (fun c d hc d0 hd => ?_) ha hb)).trans (ss_rt (by simp only [evS, evE, evSs, evEs, evI, List.map_cons, List.map_nil, List.cons_append, List.nil_append, List.replicate_succ, List.replicate_zero, getS_0, getS_s, List.set_cons_zero, List.set_cons_succ, wipe_nil, wipe_cons, setT_v, setT_t, setTs_nil, setTs_cons, setAll, Option.bind_some, Out.of_some, Out.bind_ok, Nat.reduceSub]; rfl))))
  have md := mod_ok (i := (c : Int)) (j := (d : Int)) (by omega)
  rw [fmod_nat] at md
  have bi : biV h .int [.int (c : Int)] = some (.int (c : Int)) := rfl
  simp only [evS, evE, evSs, evEs, evI, List.map_cons, List.map_nil, List.cons_append, List.nil_append, List.replicate_succ, List.replicate_zero, getS_0, getS_s, List.set_cons_zero, List.set_cons_succ, wipe_nil, wipe_cons, setT_v, setT_t, setTs_nil, setTs_cons, setAll, Option.bind_some, Out.of_some, Out.bind_ok, Nat.reduceSub, bi, md]
/-- the fraction t / b in lowest terms, b above 0 -/
def fr (t b : Int) : PV := .tup [.int (t / (Int.gcd t b : Int)), .int (b / (Int.gcd t b : Int))]
theorem fr_scale {a b k : Int} (hk : 0 < k) : fr (a * k) (b * k) = fr a b := by
  have e : (Int.gcd (a * k) (b * k) : Int) = (Int.gcd a b : Int) * k := by
    rw [Int.gcd_mul_right]
    have : ((k.natAbs : Nat) : Int) = k := by omega
    rw [Int.natCast_mul, this]
  unfold fr
  rw [e, Int.mul_ediv_mul_of_pos_left _ _ hk, Int.mul_ediv_mul_of_pos_left _ _ hk]
theorem fr_cross {a b c d : Int} (hb : 0 < b) (hd : 0 < d) (h : a * d = c * b) : fr a b = fr c d := by
  rw [← fr_scale (a := a) (b := b) hd, ← fr_scale (a := c) (b := d) hb, h, Int.mul_comm b d]
structure FrOf (t b n d : Int) : Prop where
  e : fr t b = .tup [.int n, .int d]
  pos : 0 < d
  gcd : Int.gcd n d = 1
  x : n * b = t * d
  le : d ≤ b
  na : n.natAbs ≤ t.natAbs
  sg : 0 ≤ t → 0 ≤ n
  s0 : 0 < t → 0 < n
theorem fr_of {t b : Int} (hb : 0 < b) : ∃ n d, FrOf t b n d := by
  have hg : 0 < Int.gcd t b := Int.gcd_pos_of_ne_zero_right t (by omega)
  obtain ⟨u, hu⟩ := Int.gcd_dvd_left t b
  obtain ⟨v, hv⟩ := Int.gcd_dvd_right t b
  have hg2 : (0 : Int) < (Int.gcd t b : Int) := by omega
  have e1 : t / (Int.gcd t b : Int) = u := by
    conv => lhs; lhs; rw [hu]
    exact Int.mul_ediv_cancel_left _ (by omega)
  have e2 : b / (Int.gcd t b : Int) = v := by
    conv => lhs; lhs; rw [hv]
    exact Int.mul_ediv_cancel_left _ (by omega)
  have gc := Int.gcd_ediv_gcd_ediv_gcd hg
  rw [e1, e2] at gc
  have hv0 : 0 < v := by
    rcases Int.lt_trichotomy v 0 with z | z | z
    · have : (Int.gcd t b : Int) * v < 0 := Int.mul_neg_of_pos_of_neg hg2 z
      omega
    · rw [z, Int.mul_zero] at hv; omega
    · exact z
  refine ⟨u, v, ⟨by unfold fr; rw [e1, e2], hv0, gc, ?_, ?_, ?_, fun h => ?_, fun h => ?_⟩⟩
  · generalize (Int.gcd t b : Int) = g at *
    rw [hu, hv]; grind
  · have : v * 1 ≤ v * (Int.gcd t b : Int) := Int.mul_le_mul_of_nonneg_left (by omega) (by omega)
    rw [Int.mul_one, Int.mul_comm] at this
    omega
  · rw [← e1]
    exact Int.natAbs_ediv_le_natAbs _ _
  · rw [← e1]; exact Int.ediv_nonneg h (by omega)
  · rcases Int.lt_trichotomy u 0 with z | z | z
    · have : (Int.gcd t b : Int) * u < 0 := Int.mul_neg_of_pos_of_neg hg2 z
      omega
    · rw [z, Int.mul_zero] at hu; omega
    · exact z
/-- reduced by a divisor -/
theorem fdiv_g {t b : Int} (hb : 0 < b) (x : Int) : x.fdiv (Int.gcd t b : Int) = x / (Int.gcd t b : Int) := Int.fdiv_eq_ediv_of_nonneg _ (by omega)
/-- what a divisor keeps -/
def DivC (cl : Nat → List PV → Hs → Out PV) (f : Nat) : Prop := ∀ (a b : Int) (h : Hs), a.natAbs < Big → b.natAbs < Big → cl f [.int a, .int b] h = .ok (.int (Int.gcd a b)) h
/-- what a reduction keeps (of a denominator above 0) -/
def RedC (cl : Nat → List PV → Hs → Out PV) (f : Nat) : Prop := ∀ (a b : Int) (h : Hs), a.natAbs < Big → b.natAbs < Big → 0 < b → cl f [.int a, .int b] h = .ok (fr a b) h ∧ cl f [.int (-a), .int (-b)] h = .ok (fr a b) h
def pReduced (dv : Nat) : Ss := (.cons (.iff (.cmp .Lt (.var 1) (.con (.int (0)))) (.cons (.par [0, 1] (.cons (.neg (.var 0)) (.cons (.neg (.var 1)) .nil))) .nil) .nil) (.cons (.asg (.v 2) (.call dv (.cons (.var 0) (.cons (.var 1) .nil)))) (.cons (.ret (.tup (.cons (.bin .FloorDiv (.var 0) (.var 2)) (.cons (.bin .FloorDiv (.var 1) (.var 2)) .nil)))) .nil)))
theorem g_big {a b : Int} (hb : 0 < b) (hB : b.natAbs < Big) : 0 < (Int.gcd a b : Int) ∧ (Int.gcd a b : Int).natAbs < Big := by
  have h1 := Int.gcd_pos_of_ne_zero_right a (b := b) (by omega)
  have h2 := Int.gcd_le_natAbs_right a (b := b) (by omega)
  omega
theorem reduced_ok {cl : Nat → List PV → Hs → Out PV} {dv : Nat} (D : DivC cl dv) {a b : Int} {h : Hs} (ha : a.natAbs < Big) (hb : b.natAbs < Big) (b0 : 0 < b) :
    evD cl ⟨2, 3, pReduced dv⟩ [.int a, .int b] h = .ok (fr a b) h ∧ evD cl ⟨2, 3, pReduced dv⟩ [.int (-a), .int (-b)] h = .ok (fr a b) h := by
  obtain ⟨g1, g2⟩ := g_big (a := a) b0 hb
  have d1 := div_big (i := a) g1 g2
  have d2 := div_big (i := b) g1 g2
  rw [fdiv_g b0] at d1 d2
  have tl : evSs cl (.cons (.asg (.v 2) (.call dv (.cons (.var 0) (.cons (.var 1) .nil)))) (.cons (.ret (.tup (.cons (.bin .FloorDiv (.var 0) (.var 2)) (.cons (.bin .FloorDiv (.var 1) (.var 2)) .nil)))) .nil)) [some (.int a), some (.int b), none] h = .ok (.rt (fr a b)) h := by
    have z : szOk 2 = true := rfl
    simp only [evS, evE, evSs, evEs, evI, List.map_cons, List.map_nil, List.cons_append, List.nil_append, List.replicate_succ, List.replicate_zero, getS_0, getS_s, List.set_cons_zero, List.set_cons_succ, wipe_nil, wipe_cons, setT_v, setT_t, setTs_nil, setTs_cons, setAll, Option.bind_some, Out.of_some, Out.bind_ok, Nat.reduceSub, D a b h ha hb, d1, d2, List.length_cons, List.length_nil, Nat.reduceAdd, z, if_true]
    rfl
  constructor
  · refine d_rt rfl ?_
    have dc : decide (b < 0) = false := decide_eq_false (by omega)
    exact (ss_nx (σ' := [some (.int a), some (.int b), none]) (h' := h) (by simp only [evS, evE, evSs, evEs, evI, List.map_cons, List.map_nil, List.cons_append, List.nil_append, List.replicate_succ, List.replicate_zero, getS_0, getS_s, List.set_cons_zero, List.set_cons_succ, wipe_nil, wipe_cons, setT_v, setT_t, setTs_nil, setTs_cons, setAll, Option.bind_some, Out.of_some, Out.bind_ok, Nat.reduceSub, cmpV, cmpI, dc])).trans tl
  · refine d_rt rfl ?_
    have dc : decide (-b < 0) = true := decide_eq_true (by omega)
    exact (ss_nx (σ' := [some (.int a), some (.int b), none]) (h' := h) (by simp only [evS, evE, evSs, evEs, evI, List.map_cons, List.map_nil, List.cons_append, List.nil_append, List.replicate_succ, List.replicate_zero, getS_0, getS_s, List.set_cons_zero, List.set_cons_succ, wipe_nil, wipe_cons, setT_v, setT_t, setTs_nil, setTs_cons, setAll, Option.bind_some, Out.of_some, Out.bind_ok, Nat.reduceSub, cmpV, cmpI, dc, Int.neg_neg])).trans tl
def pLFrac (dv : Nat) : Ss := (.cons (.asg (.v 2) (.call dv (.cons (.var 0) (.cons (.var 1) .nil)))) (.cons (.iff (.cmp .Lt (.var 1) (.con (.int (0)))) (.cons (.asg (.v 2) (.neg (.var 2))) .nil) .nil) (.cons (.ret (.tup (.cons (.bin .FloorDiv (.var 0) (.var 2)) (.cons (.bin .FloorDiv (.var 1) (.var 2)) .nil)))) .nil)))
theorem lfrac_ok {cl : Nat → List PV → Hs → Out PV} {dv : Nat} (D : DivC cl dv) {a b : Int} {h : Hs} (ha : a.natAbs < Big) (hb : b.natAbs < Big) (b0 : 0 < b) :
    evD cl ⟨2, 3, pLFrac dv⟩ [.int a, .int b] h = .ok (fr a b) h := by
  obtain ⟨g1, g2⟩ := g_big (a := a) b0 hb
  have d1 := div_big (i := a) g1 g2
  have d2 := div_big (i := b) g1 g2
  rw [fdiv_g b0] at d1 d2
  have dc : decide (b < 0) = false := decide_eq_false (by omega)
  refine d_rt rfl ?_
  have z : szOk 2 = true := rfl
  unfold pLFrac
  simp only [evS, evE, evSs, evEs, evI, List.map_cons, List.map_nil, List.cons_append, List.nil_append, List.replicate_succ, List.replicate_zero, getS_0, getS_s, List.set_cons_zero, List.set_cons_succ, wipe_nil, wipe_cons, setT_v, setT_t, setTs_nil, setTs_cons, setAll, Option.bind_some, Out.of_some, Out.bind_ok, Nat.reduceSub, D a b h ha hb, cmpV, cmpI, dc, d1, d2, List.length_cons, List.length_nil, Nat.reduceAdd, z, if_true]
  rfl
/-- is_integer -/
def pIsInt : Ss := (.cons (.ret (.and (.isin (.var 0) .int) (.not (.isin (.var 0) .bool)))) .nil)
theorem isInt_int {cl : Nat → List PV → Hs → Out PV} {a : Int} {h : Hs} : evD cl ⟨1, 1, pIsInt⟩ [.int a] h = .ok (.bl true) h := rfl
end MP

set_option Elab.async false
set_option linter.all false
set_option maxRecDepth 100000
set_option exponentiation.threshold 100
namespace MP
open PySem

/-! ### plain law: what a work is -/
def IntC (cl : Nat → List PV → Hs → Out PV) (f : Nat) : Prop := ∀ (a : Int) (h : Hs), cl f [.int a] h = .ok (.bl true) h
theorem big30 {i : Int} (h1 : -1000000000000000000000000000000 < i) (h2 : i < 1000000000000000000000000000000) : i.natAbs < Big := small_ok h1 h2
/-- is_fraction -/
def pIsFrac (ii dv : Nat) : Ss := (.cons (.iff (.or (.not (.isin (.var 0) .tuple)) (.or (.cmp .NotEq (.bi .len (.cons (.var 0) .nil)) (.con (.int (2)))) (.or (.not (.call ii (.cons (.idx (.var 0) (.con (.int (0)))) .nil))) (.not (.call ii (.cons (.idx (.var 0) (.con (.int (1)))) .nil)))))) (.cons (.ret (.con (.bl false))) .nil) .nil) (.cons (.ret (.and (.cmp .Gt (.idx (.var 0) (.con (.int (1)))) (.con (.int (0)))) (.cmp .Eq (.call dv (.cons (.idx (.var 0) (.con (.int (0)))) (.cons (.idx (.var 0) (.con (.int (1)))) .nil))) (.con (.int (1)))))) .nil))
theorem eq_int {i j : Int} : cmpV .Eq (.int i) (.int j) = some (i == j) := rfl
theorem ne_int {i j : Int} : cmpV .NotEq (.int i) (.int j) = some (!(i == j)) := rfl
theorem isFrac_ok {cl : Nat → List PV → Hs → Out PV} {ii dv : Nat} (I : IntC cl ii) (D : DivC cl dv) {n d : Int} {h : Hs} (hn : n.natAbs < Big) (hd : d.natAbs < Big) (d0 : 0 < d) (g : Int.gcd n d = 1) :
    evD cl ⟨1, 1, pIsFrac ii dv⟩ [.tup [.int n, .int d]] h = .ok (.bl true) h := by
  have i0 : idxV h (.tup [.int n, .int d]) (.int 0) = some (.int n) := rfl
  have i1 : idxV h (.tup [.int n, .int d]) (.int 1) = some (.int d) := rfl
  have ty : isTy (.tup [.int n, .int d]) .tuple = some true := rfl
  have len : biV h .len [.tup [.int n, .int d]] = some (.int 2) := rfl
  have c2 : ((2 : Int) == 2) = true := rfl
  have dc : decide (0 < d) = true := decide_eq_true d0
  have ge : (((Int.gcd n d : Nat) : Int) == 1) = true := by rw [g]; rfl
  have gt : cmpV .Gt (.int d) (.int 0) = some (decide (0 < d)) := rfl
  refine d_rt rfl ?_
  unfold pIsFrac
  simp only [evS, evE, evSs, evEs, evI, List.map_cons, List.map_nil, List.cons_append, List.nil_append, List.replicate_succ, List.replicate_zero, getS_0, getS_s, List.set_cons_zero, List.set_cons_succ, wipe_nil, wipe_cons, setT_v, setT_t, setTs_nil, setTs_cons, setAll, Option.bind_some, Out.of_some, Out.bind_ok, Nat.reduceSub, i0, i1, ty, len, ne_int, eq_int, c2, Bool.not_true, I n h, I d h, gt, dc, D n d h hn hd, ge]
/-- is_below -/
def pIsBelow (ii : Nat) : Ss := (.cons (.ret (.and (.call ii (.cons (.var 0) .nil)) (.chain .LtE .Lt (.con (.int (0))) (.var 0) (.var 1)))) .nil)
theorem isBelow_ok {cl : Nat → List PV → Hs → Out PV} {ii : Nat} (I : IntC cl ii) {i n : Int} {h : Hs} (h0 : 0 ≤ i) (h1 : i < n) : evD cl ⟨2, 2, pIsBelow ii⟩ [.int i, .int n] h = .ok (.bl true) h := by
  have c1 : cmpV .LtE (.int 0) (.int i) = some true := by show some (decide (0 ≤ i)) = _; rw [decide_eq_true h0]
  have c2 : cmpV .Lt (.int i) (.int n) = some true := by show some (decide (i < n)) = _; rw [decide_eq_true h1]
  refine d_rt rfl ?_
  unfold pIsBelow
  simp only [evS, evE, evSs, evEs, evI, List.map_cons, List.map_nil, List.cons_append, List.nil_append, List.replicate_succ, List.replicate_zero, getS_0, getS_s, List.set_cons_zero, List.set_cons_succ, wipe_nil, wipe_cons, setT_v, setT_t, setTs_nil, setTs_cons, setAll, Option.bind_some, Out.of_some, Out.bind_ok, Nat.reduceSub, I i h, c1, c2]
/-- add -/
def pAdd (rd : Nat) : Ss := (.cons (.ret (.call rd (.cons (.bin .Add (.bin .Mult (.idx (.var 0) (.con (.int (0)))) (.idx (.var 1) (.con (.int (1))))) (.bin .Mult (.idx (.var 1) (.con (.int (0)))) (.idx (.var 0) (.con (.int (1)))))) (.cons (.bin .Mult (.idx (.var 0) (.con (.int (1)))) (.idx (.var 1) (.con (.int (1))))) .nil)))) .nil)
theorem mul_abs {a b : Int} {A B : Nat} (h1 : a.natAbs ≤ A) (h2 : b.natAbs ≤ B) : (a * b).natAbs ≤ A * B := by
  rw [Int.natAbs_mul]
  exact Nat.mul_le_mul h1 h2
theorem add_ok {cl : Nat → List PV → Hs → Out PV} {rd : Nat} (R : RedC cl rd) {a b c d : Int} {h : Hs} (ha : a.natAbs ≤ 1000000000000) (hb : b.natAbs ≤ 1000000000000) (hc : c.natAbs ≤ 1000000000000) (hd : d.natAbs ≤ 1000000000000) (b0 : 0 < b) (d0 : 0 < d) :
    evD cl ⟨2, 2, pAdd rd⟩ [fr a b, fr c d] h = .ok (fr (a * d + c * b) (b * d)) h := by
  obtain ⟨n, e, F⟩ := fr_of (t := a) b0
  obtain ⟨m, f, G⟩ := fr_of (t := c) d0
  have na := F.na
  have ma := G.na
  have eb := F.le
  have fb := G.le
  have e0 := F.pos
  have f0 := G.pos
  have x1 := mul_abs (a := n) (b := f) (A := 1000000000000) (B := 1000000000000) (by omega) (by omega)
  have x2 := mul_abs (a := m) (b := e) (A := 1000000000000) (B := 1000000000000) (by omega) (by omega)
  have x3 := mul_abs (a := e) (b := f) (A := 1000000000000) (B := 1000000000000) (by omega) (by omega)
  have p1 := mul_ok (i := n) (j := f) (big30 (by omega) (by omega)) (big30 (by omega) (by omega))
  have p2 := mul_ok (i := m) (j := e) (big30 (by omega) (by omega)) (big30 (by omega) (by omega))
  have p3 := mul_ok (i := e) (j := f) (big30 (by omega) (by omega)) (big30 (by omega) (by omega))
  have ad : binV .Add (.int (n * f)) (.int (m * e)) = some (.int (n * f + m * e)) := rfl
  have pos : 0 < e * f := Int.mul_pos e0 f0
  have r := (R (n * f + m * e) (e * f) h (big30 (by omega) (by omega)) (big30 (by omega) (by omega)) pos).1
  have cr : fr (n * f + m * e) (e * f) = fr (a * d + c * b) (b * d) := by
    refine fr_cross pos (Int.mul_pos b0 d0) ?_
    have q1 := F.x
    have q2 := G.x
    grind
  rw [F.e, G.e]
  have i0 : idxV h (.tup [.int n, .int e]) (.int 0) = some (.int n) := rfl
  have i1 : idxV h (.tup [.int n, .int e]) (.int 1) = some (.int e) := rfl
  have i2 : idxV h (.tup [.int m, .int f]) (.int 0) = some (.int m) := rfl
  have i3 : idxV h (.tup [.int m, .int f]) (.int 1) = some (.int f) := rfl
  refine d_rt rfl ?_
  unfold pAdd
  simp only [evS, evE, evSs, evEs, evI, List.map_cons, List.map_nil, List.cons_append, List.nil_append, List.replicate_succ, List.replicate_zero, getS_0, getS_s, List.set_cons_zero, List.set_cons_succ, wipe_nil, wipe_cons, setT_v, setT_t, setTs_nil, setTs_cons, setAll, Option.bind_some, Out.of_some, Out.bind_ok, Nat.reduceSub, i0, i1, i2, i3, p1, p2, p3, ad, r, cr]
/-- what add keeps -/
def AddC (cl : Nat → List PV → Hs → Out PV) (f : Nat) : Prop := ∀ (a b c d : Int) (h : Hs), a.natAbs ≤ 1000000000000 → b.natAbs ≤ 1000000000000 → c.natAbs ≤ 1000000000000 → d.natAbs ≤ 1000000000000 → 0 < b → 0 < d → cl f [fr a b, fr c d] h = .ok (fr (a * d + c * b) (b * d)) h
def pAddAll (ad : Nat) : Ss := (.cons (.asg (.v 1) (.con (.tup [(.int (0)), (.int (1))]))) (.cons (.forr [] (.v 2) (.it (.var 0)) (.cons (.asg (.v 1) (.call ad (.cons (.var 1) (.cons (.var 2) .nil)))) .nil)) (.cons (.ret (.var 1)) .nil)))
theorem addAll_ok {cl : Nat → List PV → Hs → Out PV} {ad : Nat} (A : AddC cl ad) {ws : List Int} {S : Int} {h : Hs} (S0 : 0 < S) (S1 : S ≤ 1000000000) (hw : ∀ w ∈ ws, 0 ≤ w) (hs : ws.sum ≤ S) :
    evD cl ⟨1, 3, pAddAll ad⟩ [.lst (ws.map fun w => fr w S)] h = .ok (fr ws.sum S) h := by
  have z : fr 0 S = .tup [.int 0, .int 1] := by
    have : fr 0 S = fr 0 1 := fr_cross S0 (by omega) (by omega)
    rw [this]; rfl
  have lp := for_rule (t := .v 2) (b := evSs cl (.cons (.asg (.v 1) (.call ad (.cons (.var 1) (.cons (.var 2) .nil)))) .nil))
    (fun rest σ h' => h' = h ∧ ∃ (us vs : List Int) (x : Option PV), ws = us ++ vs ∧ rest = (vs.map fun w => fr w S) ∧ σ = [some (.lst (ws.map fun w => fr w S)), some (fr us.sum S), x])
    (by
      rintro x xs σ h' ⟨rfl, us, vs, y, e, e2, rfl⟩
      cases vs with
      | nil => cases e2
      | cons v vs =>
        simp only [List.map_cons, List.cons.injEq] at e2
        obtain ⟨rfl, rfl⟩ := e2
        have nn : ∀ l : List Int, (∀ w ∈ l, 0 ≤ w) → 0 ≤ l.sum := fun l => by
          induction l with
          | nil => intro _; simp
          | cons a l ih =>
            intro hl
            have := ih fun w m => hl w (List.mem_cons_of_mem _ m)
            have := hl a List.mem_cons_self
            simp only [List.sum_cons]; omega
        have n1 := nn us fun w m => hw w (by rw [e]; exact List.mem_append_left _ m)
        have n2 := nn vs fun w m => hw w (by rw [e]; exact List.mem_append_right _ (List.mem_cons_of_mem _ m))
        have n3 := hw v (by rw [e]; exact List.mem_append_right _ List.mem_cons_self)
        have sm : ws.sum = us.sum + (v + vs.sum) := by rw [e, List.sum_append, List.sum_cons]
        have a := A us.sum S v S h' (by omega) (by omega) (by omega) (by omega) S0 S0
        have sc : fr (us.sum * S + v * S) (S * S) = fr (us.sum + v) S := by rw [← Int.add_mul]; exact fr_scale S0
        rw [sc] at a
        refine ⟨[some (.lst (ws.map fun w => fr w S)), some (fr us.sum S), some (fr v S)], _, h', rfl, .inl ?_, rfl, us ++ [v], vs, some (fr v S), by rw [e]; simp, rfl, rfl⟩
        rw [List.sum_append, List.sum_singleton]
        simp only [evS, evE, evSs, evEs, evI, List.map_cons, List.map_nil, List.cons_append, List.nil_append, List.replicate_succ, List.replicate_zero, getS_0, getS_s, List.set_cons_zero, List.set_cons_succ, wipe_nil, wipe_cons, setT_v, setT_t, setTs_nil, setTs_cons, setAll, Option.bind_some, Out.of_some, Out.bind_ok, Nat.reduceSub, a])
  obtain ⟨σ', h', e1, rfl, us, vs, x, e2, e3, rfl⟩ := lp (ws.map fun w => fr w S) [some (.lst (ws.map fun w => fr w S)), some (.tup [.int 0, .int 1]), none] h ⟨rfl, [], ws, none, rfl, rfl, by rw [List.sum_nil, z]⟩
  have : vs = [] := by cases vs with | nil => rfl | cons _ _ => cases e3
  subst this
  rw [List.append_nil] at e2
  subst e2
  refine d_rt rfl ((ss_nx (σ' := [some (.lst (ws.map fun w => fr w S)), some (.tup [.int 0, .int 1]), none]) (h' := h') (by simp only [evS, evE, evSs, evEs, evI, List.map_cons, List.map_nil, List.cons_append, List.nil_append, List.replicate_succ, List.replicate_zero, getS_0, getS_s, List.set_cons_zero, List.set_cons_succ, wipe_nil, wipe_cons, setT_v, setT_t, setTs_nil, setTs_cons, setAll, Option.bind_some, Out.of_some, Out.bind_ok, Nat.reduceSub])).trans ?_)
  refine (ss_nx (by rw [evS]; simp only [evS, evE, evSs, evEs, evI, List.map_cons, List.map_nil, List.cons_append, List.nil_append, List.replicate_succ, List.replicate_zero, getS_0, getS_s, List.set_cons_zero, List.set_cons_succ, wipe_nil, wipe_cons, setT_v, setT_t, setTs_nil, setTs_cons, setAll, Option.bind_some, Out.of_some, Out.bind_ok, Nat.reduceSub, seqOf]; exact e1)).trans (ss_rt (by simp only [evS, evE, evSs, evEs, evI, List.map_cons, List.map_nil, List.cons_append, List.nil_append, List.replicate_succ, List.replicate_zero, getS_0, getS_s, List.set_cons_zero, List.set_cons_succ, wipe_nil, wipe_cons, setT_v, setT_t, setTs_nil, setTs_cons, setAll, Option.bind_some, Out.of_some, Out.bind_ok, Nat.reduceSub]))
def adj {α : Type} : List α → List (α × α)
  | a :: b :: r => (a, b) :: adj (b :: r)
  | _ => []
theorem zip_adj {α : Type} (V : α → PV) : ∀ ms : List α, zip2 (ms.map V) ((ms.map V).drop 1) = (adj ms).map fun p => .tup [V p.1, V p.2]
  | [] => rfl
  | [_] => rfl
  | a :: b :: r => by
    have := zip_adj V (b :: r)
    simp only [List.map_cons, List.drop_succ_cons, List.drop_zero] at this ⊢
    simp only [zip2, adj, List.map_cons]
    rw [this]
theorem adj_lt {α : Type} {R : α → α → Prop} : ∀ {ms : List α}, ms.Pairwise R → ∀ p ∈ adj ms, R p.1 p.2
  | [], _, p, h => by simp [adj] at h
  | [_], _, p, h => by simp [adj] at h
  | a :: b :: r, hp, p, h => by
    simp only [adj, List.mem_cons] at h
    rw [List.pairwise_cons] at hp
    rcases h with rfl | h
    · exact hp.1 b List.mem_cons_self
    · exact adj_lt hp.2 p h
theorem cut_tail (xs : List PV) : cut xs (some 1) none = xs.drop 1 := by
  unfold cut clip
  cases xs with
  | nil => rfl
  | cons x xs =>
    have : min (1 : Int).toNat (x :: xs).length = 1 := by simp
    simp only [show ¬ ((1 : Int) < 0) by omega, if_false, this]
    rw [List.take_of_length_le]
    simp
def BelowC (cl : Nat → List PV → Hs → Out PV) (f : Nat) : Prop := ∀ (i n : Int) (h : Hs), 0 ≤ i → i < n → cl f [.int i, .int n] h = .ok (.bl true) h
def FracC (cl : Nat → List PV → Hs → Out PV) (f : Nat) : Prop := ∀ (n d : Int) (h : Hs), n.natAbs ≤ 1000000000000 → d ≤ 1000000000000 → 0 < d → Int.gcd n d = 1 → cl f [.tup [.int n, .int d]] h = .ok (.bl true) h
def AddAllC (cl : Nat → List PV → Hs → Out PV) (f : Nat) : Prop := ∀ (ws : List Int) (S : Int) (h : Hs), 0 < S → S ≤ 1000000000 → (∀ w ∈ ws, 0 ≤ w) → ws.sum ≤ S → cl f [.lst (ws.map fun w => fr w S)] h = .ok (fr ws.sum S) h
/-- one move: where to, what part of S -/
def mvV (S : Int) (m : Int × Int) : PV := .tup [.int m.1, fr m.2 S]
def wsum (ms : List (Int × Int)) : Int := (ms.map (·.2)).sum
def pMoves (ib fq aa : Nat) : Ss := (.cons (.iff (.not (.isin (.var 0) .tuple)) (.cons (.ret (.con (.bl false))) .nil) .nil) (.cons (.forr [] (.v 2) (.it (.var 0)) (.cons (.iff (.or (.not (.isin (.var 2) .tuple)) (.or (.cmp .NotEq (.bi .len (.cons (.var 2) .nil)) (.con (.int (2)))) (.not (.call ib (.cons (.idx (.var 2) (.con (.int (0)))) (.cons (.var 1) .nil)))))) (.cons (.ret (.con (.bl false))) .nil) .nil) (.cons (.iff (.or (.not (.call fq (.cons (.idx (.var 2) (.con (.int (1)))) .nil))) (.cmp .Lt (.idx (.idx (.var 2) (.con (.int (1)))) (.con (.int (0)))) (.con (.int (1))))) (.cons (.ret (.con (.bl false))) .nil) .nil) .nil))) (.cons (.iff (.not (.bi .all (.cons (.comp [3, 4] (.cmp .Lt (.idx (.var 3) (.con (.int (0)))) (.idx (.var 4) (.con (.int (0))))) (.t (.cons (.v 3) (.cons (.v 4) .nil))) (.zip (.cons (.var 0) (.cons (.slc (.var 0) (.con (.int (1))) (.con .non)) .nil))) (.con (.bl true))) .nil))) (.cons (.ret (.con (.bl false))) .nil) .nil) (.cons (.ret (.cmp .Eq (.call aa (.cons (.comp [2] (.idx (.var 2) (.con (.int (1)))) (.v 2) (.it (.var 0)) (.con (.bl true))) .nil)) (.con (.tup [(.int (1)), (.int (1))])))) .nil))))
structure MovesOk (n : Int) (ms : List (Int × Int)) : Prop where
  ne : ms ≠ []
  asc : ms.Pairwise fun a b => a.1 < b.1
  lo : ∀ m ∈ ms, 0 ≤ m.1
  hi : ∀ m ∈ ms, m.1 < n
  w : ∀ m ∈ ms, 1 ≤ m.2
  s : wsum ms ≤ 1000000
  l : ms.length ≤ 1000
theorem sum_nn : ∀ l : List Int, (∀ w ∈ l, 0 ≤ w) → 0 ≤ l.sum
  | [], _ => by simp
  | a :: l, h => by
    have := sum_nn l fun w m => h w (List.mem_cons_of_mem _ m)
    have := h a List.mem_cons_self
    simp only [List.sum_cons]; omega
theorem le_sum : ∀ (l : List Int), (∀ w ∈ l, 0 ≤ w) → ∀ w ∈ l, w ≤ l.sum
  | a :: l, h, w, m => by
    have h1 := sum_nn l fun w m => h w (List.mem_cons_of_mem _ m)
    have h2 := h a List.mem_cons_self
    simp only [List.sum_cons]
    rcases List.mem_cons.mp m with rfl | m
    · omega
    · have := le_sum l (fun w m => h w (List.mem_cons_of_mem _ m)) w m
      omega
theorem MovesOk.pos {n : Int} {ms : List (Int × Int)} (M : MovesOk n ms) : 0 < wsum ms ∧ ∀ m ∈ ms, m.2 ≤ wsum ms := by
  have nn : ∀ w ∈ ms.map (·.2), 0 ≤ w := fun w hw => by
    obtain ⟨m, hm, rfl⟩ := List.mem_map.mp hw
    have := M.w m hm
    omega
  have key : ∀ m ∈ ms, m.2 ≤ wsum ms := fun m hm => le_sum _ nn _ (List.mem_map.mpr ⟨m, hm, rfl⟩)
  refine ⟨?_, key⟩
  cases ms with
  | nil => exact absurd rfl M.ne
  | cons a r =>
    have := M.w a List.mem_cons_self
    have := key a List.mem_cons_self
    omega
theorem moves_ok {cl : Nat → List PV → Hs → Out PV} {ib fq aa : Nat} (B : BelowC cl ib) (Q : FracC cl fq) (A : AddAllC cl aa) {n : Int} {ms : List (Int × Int)} {h : Hs} (M : MovesOk n ms) :
    evD cl ⟨2, 5, pMoves ib fq aa⟩ [.tup (ms.map (mvV (wsum ms))), .int n] h = .ok (.bl true) h := by
  obtain ⟨S0, wS⟩ := M.pos
  have S1 := M.s
  generalize hS : wsum ms = S at *
  have ty : ∀ xs, isTy (.tup xs) .tuple = some true := fun _ => rfl
  have s1 : evS cl (.iff (.not (.isin (.var 0) .tuple)) (.cons (.ret (.con (.bl false))) .nil) .nil) [some (.tup (ms.map (mvV S))), some (.int n), none, none, none] h = .ok (.nx [some (.tup (ms.map (mvV S))), some (.int n), none, none, none]) h := by
    simp only [evS, evE, evSs, evEs, evI, List.map_cons, List.map_nil, List.cons_append, List.nil_append, List.replicate_succ, List.replicate_zero, getS_0, getS_s, List.set_cons_zero, List.set_cons_succ, wipe_nil, wipe_cons, setT_v, setT_t, setTs_nil, setTs_cons, setAll, Option.bind_some, Out.of_some, Out.bind_ok, Nat.reduceSub, ty, Bool.not_true]
  have lp := for_rule (t := .v 2) (b := evSs cl (.cons (.iff (.or (.not (.isin (.var 2) .tuple)) (.or (.cmp .NotEq (.bi .len (.cons (.var 2) .nil)) (.con (.int (2)))) (.not (.call ib (.cons (.idx (.var 2) (.con (.int (0)))) (.cons (.var 1) .nil)))))) (.cons (.ret (.con (.bl false))) .nil) .nil) (.cons (.iff (.or (.not (.call fq (.cons (.idx (.var 2) (.con (.int (1)))) .nil))) (.cmp .Lt (.idx (.idx (.var 2) (.con (.int (1)))) (.con (.int (0)))) (.con (.int (1))))) (.cons (.ret (.con (.bl false))) .nil) .nil) .nil)))
    (fun rest σ h' => h' = h ∧ ∃ (vs : List (Int × Int)) (x : Option PV), (∀ v ∈ vs, v ∈ ms) ∧ rest = vs.map (mvV S) ∧ σ = [some (.tup (ms.map (mvV S))), some (.int n), x, none, none])
    (by
      rintro x xs σ h' ⟨rfl, vs, y, sub, e, rfl⟩
      cases vs with
      | nil => cases e
      | cons v vs =>
        simp only [List.map_cons, List.cons.injEq] at e
        obtain ⟨rfl, rfl⟩ := e
        have hv := sub v List.mem_cons_self
        have w1 := M.w v hv
        have w2 := wS v hv
        obtain ⟨p, q, F⟩ := fr_of (t := v.2) S0
        have p0 := F.s0 (by omega)
        have pa := F.na
        have ql := F.le
        refine ⟨[some (.tup (ms.map (mvV S))), some (.int n), some (mvV S v), none, none], _, h', rfl, .inl ?_, rfl, vs, some (mvV S v), fun u hu => sub u (List.mem_cons_of_mem _ hu), rfl, rfl⟩
        unfold mvV
        rw [F.e]
        have i0 : idxV h' (.tup [.int v.1, .tup [.int p, .int q]]) (.int 0) = some (.int v.1) := rfl
        have i1 : idxV h' (.tup [.int v.1, .tup [.int p, .int q]]) (.int 1) = some (.tup [.int p, .int q]) := rfl
        have i2 : idxV h' (.tup [.int p, .int q]) (.int 0) = some (.int p) := rfl
        have len : biV h' .len [.tup [.int v.1, .tup [.int p, .int q]]] = some (.int 2) := rfl
        have c2 : ((2 : Int) == 2) = true := rfl
        have lt : cmpV .Lt (.int p) (.int 1) = some false := by show some (decide (p < 1)) = _; rw [decide_eq_false (by omega)]
        simp only [evS, evE, evSs, evEs, evI, List.map_cons, List.map_nil, List.cons_append, List.nil_append, List.replicate_succ, List.replicate_zero, getS_0, getS_s, List.set_cons_zero, List.set_cons_succ, wipe_nil, wipe_cons, setT_v, setT_t, setTs_nil, setTs_cons, setAll, Option.bind_some, Out.of_some, Out.bind_ok, Nat.reduceSub, ty, Bool.not_true, len, ne_int, c2, i0, i1, i2, B v.1 n h' (M.lo v hv) (M.hi v hv), Q p q h' (by omega) (by omega) F.pos F.gcd, lt])
  obtain ⟨σ', h', e1, rfl, vs, x, _, e3, rfl⟩ := lp (ms.map (mvV S)) [some (.tup (ms.map (mvV S))), some (.int n), none, none, none] h ⟨rfl, ms, none, fun _ hv => hv, rfl, rfl⟩
  refine d_rt rfl ((ss_nx s1).trans ((ss_nx (σ' := [some (.tup (ms.map (mvV S))), some (.int n), x, none, none]) (h' := h') (by rw [evS]; simp only [evS, evE, evSs, evEs, evI, List.map_cons, List.map_nil, List.cons_append, List.nil_append, List.replicate_succ, List.replicate_zero, getS_0, getS_s, List.set_cons_zero, List.set_cons_succ, wipe_nil, wipe_cons, setT_v, setT_t, setTs_nil, setTs_cons, setAll, Option.bind_some, Out.of_some, Out.bind_ok, Nat.reduceSub, seqOf]; exact e1)).trans ?_))
  have c1 : evE cl (.comp [3, 4] (.cmp .Lt (.idx (.var 3) (.con (.int (0)))) (.idx (.var 4) (.con (.int (0))))) (.t (.cons (.v 3) (.cons (.v 4) .nil))) (.zip (.cons (.var 0) (.cons (.slc (.var 0) (.con (.int (1))) (.con .non)) .nil))) (.con (.bl true))) [some (.tup (ms.map (mvV S))), some (.int n), x, none, none] h' = .ok (.lst ((adj ms).map fun _ => .bl true)) h' := by
    have sl : slcV (.tup (ms.map (mvV S))) (some 1) none = some (.tup ((ms.map (mvV S)).drop 1)) := by show some (PV.tup (cut _ _ _)) = _; rw [cut_tail]
    have zp : zipV [.tup (ms.map (mvV S)), .tup ((ms.map (mvV S)).drop 1)] = some ((adj ms).map fun p => .tup [mvV S p.1, mvV S p.2]) := by show some (zip2 _ _) = _; rw [zip_adj]
    simp only [evS, evE, evSs, evEs, evI, List.map_cons, List.map_nil, List.cons_append, List.nil_append, List.replicate_succ, List.replicate_zero, getS_0, getS_s, List.set_cons_zero, List.set_cons_succ, wipe_nil, wipe_cons, setT_v, setT_t, setTs_nil, setTs_cons, setAll, Option.bind_some, Out.of_some, Out.bind_ok, Nat.reduceSub, partV, sl, zp]
    rw [each_map (g := fun _ => [.bl true])]
    · have al : ∀ l : List (Int × Int), (adj l).length ≤ l.length := fun l => by
        induction l with
        | nil => simp [adj]
        | cons a r ih => cases r with
          | nil => simp [adj]
          | cons b r => simp only [adj, List.length_cons] at ih ⊢; omega
      have l1 := al ms
      have l2 := M.l
      rw [flatMap_one, Out.bind_ok, List.length_map, if_pos]
      unfold szOk
      exact Nat.ble_eq_true_of_le (by omega)
    · intro p hp
      have lt := adj_lt M.asc p hp
      have i0 : idxV h' (mvV S p.1) (.int 0) = some (.int p.1.1) := rfl
      have i1 : idxV h' (mvV S p.2) (.int 0) = some (.int p.2.1) := rfl
      have c : cmpV .Lt (.int p.1.1) (.int p.2.1) = some true := by show some (decide (p.1.1 < p.2.1)) = _; rw [decide_eq_true lt]
      simp only [evS, evE, evSs, evEs, evI, List.map_cons, List.map_nil, List.cons_append, List.nil_append, List.replicate_succ, List.replicate_zero, getS_0, getS_s, List.set_cons_zero, List.set_cons_succ, wipe_nil, wipe_cons, setT_v, setT_t, setTs_nil, setTs_cons, setAll, Option.bind_some, Out.of_some, Out.bind_ok, Nat.reduceSub, i0, i1, c]
  have al : biV h' .all [.lst ((adj ms).map fun _ => .bl true)] = some (.bl true) := by
    have e : (adj ms).map (fun _ => PV.bl true) = ((adj ms).map fun _ => true).map .bl := by rw [List.map_map]; rfl
    show (boolsOf _).map _ = _
    rw [e, boolsOf_map]
    simp
  refine (ss_nx (σ' := [some (.tup (ms.map (mvV S))), some (.int n), x, none, none]) (h' := h') ?_).trans (ss_rt ?_)
  · rw [evS, evE, evE, evEs, c1]
    simp only [evS, evE, evSs, evEs, evI, List.map_cons, List.map_nil, List.cons_append, List.nil_append, List.replicate_succ, List.replicate_zero, getS_0, getS_s, List.set_cons_zero, List.set_cons_succ, wipe_nil, wipe_cons, setT_v, setT_t, setTs_nil, setTs_cons, setAll, Option.bind_some, Out.of_some, Out.bind_ok, Nat.reduceSub, al, Bool.not_true]
  · have c2 : evE cl (.comp [2] (.idx (.var 2) (.con (.int (1)))) (.v 2) (.it (.var 0)) (.con (.bl true))) [some (.tup (ms.map (mvV S))), some (.int n), x, none, none] h' = .ok (.lst ((ms.map (·.2)).map fun w => fr w S)) h' := by
      simp only [evS, evE, evSs, evEs, evI, List.map_cons, List.map_nil, List.cons_append, List.nil_append, List.replicate_succ, List.replicate_zero, getS_0, getS_s, List.set_cons_zero, List.set_cons_succ, wipe_nil, wipe_cons, setT_v, setT_t, setTs_nil, setTs_cons, setAll, Option.bind_some, Out.of_some, Out.bind_ok, Nat.reduceSub, seqOf]
      rw [each_map (g := fun m => [fr m.2 S])]
      · rw [flatMap_one, Out.bind_ok, List.length_map, if_pos, List.map_map]
        · rfl
        · unfold szOk
          have l2 := M.l
          exact Nat.ble_eq_true_of_le (by omega)
      · intro p hp
        have i1 : idxV h' (mvV S p) (.int 1) = some (fr p.2 S) := rfl
        simp only [evS, evE, evSs, evEs, evI, List.map_cons, List.map_nil, List.cons_append, List.nil_append, List.replicate_succ, List.replicate_zero, getS_0, getS_s, List.set_cons_zero, List.set_cons_succ, wipe_nil, wipe_cons, setT_v, setT_t, setTs_nil, setTs_cons, setAll, Option.bind_some, Out.of_some, Out.bind_ok, Nat.reduceSub, i1]
    have a := A (ms.map (·.2)) S h' S0 (by omega) (fun w hw => by
      obtain ⟨m, hm, rfl⟩ := List.mem_map.mp hw
      have := M.w m hm
      omega) (by show wsum ms ≤ S; omega)
    have one : fr (ms.map (·.2)).sum S = .tup [.int 1, .int 1] := by
      have : (ms.map (·.2)).sum = S := hS
      rw [this]
      have : fr S S = fr 1 1 := fr_cross S0 (by omega) (by omega)
      rw [this]; rfl
    have eq : cmpV .Eq (.tup [.int 1, .int 1]) (.tup [.int 1, .int 1]) = some true := rfl
    rw [evS, evE, evE, evEs, c2]
    simp only [evS, evE, evSs, evEs, evI, List.map_cons, List.map_nil, List.cons_append, List.nil_append, List.replicate_succ, List.replicate_zero, getS_0, getS_s, List.set_cons_zero, List.set_cons_succ, wipe_nil, wipe_cons, setT_v, setT_t, setTs_nil, setTs_cons, setAll, Option.bind_some, Out.of_some, Out.bind_ok, Nat.reduceSub, a, one, eq]
/-- a state of a work: its pay's two parts, its moves -/
abbrev Sta := Int × Int × List (Int × Int)
def stV (s : Sta) : PV := .tup [fr s.1 s.2.1, .tup (s.2.2.map (mvV (wsum s.2.2)))]
def workV (W : List Sta) : PV := .tup (W.map stV)
structure StaOk (n : Int) (s : Sta) : Prop where
  b0 : 0 < s.2.1
  b1 : s.2.1 ≤ 1000
  p : s.1.natAbs ≤ 1000
  m : MovesOk n s.2.2
structure WorkOk (W : List Sta) : Prop where
  l0 : 1 ≤ W.length
  l1 : W.length ≤ 6
  s : ∀ s ∈ W, StaOk W.length s
def MovesC (cl : Nat → List PV → Hs → Out PV) (f : Nat) : Prop := ∀ (n : Int) (ms : List (Int × Int)) (h : Hs), MovesOk n ms → cl f [.tup (ms.map (mvV (wsum ms))), .int n] h = .ok (.bl true) h
def pIsWork (fq im : Nat) : Ss := (.cons (.iff (.or (.not (.isin (.var 0) .tuple)) (.not (.chain .LtE .LtE (.con (.int (1))) (.bi .len (.cons (.var 0) .nil)) (.con (.int (6)))))) (.cons (.ret (.con (.bl false))) .nil) .nil) (.cons (.forr [] (.v 1) (.it (.var 0)) (.cons (.iff (.or (.not (.isin (.var 1) .tuple)) (.or (.cmp .NotEq (.bi .len (.cons (.var 1) .nil)) (.con (.int (2)))) (.not (.call fq (.cons (.idx (.var 1) (.con (.int (0)))) .nil))))) (.cons (.ret (.con (.bl false))) .nil) .nil) .nil)) (.cons (.ret (.bi .all (.cons (.comp [1] (.call im (.cons (.idx (.var 1) (.con (.int (1)))) (.cons (.bi .len (.cons (.var 0) .nil)) .nil))) (.v 1) (.it (.var 0)) (.con (.bl true))) .nil))) .nil)))
theorem isWork_ok {cl : Nat → List PV → Hs → Out PV} {fq im : Nat} (Q : FracC cl fq) (M : MovesC cl im) {W : List Sta} {h : Hs} (ok : WorkOk W) :
    evD cl ⟨1, 2, pIsWork fq im⟩ [workV W] h = .ok (.bl true) h := by
  have l0 := ok.l0
  have l1 := ok.l1
  have ty : ∀ xs, isTy (.tup xs) .tuple = some true := fun _ => rfl
  have len : ∀ h, biV h .len [workV W] = some (.int (W.length : Int)) := fun h => by
    show some (PV.int ((W.map stV).length : Int)) = _
    rw [List.length_map]
  have tyW : isTy (workV W) .tuple = some true := rfl
  have c1 : cmpV .LtE (.int 1) (.int (W.length : Int)) = some true := by show some (decide ((1 : Int) ≤ W.length)) = _; rw [decide_eq_true (by omega)]
  have c2 : cmpV .LtE (.int (W.length : Int)) (.int 6) = some true := by show some (decide ((W.length : Int) ≤ 6)) = _; rw [decide_eq_true (by omega)]
  have s1 : evS cl (.iff (.or (.not (.isin (.var 0) .tuple)) (.not (.chain .LtE .LtE (.con (.int (1))) (.bi .len (.cons (.var 0) .nil)) (.con (.int (6)))))) (.cons (.ret (.con (.bl false))) .nil) .nil) [some (workV W), none] h = .ok (.nx [some (workV W), none]) h := by
    simp only [evS, evE, evSs, evEs, evI, List.map_cons, List.map_nil, List.cons_append, List.nil_append, List.replicate_succ, List.replicate_zero, getS_0, getS_s, List.set_cons_zero, List.set_cons_succ, wipe_nil, wipe_cons, setT_v, setT_t, setTs_nil, setTs_cons, setAll, Option.bind_some, Out.of_some, Out.bind_ok, Nat.reduceSub, tyW, Bool.not_true, len, c1, c2]
  have lp := for_rule (t := .v 1) (b := evSs cl (.cons (.iff (.or (.not (.isin (.var 1) .tuple)) (.or (.cmp .NotEq (.bi .len (.cons (.var 1) .nil)) (.con (.int (2)))) (.not (.call fq (.cons (.idx (.var 1) (.con (.int (0)))) .nil))))) (.cons (.ret (.con (.bl false))) .nil) .nil) .nil))
    (fun rest σ h' => h' = h ∧ ∃ (vs : List Sta) (x : Option PV), (∀ v ∈ vs, v ∈ W) ∧ rest = vs.map stV ∧ σ = [some (workV W), x])
    (by
      rintro x xs σ h' ⟨rfl, vs, y, sub, e, rfl⟩
      cases vs with
      | nil => cases e
      | cons v vs =>
        simp only [List.map_cons, List.cons.injEq] at e
        obtain ⟨rfl, rfl⟩ := e
        have hv := ok.s v (sub v List.mem_cons_self)
        obtain ⟨p, q, F⟩ := fr_of (t := v.1) hv.b0
        have pa := F.na
        have ql := F.le
        have b1 := hv.b1
        have pp := hv.p
        refine ⟨[some (workV W), some (stV v)], _, h', rfl, .inl ?_, rfl, vs, some (stV v), fun u hu => sub u (List.mem_cons_of_mem _ hu), rfl, rfl⟩
        unfold stV
        rw [F.e]
        have i0 : idxV h' (.tup [.tup [.int p, .int q], .tup (v.2.2.map (mvV (wsum v.2.2)))]) (.int 0) = some (.tup [.int p, .int q]) := rfl
        have ln : biV h' .len [.tup [.tup [.int p, .int q], .tup (v.2.2.map (mvV (wsum v.2.2)))]] = some (.int 2) := rfl
        have c2 : ((2 : Int) == 2) = true := rfl
        simp only [evS, evE, evSs, evEs, evI, List.map_cons, List.map_nil, List.cons_append, List.nil_append, List.replicate_succ, List.replicate_zero, getS_0, getS_s, List.set_cons_zero, List.set_cons_succ, wipe_nil, wipe_cons, setT_v, setT_t, setTs_nil, setTs_cons, setAll, Option.bind_some, Out.of_some, Out.bind_ok, Nat.reduceSub, ty, Bool.not_true, ln, ne_int, c2, i0, Q p q h' (by omega) (by omega) F.pos F.gcd])
  obtain ⟨σ', h', e1, rfl, vs, x, _, e3, rfl⟩ := lp (W.map stV) [some (workV W), none] h ⟨rfl, W, none, fun _ hv => hv, rfl, rfl⟩
  have sq : seqOf (workV W) = some (W.map stV) := rfl
  refine d_rt rfl ((ss_nx s1).trans ((ss_nx (σ' := [some (workV W), x]) (h' := h') (by rw [evS]; simp only [evS, evE, evSs, evEs, evI, List.map_cons, List.map_nil, List.cons_append, List.nil_append, List.replicate_succ, List.replicate_zero, getS_0, getS_s, List.set_cons_zero, List.set_cons_succ, wipe_nil, wipe_cons, setT_v, setT_t, setTs_nil, setTs_cons, setAll, Option.bind_some, Out.of_some, Out.bind_ok, Nat.reduceSub, sq]; exact e1)).trans (ss_rt ?_)))
  have c1 : evE cl (.comp [1] (.call im (.cons (.idx (.var 1) (.con (.int (1)))) (.cons (.bi .len (.cons (.var 0) .nil)) .nil))) (.v 1) (.it (.var 0)) (.con (.bl true))) [some (workV W), x] h' = .ok (.lst (W.map fun _ => .bl true)) h' := by
    simp only [evS, evE, evSs, evEs, evI, List.map_cons, List.map_nil, List.cons_append, List.nil_append, List.replicate_succ, List.replicate_zero, getS_0, getS_s, List.set_cons_zero, List.set_cons_succ, wipe_nil, wipe_cons, setT_v, setT_t, setTs_nil, setTs_cons, setAll, Option.bind_some, Out.of_some, Out.bind_ok, Nat.reduceSub, sq]
    rw [each_map (g := fun _ => [.bl true])]
    · rw [flatMap_one, Out.bind_ok, List.length_map, if_pos]
      unfold szOk
      exact Nat.ble_eq_true_of_le (by omega)
    · intro s hs
      have i1 : idxV h' (stV s) (.int 1) = some (.tup (s.2.2.map (mvV (wsum s.2.2)))) := rfl
      simp only [evS, evE, evSs, evEs, evI, List.map_cons, List.map_nil, List.cons_append, List.nil_append, List.replicate_succ, List.replicate_zero, getS_0, getS_s, List.set_cons_zero, List.set_cons_succ, wipe_nil, wipe_cons, setT_v, setT_t, setTs_nil, setTs_cons, setAll, Option.bind_some, Out.of_some, Out.bind_ok, Nat.reduceSub, i1, len, M W.length s.2.2 h' (ok.s s hs).m]
  have al : biV h' .all [.lst (W.map fun _ => .bl true)] = some (.bl true) := by
    have e : W.map (fun _ => PV.bl true) = (W.map fun _ => true).map .bl := by rw [List.map_map]; rfl
    show (boolsOf _).map _ = _
    rw [e, boolsOf_map]
    simp
  rw [evS, evE, evEs, c1]
  simp only [evS, evE, evSs, evEs, evI, List.map_cons, List.map_nil, List.cons_append, List.nil_append, List.replicate_succ, List.replicate_zero, getS_0, getS_s, List.set_cons_zero, List.set_cons_succ, wipe_nil, wipe_cons, setT_v, setT_t, setTs_nil, setTs_cons, setAll, Option.bind_some, Out.of_some, Out.bind_ok, Nat.reduceSub, al]
end MP

set_option Elab.async false
set_option linter.all false
set_option maxRecDepth 100000
namespace MP
open PySem

/-! ### plain law: sorted lists of ints -/
abbrev SAsc (l : List Int) : Prop := l.Pairwise (· < ·)
theorem mem_insI {x i : Int} : ∀ {l : List Int}, x ∈ insI i l ↔ x = i ∨ x ∈ l
  | [] => by simp [insI]
  | j :: r => by
    unfold insI
    split
    · simp
    · simp only [List.mem_cons, mem_insI]
      exact ⟨fun h => by rcases h with h | h | h <;> simp [h], fun h => by rcases h with h | h | h <;> simp [h]⟩
theorem mem_sortI {x : Int} : ∀ {l : List Int}, x ∈ sortI l ↔ x ∈ l
  | [] => by simp [sortI]
  | i :: r => by simp only [sortI, mem_insI, mem_sortI, List.mem_cons]
theorem mem_dedI {x : Int} : ∀ {l : List Int}, x ∈ dedI l ↔ x ∈ l
  | [] => by simp [dedI]
  | i :: r => by
    unfold dedI
    split
    · rename_i h
      rw [mem_dedI, List.mem_cons]
      exact ⟨.inr, fun z => by
        rcases z with rfl | z
        · exact List.contains_iff_mem.mp h
        · exact z⟩
    · rw [List.mem_cons, List.mem_cons, mem_dedI]
theorem nodup_dedI : ∀ l : List Int, (dedI l).Nodup
  | [] => by simp [dedI]
  | i :: r => by
    unfold dedI
    split
    · exact nodup_dedI r
    · rename_i h
      refine List.nodup_cons.mpr ⟨fun z => h (List.contains_iff_mem.mpr (mem_dedI.mp z)), nodup_dedI r⟩
theorem asc_insI {i : Int} : ∀ {l : List Int}, SAsc l → i ∉ l → SAsc (insI i l)
  | [], _, _ => by simp [insI]
  | j :: r, h, n => by
    have hp := List.pairwise_cons.mp h
    unfold insI
    split
    · rename_i c
      have ij : i ≠ j := fun e => n (by rw [e]; exact List.mem_cons_self)
      refine List.pairwise_cons.mpr ⟨fun x hx => ?_, h⟩
      rcases List.mem_cons.mp hx with rfl | hx
      · omega
      · have := hp.1 x hx; omega
    · rename_i c
      refine List.pairwise_cons.mpr ⟨fun x hx => ?_, asc_insI hp.2 fun z => n (List.mem_cons_of_mem _ z)⟩
      rcases mem_insI.mp hx with rfl | hx
      · omega
      · exact hp.1 x hx
theorem asc_sortI : ∀ {l : List Int}, l.Nodup → SAsc (sortI l)
  | [], _ => by simp [sortI]
  | i :: r, h => by
    have h := List.nodup_cons.mp h
    exact asc_insI (asc_sortI h.2) fun z => h.1 (mem_sortI.mp z)
theorem len_insI (i : Int) : ∀ l : List Int, (insI i l).length = l.length + 1
  | [] => rfl
  | j :: r => by
    unfold insI
    split
    · rfl
    · simp [len_insI i r]
theorem len_sortI : ∀ l : List Int, (sortI l).length = l.length
  | [] => rfl
  | i :: r => by rw [sortI, len_insI, len_sortI r]; rfl
/-- an ascending list between two bounds is short -/
theorem asc_len : ∀ {l : List Int} {lo hi : Int}, SAsc l → (∀ x ∈ l, lo ≤ x) → (∀ x ∈ l, x < hi) → lo ≤ hi → (l.length : Int) ≤ hi - lo
  | [], lo, hi, _, _, _, h => by simp; omega
  | x :: r, lo, hi, h, h1, h2, _ => by
    have hp := List.pairwise_cons.mp h
    have a := h1 x List.mem_cons_self
    have b := h2 x List.mem_cons_self
    have := asc_len (l := r) (lo := x + 1) (hi := hi) hp.2 (fun y hy => by have := hp.1 y hy; omega) (fun y hy => h2 y (List.mem_cons_of_mem _ hy)) (by omega)
    simp only [List.length_cons]
    omega
/-- two ascending lists of the same members are the same -/
theorem asc_ext : ∀ {l m : List Int}, SAsc l → SAsc m → (∀ x, x ∈ l ↔ x ∈ m) → l = m
  | [], [], _, _, _ => rfl
  | [], y :: m, _, _, h => absurd ((h y).mpr List.mem_cons_self) (by simp)
  | x :: l, [], _, _, h => absurd ((h x).mp List.mem_cons_self) (by simp)
  | x :: l, y :: m, hl, hm, h => by
    have pl := List.pairwise_cons.mp hl
    have pm := List.pairwise_cons.mp hm
    have e : x = y := by
      rcases List.mem_cons.mp ((h x).mp List.mem_cons_self) with z | z
      · exact z
      · rcases List.mem_cons.mp ((h y).mpr List.mem_cons_self) with z2 | z2
        · exact z2.symm
        · have := pm.1 x z
          have := pl.1 y z2
          omega
    subst e
    congr 1
    refine asc_ext pl.2 pm.2 fun z => ⟨fun hz => ?_, fun hz => ?_⟩
    · rcases List.mem_cons.mp ((h z).mp (List.mem_cons_of_mem _ hz)) with q | q
      · have := pl.1 z hz; omega
      · exact q
    · rcases List.mem_cons.mp ((h z).mpr (List.mem_cons_of_mem _ hz)) with q | q
      · have := pm.1 z hz; omega
      · exact q
/-- sorted(set(..)) -/
def ss (l : List Int) : List Int := sortI (dedI l)
theorem mem_ss {x : Int} {l : List Int} : x ∈ ss l ↔ x ∈ l := by unfold ss; rw [mem_sortI, mem_dedI]
theorem asc_ss (l : List Int) : SAsc (ss l) := asc_sortI (nodup_dedI l)
theorem nodup_len {l : List Int} {lo hi : Int} (h : l.Nodup) (h1 : ∀ x ∈ l, lo ≤ x) (h2 : ∀ x ∈ l, x < hi) (h3 : lo ≤ hi) : (l.length : Int) ≤ hi - lo := by
  rw [← len_sortI l]
  exact asc_len (asc_sortI h) (fun x hx => h1 x (mem_sortI.mp hx)) (fun x hx => h2 x (mem_sortI.mp hx)) h3
/-- an ascending list in another is no longer -/
theorem asc_sub_len : ∀ {l m : List Int}, SAsc l → SAsc m → (∀ x ∈ l, x ∈ m) → l.length ≤ m.length
  | [], _, _, _, _ => Nat.zero_le _
  | x :: l, [], _, _, h => absurd (h x List.mem_cons_self) (by simp)
  | x :: l, y :: m, hl, hm, h => by
    have pl := List.pairwise_cons.mp hl
    have pm := List.pairwise_cons.mp hm
    have : l.length ≤ m.length := asc_sub_len pl.2 pm.2 fun z hz => by
      rcases List.mem_cons.mp (h z (List.mem_cons_of_mem _ hz)) with q | q
      · have a := pl.1 z hz
        rcases List.mem_cons.mp (h x List.mem_cons_self) with b | b
        · omega
        · have := pm.1 x b; omega
      · exact q
    simp only [List.length_cons]; omega
/-- .. and as long: the same -/
theorem asc_sub_eq : ∀ {l m : List Int}, SAsc l → SAsc m → (∀ x ∈ l, x ∈ m) → m.length ≤ l.length → l = m
  | [], [], _, _, _, _ => rfl
  | [], y :: m, _, _, _, hl => by simp at hl
  | x :: l, [], _, _, h, _ => absurd (h x List.mem_cons_self) (by simp)
  | x :: l, y :: m, hl, hm, h, hle => by
    have pl := List.pairwise_cons.mp hl
    have pm := List.pairwise_cons.mp hm
    have e : x = y := by
      rcases List.mem_cons.mp (h x List.mem_cons_self) with z | z
      · exact z
      · have := asc_sub_len (l := x :: l) (m := m) hl pm.2 fun w hw => by
          rcases List.mem_cons.mp (h w hw) with q | q
          · subst q
            rcases List.mem_cons.mp hw with r | r
            · subst r; exact z
            · have a := pl.1 w r; have b := pm.1 x z; omega
          · exact q
        simp only [List.length_cons] at this hle
        omega
    subst e
    congr 1
    refine asc_sub_eq pl.2 pm.2 (fun z hz => ?_) (by simpa using hle)
    rcases List.mem_cons.mp (h z (List.mem_cons_of_mem _ hz)) with q | q
    · have := pl.1 z hz; omega
    · exact q
end MP

set_option Elab.async false
set_option linter.all false
set_option maxRecDepth 100000
set_option exponentiation.threshold 100
namespace MP
open PySem

/-! ### plain law: drawn works -/
def LFracC (cl : Nat → List PV → Hs → Out PV) (f : Nat) : Prop := ∀ (a b : Int) (h : Hs), a.natAbs < 1000000000000 → b < 1000000000000 → 0 < b → cl f [.int a, .int b] h = .ok (fr a b) h
def pDFrac (tk on lf : Nat) : Ss := (.cons (.asg (.v 2) (.bin .Sub (.call tk (.cons (.var 0) (.cons (.bin .Add (.bin .Mult (.con (.int (2))) (.var 1)) (.con (.int (1)))) .nil))) (.var 1))) (.cons (.ret (.call lf (.cons (.var 2) (.cons (.call on (.cons (.var 0) (.cons (.lst (.cons (.con (.int (1))) (.cons (.con (.int (1))) (.cons (.con (.int (1))) (.cons (.con (.int (2))) (.cons (.con (.int (3))) (.cons (.con (.int (5))) .nil))))))) .nil))) .nil)))) .nil))
theorem dfrac_ok {cl : Nat → List PV → Hs → Out PV} {tk on lf : Nat} (T : TakeC cl tk) (O : OneC cl on) (L : LFracC cl lf) {n : Nat} {B m : Int} {h : Hs} (p : PenOk n B h) (hB : B < 1000000) (m0 : 0 ≤ m) (m1 : m ≤ 1000) :
    ∃ (t b : Int) (h' : Hs), evD cl ⟨2, 3, pDFrac tk on lf⟩ [.ref n, .int m] h = .ok (fr t b) h' ∧ 0 < b ∧ b ≤ 5 ∧ t.natAbs ≤ m ∧ PenOk n (B + 2) h' ∧ h'.length = h.length := by
  have mu := mul_ok (i := 2) (j := m) (big30 (by omega) (by omega)) (big30 (by omega) (by omega))
  have ad : ∀ i j : Int, binV .Add (.int i) (.int j) = some (.int (i + j)) := fun _ _ => rfl
  have sb : ∀ i j : Int, binV .Sub (.int i) (.int j) = some (.int (i - j)) := fun _ _ => rfl
  obtain ⟨r, h1, e1, r0, r1, p1, l1⟩ := T n B (2 * m + 1) h p (by omega) (by omega) (by omega)
  obtain ⟨v, h2, hv, e2, p2, l2⟩ := O n (B + 1) [.int 1, .int 1, .int 1, .int 2, .int 3, .int 5] h1 p1 (by omega) (by simp) (by simp)
  have hb : ∃ b : Int, v = .int b ∧ 0 < b ∧ b ≤ 5 := by
    simp only [List.mem_cons, List.not_mem_nil, or_false] at hv
    rcases hv with rfl | rfl | rfl | rfl | rfl | rfl <;> exact ⟨_, rfl, by omega, by omega⟩
  obtain ⟨b, rfl, b0, b1⟩ := hb
  refine ⟨r - m, b, h2, d_rt rfl ((ss_nx (σ' := [some (.ref n), some (.int m), some (.int (r - m))]) (h' := h1) (by simp only [evS, evE, evSs, evEs, evI, List.map_cons, List.map_nil, List.cons_append, List.nil_append, List.replicate_succ, List.replicate_zero, getS_0, getS_s, List.set_cons_zero, List.set_cons_succ, wipe_nil, wipe_cons, setT_v, setT_t, setTs_nil, setTs_cons, setAll, Option.bind_some, Out.of_some, Out.bind_ok, Nat.reduceSub, mu, ad, e1, sb])).trans (ss_rt ?_)), b0, b1, by omega, by simpa [Int.add_assoc] using p2, by rw [l2, l1]⟩
  have z : szOk 6 = true := rfl
  simp only [evS, evE, evSs, evEs, evI, List.map_cons, List.map_nil, List.cons_append, List.nil_append, List.replicate_succ, List.replicate_zero, getS_0, getS_s, List.set_cons_zero, List.set_cons_succ, wipe_nil, wipe_cons, setT_v, setT_t, setTs_nil, setTs_cons, setAll, Option.bind_some, Out.of_some, Out.bind_ok, Nat.reduceSub, List.length_cons, List.length_nil, Nat.reduceAdd, z, if_true, e2, L (r - m) b h2 (by omega) (by omega) b0]
/-- what a drawn fraction keeps -/
def DFracC (cl : Nat → List PV → Hs → Out PV) (f : Nat) : Prop := ∀ (n : Nat) (B m : Int) (h : Hs), PenOk n B h → B < 1000000 → 0 ≤ m → m ≤ 1000 →
  ∃ (t b : Int) (h' : Hs), cl f [.ref n, .int m] h = .ok (fr t b) h' ∧ 0 < b ∧ b ≤ 5 ∧ t.natAbs ≤ m ∧ PenOk n (B + 2) h' ∧ h'.length = h.length
theorem szLe {n : Nat} (h : n ≤ 16000000) : szOk n = true := Nat.ble_eq_true_of_le h
theorem sum_le_mul : ∀ (l : List Int) (M : Int), (∀ w ∈ l, w ≤ M) → l.sum ≤ M * l.length
  | [], M, _ => by simp
  | a :: l, M, h => by
    have := sum_le_mul l M fun w m => h w (List.mem_cons_of_mem _ m)
    have := h a List.mem_cons_self
    simp only [List.sum_cons, List.length_cons]
    have e : M * ((l.length + 1 : Nat) : Int) = M * (l.length : Int) + M := by grind
    omega
theorem zip_map2 : ∀ (as bs : List Int), zip2 (as.map .int) (bs.map .int) = (as.zip bs).map fun p => .tup [.int p.1, .int p.2]
  | [], _ => by simp [zip2]
  | a :: as, [] => by simp [zip2]
  | a :: as, b :: bs => by
    simp only [List.map_cons, zip2, List.zip_cons_cons]
    rw [zip_map2 as bs]
def bEnds (tk on : Nat) : Ss := (.cons (.mut .append 5 (.cons (.call on (.cons (.var 0) (.cons (.lst (.cons (.bin .Mod (.bi .int (.cons (.bin .Add (.var 4) (.con (.int (1)))) .nil)) (.var 1)) (.cons (.call tk (.cons (.var 0) (.cons (.var 1) .nil))) (.cons (.var 4) .nil)))) .nil))) .nil)) .nil)
def wEs : List Int → Es
  | [] => .nil
  | i :: r => .cons (.con (.int i)) (wEs r)
/-- a list of weights, written out -/
def wE (l : List Int) : E := .lst (wEs l)
structure WtOk (l : List Int) : Prop where
  ne : l ≠ []
  len : l.length < 1000
  b : ∀ w ∈ l, 1 ≤ w ∧ w ≤ 19
theorem wEs_ok {cl : Nat → List PV → Hs → Out PV} {σ : Sl} {h : Hs} : ∀ l : List Int, evEs cl (wEs l) σ h = .ok (l.map .int) h
  | [] => rfl
  | i :: r => by
    have e : evE cl (.con (.int i)) σ h = .ok (.int i) h := rfl
    rw [wEs, evEs, e, Out.bind_ok, wEs_ok r, Out.bind_ok]; rfl
theorem wE_ok {cl : Nat → List PV → Hs → Out PV} {σ : Sl} {h : Hs} {l : List Int} (ok : WtOk l) : evE cl (wE l) σ h = .ok (.lst (l.map .int)) h := by
  have := ok.len
  rw [wE, evE, wEs_ok, Out.bind_ok, if_pos (szLe (by rw [List.length_map]; omega))]
def bState (wl : List Int) (tk on lf df : Nat) : Ss := (.cons (.asg (.v 5) (.lst .nil)) (.cons (.forr [5, 3] (.v 6) (.range (.cons (.bin .Add (.con (.int (1))) (.call tk (.cons (.var 0) (.cons (.var 2) .nil)))) .nil)) (bEnds tk on)) (.cons (.asg (.v 5) (.bi .setSorted (.cons (.var 5) .nil))) (.cons (.asg (.v 7) (.comp [9] (.call on (.cons (.var 0) (.cons (wE wl) .nil))) (.v 9) (.it (.var 5)) (.con (.bl true)))) (.cons (.asg (.v 8) (.comp [9, 10] (.tup (.cons (.var 9) (.cons (.call lf (.cons (.var 10) (.cons (.bi .sum (.cons (.var 7) .nil)) .nil))) .nil))) (.t (.cons (.v 9) (.cons (.v 10) .nil))) (.zip (.cons (.var 5) (.cons (.var 7) .nil))) (.con (.bl true)))) (.cons (.mut .append 3 (.cons (.tup (.cons (.call df (.cons (.var 0) (.cons (.con (.int (6))) .nil))) (.cons (.bi .tuple (.cons (.var 8) .nil)) .nil))) .nil)) .nil))))))
def pDWork (wl : List Int) (tk on lf df : Nat) : Ss := (.cons (.asg (.v 3) (.lst .nil)) (.cons (.forr [3] (.v 4) (.range (.cons (.var 1) .nil)) (bState wl tk on lf df)) (.cons (.ret (.bi .tuple (.cons (.var 3) .nil))) .nil)))
section
variable {cl : Nat → List PV → Hs → Out PV} {tk on lf df : Nat}
/-- the inner loop: ends -/
theorem ends_ok (T : TakeC cl tk) (O : OneC cl on) {n : Nat} {B many wide k : Int} {x : PV} {h : Hs} {y6 y7 y8 y9 y10 : Option PV} (p : PenOk n B h) (hB : B + 200 ≤ 1000000) (m0 : 0 < many) (m1 : many ≤ 1000) (w0 : 0 < wide) (w1 : wide ≤ 63) (k0 : 0 ≤ k) (k1 : k < many) :
    ∃ (es : List Int) (h' : Hs) (z6 : Option PV), evS cl (.forr [5, 3] (.v 6) (.range (.cons (.bin .Add (.con (.int (1))) (.call tk (.cons (.var 0) (.cons (.var 2) .nil)))) .nil)) (bEnds tk on)) [some (.ref n), some (.int many), some (.int wide), some x, some (.int k), some (.lst []), y6, y7, y8, y9, y10] h =
        .ok (.nx [some (.ref n), some (.int many), some (.int wide), some x, some (.int k), some (.lst (es.map .int)), z6, y7, y8, y9, y10]) h' ∧ es ≠ [] ∧ es.length < 64 ∧ (∀ e ∈ es, 0 ≤ e ∧ e < many) ∧ PenOk n (B + 127) h' ∧ h'.length = h.length := by
  obtain ⟨r, h1, e1, r0, r1, p1, l1⟩ := T n B wide h p (by omega) w0 (by omega)
  have ad : ∀ i j : Int, binV .Add (.int i) (.int j) = some (.int (i + j)) := fun _ _ => rfl
  let tot : Nat := (1 + r).toNat
  have it : evI cl (.range (.cons (.bin .Add (.con (.int (1))) (.call tk (.cons (.var 0) (.cons (.var 2) .nil)))) .nil)) [some (.ref n), some (.int many), some (.int wide), some x, some (.int k), some (.lst []), y6, y7, y8, y9, y10] h = .ok (rangeL 0 tot) h1 := by
    have rg : rangeV [.int (1 + r)] = some (rangeL 0 tot) := by
      show (if smallI (1 + r) && Nat.ble (1 + r).toNat 16000000 then _ else _) = _
      rw [if_pos]
      have : smallI (1 + r) = true := by unfold smallI; rw [decide_eq_true (by omega), decide_eq_true (by omega)]; rfl
      rw [this, Bool.true_and]
      exact Nat.ble_eq_true_of_le (by omega)
    simp only [evS, evE, evSs, evEs, evI, List.map_cons, List.map_nil, List.cons_append, List.nil_append, List.replicate_succ, List.replicate_zero, getS_0, getS_s, List.set_cons_zero, List.set_cons_succ, wipe_nil, wipe_cons, setT_v, setT_t, setTs_nil, setTs_cons, setAll, Option.bind_some, Out.of_some, Out.bind_ok, Nat.reduceSub, e1, ad, rg]
  have lp := for_rule (t := .v 6) (b := evSs cl (bEnds tk on))
    (fun rest σ h' => ∃ (es : List Int) (z6 : Option PV), es.length + rest.length = tot ∧ (∀ e ∈ es, 0 ≤ e ∧ e < many) ∧ PenOk n (B + 1 + 2 * es.length) h' ∧ h'.length = h.length ∧
      σ = [some (.ref n), some (.int many), some (.int wide), some x, some (.int k), some (.lst (es.map .int)), z6, y7, y8, y9, y10])
    (by
      rintro q qs σ h' ⟨es, z6, el, hes, p', l', rfl⟩
      simp only [List.length_cons] at el
      obtain ⟨f1, f2⟩ := fmod_pos (i := k + 1) (j := many) m0
      have md := mod_ok (i := k + 1) (j := many) m0
      obtain ⟨s, h2, e2, s0, s1, p2, l2⟩ := T n (B + 1 + 2 * es.length) many h' p' (by omega) m0 (by omega)
      obtain ⟨v, h3, hv, e3, p3, l3⟩ := O n (B + 1 + 2 * es.length + 1) [.int ((k + 1).fmod many), .int s, .int k] h2 p2 (by omega) (by simp) (by simp)
      have hb : ∃ b : Int, v = .int b ∧ 0 ≤ b ∧ b < many := by
        simp only [List.mem_cons, List.not_mem_nil, or_false] at hv
        rcases hv with rfl | rfl | rfl
        · exact ⟨_, rfl, f1, f2⟩
        · exact ⟨_, rfl, s0, s1⟩
        · exact ⟨_, rfl, k0, k1⟩
      obtain ⟨b, rfl, b0, b1⟩ := hb
      have bi : ∀ h : Hs, biV h .int [.int (k + 1)] = some (.int (k + 1)) := fun _ => rfl
      have z3 : szOk 3 = true := rfl
      have mu : muV .append (.lst (es.map .int)) [.int b] = some (.lst ((es ++ [b]).map .int)) := by
        show (if szOk _ = true then some (PV.lst (es.map PV.int ++ [.int b])) else none) = _
        rw [if_pos (szLe (by rw [List.length_map]; omega)), List.map_append]
        rfl
      refine ⟨[some (.ref n), some (.int many), some (.int wide), some x, some (.int k), some (.lst (es.map .int)), some q, y7, y8, y9, y10], [some (.ref n), some (.int many), some (.int wide), some x, some (.int k), some (.lst ((es ++ [b]).map .int)), some q, y7, y8, y9, y10], h3, rfl, .inl ?_, es ++ [b], some q, by simp only [List.length_append, List.length_cons, List.length_nil]; omega, ?_, ?_, by omega, rfl⟩
      · unfold bEnds
        simp only [evS, evE, evSs, evEs, evI, List.map_cons, List.map_nil, List.cons_append, List.nil_append, List.replicate_succ, List.replicate_zero, getS_0, getS_s, List.set_cons_zero, List.set_cons_succ, wipe_nil, wipe_cons, setT_v, setT_t, setTs_nil, setTs_cons, setAll, Option.bind_some, Out.of_some, Out.bind_ok, Nat.reduceSub, ad, bi, md, e2, List.length_cons, List.length_nil, Nat.reduceAdd, z3, if_true, e3, mu]
      · intro e he
        rcases List.mem_append.mp he with he | he
        · exact hes e he
        · rw [List.mem_singleton.mp he]; exact ⟨b0, b1⟩
      · refine p3.mono ?_
        simp only [List.length_append, List.length_cons, List.length_nil]
        omega)
  have rl : (rangeL 0 tot).length = tot := by rw [rangeL_map, List.length_map, List.length_range]
  obtain ⟨σ', h', e4, es, z6, el, hes, p', l', rfl⟩ := lp (rangeL 0 tot) _ h1 ⟨[], y6, by rw [rl]; simp, by simp, by simpa using p1, l1, rfl⟩
  simp only [List.length_nil, Nat.add_zero] at el
  refine ⟨es, h', z6, ?_, ?_, by omega, hes, p'.mono (by omega), l'⟩
  · rw [evS, it]
    exact e4
  · intro z; rw [z] at el; simp at el; omega
/-- one state -/
theorem state_ok {wl : List Int} (Wt : WtOk wl) (T : TakeC cl tk) (O : OneC cl on) (L : LFracC cl lf) (D : DFracC cl df) {n : Nat} {B many wide k : Int} {xs : List PV} {h : Hs} {y5 y6 y7 y8 : Option PV} (p : PenOk n B h) (hB : B + 300 ≤ 1000000) (m0 : 0 < many) (m1 : many ≤ 1000) (w0 : 0 < wide) (w1 : wide ≤ 63) (k0 : 0 ≤ k) (k1 : k < many) (xl : xs.length ≤ 1000) :
    ∃ (s : Sta) (h' : Hs) (z5 z6 z7 z8 : Option PV), evSs cl (bState wl tk on lf df) [some (.ref n), some (.int many), some (.int wide), some (.lst xs), some (.int k), y5, y6, y7, y8, none, none] h =
        .ok (.nx [some (.ref n), some (.int many), some (.int wide), some (.lst (xs ++ [stV s])), some (.int k), z5, z6, z7, z8, none, none]) h' ∧ StaOk many s ∧ PenOk n (B + 200) h' ∧ h'.length = h.length := by
  obtain ⟨es, h1, z6, e1, es0, esl, hes, p1, l1⟩ := ends_ok (k := k) (x := .lst xs) (y6 := y6) (y7 := y7) (y8 := y8) (y9 := none) (y10 := none) T O p (by omega) m0 m1 w0 w1 k0 k1
  have z0 : szOk 0 = true := rfl
  have s1 : evS cl (.asg (.v 5) (.lst .nil)) [some (.ref n), some (.int many), some (.int wide), some (.lst xs), some (.int k), y5, y6, y7, y8, none, none] h = .ok (.nx [some (.ref n), some (.int many), some (.int wide), some (.lst xs), some (.int k), some (.lst []), y6, y7, y8, none, none]) h := by
    simp only [evS, evE, evSs, evEs, evI, List.map_cons, List.map_nil, List.cons_append, List.nil_append, List.replicate_succ, List.replicate_zero, getS_0, getS_s, List.set_cons_zero, List.set_cons_succ, wipe_nil, wipe_cons, setT_v, setT_t, setTs_nil, setTs_cons, setAll, Option.bind_some, Out.of_some, Out.bind_ok, Nat.reduceSub, List.length_nil, z0, if_true]
  have ess : ss es ≠ [] := by
    intro z
    obtain ⟨e, r, hr⟩ := List.exists_cons_of_ne_nil es0
    have : e ∈ ss es := mem_ss.mpr (by rw [hr]; exact List.mem_cons_self)
    rw [z] at this; cases this
  have ssl : ((ss es).length : Int) ≤ many - 0 := asc_len (asc_ss es) (fun x hx => (hes x (mem_ss.mp hx)).1) (fun x hx => (hes x (mem_ss.mp hx)).2) (by omega)
  have dedl : ∀ l : List Int, (dedI l).length ≤ l.length := fun l => by
    induction l with
    | nil => simp [dedI]
    | cons a r ih =>
      unfold dedI
      split
      · simp only [List.length_cons]; omega
      · simp only [List.length_cons]; omega
  have ssl2 : (ss es).length ≤ es.length := by
    show (sortI (dedI es)).length ≤ _
    rw [len_sortI]; exact dedl es
  have set : biV h1 .setSorted [.lst (es.map .int)] = some (.lst ((ss es).map .int)) := by
    show (intsOf _).bind _ = _
    rw [intsOf_map]
    show (if Nat.blt es.length 64 = true then _ else _) = _
    rw [if_pos (by rw [Nat.blt_eq]; exact esl)]
    rfl
  have s3 : evS cl (.asg (.v 5) (.bi .setSorted (.cons (.var 5) .nil))) [some (.ref n), some (.int many), some (.int wide), some (.lst xs), some (.int k), some (.lst (es.map .int)), z6, y7, y8, none, none] h1 = .ok (.nx [some (.ref n), some (.int many), some (.int wide), some (.lst xs), some (.int k), some (.lst ((ss es).map .int)), z6, y7, y8, none, none]) h1 := by
    simp only [evS, evE, evSs, evEs, evI, List.map_cons, List.map_nil, List.cons_append, List.nil_append, List.replicate_succ, List.replicate_zero, getS_0, getS_s, List.set_cons_zero, List.set_cons_succ, wipe_nil, wipe_cons, setT_v, setT_t, setTs_nil, setTs_cons, setAll, Option.bind_some, Out.of_some, Out.bind_ok, Nat.reduceSub, set]
  generalize hE : ss es = E at *
  have wrl := each_rule (f := compF cl [9] (.call on (.cons (.var 0) (.cons (wE wl) .nil))) (.v 9) (.con (.bl true)) [some (.ref n), some (.int many), some (.int wide), some (.lst xs), some (.int k), some (.lst (E.map .int)), z6, y7, y8, none, none])
    (fun rest ys h' => ∃ ws : List Int, ys = ws.map .int ∧ ws.length + rest.length = E.length ∧ (∀ w ∈ ws, 1 ≤ w ∧ w ≤ 19) ∧ PenOk n (B + 127 + ws.length) h' ∧ h'.length = h.length)
    (by
      rintro q qs ys h' ⟨ws, rfl, el, hws, p', l'⟩
      simp only [List.length_cons] at el
      have wll := Wt.len
      obtain ⟨v, h3, hv, e3, p3, l3⟩ := O n (B + 127 + ws.length) (wl.map .int) h' p' (by omega) (by have := Wt.ne; simpa using this) (by rw [List.length_map]; omega)
      have hb : ∃ b : Int, v = .int b ∧ 1 ≤ b ∧ b ≤ 19 := by
        obtain ⟨b, hb, rfl⟩ := List.mem_map.mp hv
        exact ⟨b, rfl, Wt.b b hb⟩
      obtain ⟨b, rfl, b0, b1⟩ := hb
      refine ⟨[.int b], h3, by unfold compF; simp only [evS, evE, evSs, evEs, evI, List.map_cons, List.map_nil, List.cons_append, List.nil_append, List.replicate_succ, List.replicate_zero, getS_0, getS_s, List.set_cons_zero, List.set_cons_succ, wipe_nil, wipe_cons, setT_v, setT_t, setTs_nil, setTs_cons, setAll, Option.bind_some, Out.of_some, Out.bind_ok, Nat.reduceSub, wE_ok Wt, e3], ws ++ [b], by simp, by simp only [List.length_append, List.length_cons, List.length_nil]; omega, ?_, p3.mono (by simp only [List.length_append, List.length_cons, List.length_nil]; omega), by omega⟩
      intro w hw
      rcases List.mem_append.mp hw with hw | hw
      · exact hws w hw
      · rw [List.mem_singleton.mp hw]; exact ⟨b0, b1⟩)
  obtain ⟨zs, h2, e2, ws, hz, wsl, hws, p2, l2⟩ := wrl (E.map .int) [] h1 ⟨[], rfl, by simp, by simp, by simpa using p1, l1⟩
  simp only [List.nil_append] at hz
  subst hz
  simp only [List.length_nil, Nat.add_zero] at wsl
  have sq : seqOf (.lst (E.map .int)) = some (E.map .int) := rfl
  have s4 : evS cl (.asg (.v 7) (.comp [9] (.call on (.cons (.var 0) (.cons (wE wl) .nil))) (.v 9) (.it (.var 5)) (.con (.bl true)))) [some (.ref n), some (.int many), some (.int wide), some (.lst xs), some (.int k), some (.lst (E.map .int)), z6, y7, y8, none, none] h1 =
      .ok (.nx [some (.ref n), some (.int many), some (.int wide), some (.lst xs), some (.int k), some (.lst (E.map .int)), z6, some (.lst (ws.map .int)), y8, none, none]) h2 := by
    have i5 : evI cl (.it (.var 5)) [some (.ref n), some (.int many), some (.int wide), some (.lst xs), some (.int k), some (.lst (E.map .int)), z6, y7, y8, none, none] h1 = .ok (E.map .int) h1 := by simp only [evS, evE, evSs, evEs, evI, List.map_cons, List.map_nil, List.cons_append, List.nil_append, List.replicate_succ, List.replicate_zero, getS_0, getS_s, List.set_cons_zero, List.set_cons_succ, wipe_nil, wipe_cons, setT_v, setT_t, setTs_nil, setTs_cons, setAll, Option.bind_some, Out.of_some, Out.bind_ok, Nat.reduceSub, sq]
    rw [evS, comp_run i5 e2 (by rw [List.length_map]; omega)]
    simp only [evS, evE, evSs, evEs, evI, List.map_cons, List.map_nil, List.cons_append, List.nil_append, List.replicate_succ, List.replicate_zero, getS_0, getS_s, List.set_cons_zero, List.set_cons_succ, wipe_nil, wipe_cons, setT_v, setT_t, setTs_nil, setTs_cons, setAll, Option.bind_some, Out.of_some, Out.bind_ok, Nat.reduceSub]
  have w0' : 0 < ws.sum := by
    obtain ⟨e, r, hr⟩ := List.exists_cons_of_ne_nil (l := ws) (by intro z; rw [z] at wsl; exact ess (List.eq_nil_of_length_eq_zero wsl.symm))
    have nn := sum_nn r fun w hw => by have := (hws w (by rw [hr]; exact List.mem_cons_of_mem _ hw)).1; omega
    have := (hws e (by rw [hr]; exact List.mem_cons_self)).1
    rw [hr, List.sum_cons]; omega
  have w1' := sum_le_mul ws 19 fun w hw => (hws w hw).2
  have fst : (E.zip ws).map Prod.fst = E := List.map_fst_zip (by omega)
  have snd : (E.zip ws).map Prod.snd = ws := List.map_snd_zip (by omega)
  have ws_eq : wsum (E.zip ws) = ws.sum := by show ((E.zip ws).map Prod.snd).sum = _; rw [snd]
  have zl : (E.zip ws).length = E.length := by rw [List.length_zip]; omega
  have s5 : evS cl (.asg (.v 8) (.comp [9, 10] (.tup (.cons (.var 9) (.cons (.call lf (.cons (.var 10) (.cons (.bi .sum (.cons (.var 7) .nil)) .nil))) .nil))) (.t (.cons (.v 9) (.cons (.v 10) .nil))) (.zip (.cons (.var 5) (.cons (.var 7) .nil))) (.con (.bl true)))) [some (.ref n), some (.int many), some (.int wide), some (.lst xs), some (.int k), some (.lst (E.map .int)), z6, some (.lst (ws.map .int)), y8, none, none] h2 =
      .ok (.nx [some (.ref n), some (.int many), some (.int wide), some (.lst xs), some (.int k), some (.lst (E.map .int)), z6, some (.lst (ws.map .int)), some (.lst ((E.zip ws).map (mvV ws.sum))), none, none]) h2 := by
    have zp : zipV [.lst (E.map .int), .lst (ws.map .int)] = some ((E.zip ws).map fun p => .tup [.int p.1, .int p.2]) := by
      show some (zip2 _ _) = _
      rw [zip_map2]
    simp only [evS, evE, evSs, evEs, evI, List.map_cons, List.map_nil, List.cons_append, List.nil_append, List.replicate_succ, List.replicate_zero, getS_0, getS_s, List.set_cons_zero, List.set_cons_succ, wipe_nil, wipe_cons, setT_v, setT_t, setTs_nil, setTs_cons, setAll, Option.bind_some, Out.of_some, Out.bind_ok, Nat.reduceSub, zp]
    rw [each_map (g := fun m => [mvV ws.sum m])]
    · rw [flatMap_one, Out.bind_ok, if_pos (szLe (by rw [List.length_map]; omega))]
      simp only [evS, evE, evSs, evEs, evI, List.map_cons, List.map_nil, List.cons_append, List.nil_append, List.replicate_succ, List.replicate_zero, getS_0, getS_s, List.set_cons_zero, List.set_cons_succ, wipe_nil, wipe_cons, setT_v, setT_t, setTs_nil, setTs_cons, setAll, Option.bind_some, Out.of_some, Out.bind_ok, Nat.reduceSub]
    · intro m hm
      have hw := hws m.2 (List.of_mem_zip (show (m.1, m.2) ∈ E.zip ws from hm)).2
      have sm : biV h2 .sum [.lst (ws.map .int)] = some (.int ws.sum) := by
        show (intsOf _).map _ = _
        rw [intsOf_map]; rfl
      have z2 : szOk 2 = true := rfl
      simp only [evS, evE, evSs, evEs, evI, List.map_cons, List.map_nil, List.cons_append, List.nil_append, List.replicate_succ, List.replicate_zero, getS_0, getS_s, List.set_cons_zero, List.set_cons_succ, wipe_nil, wipe_cons, setT_v, setT_t, setTs_nil, setTs_cons, setAll, Option.bind_some, Out.of_some, Out.bind_ok, Nat.reduceSub, sm, L m.2 ws.sum h2 (by omega) (by omega) w0', List.length_cons, List.length_nil, Nat.reduceAdd, z2, if_true]
      rfl
  obtain ⟨t, b, h3, e3, b0, b1, ta, p3, l3⟩ := D n (B + 127 + ws.length) 6 h2 p2 (by omega) (by omega) (by omega)
  have tp : ∀ l : List PV, biV h3 .tuple [.lst l] = some (.tup l) := fun _ => rfl
  have z2 : szOk 2 = true := rfl
  have mu : muV .append (.lst xs) [stV (t, b, E.zip ws)] = some (.lst (xs ++ [stV (t, b, E.zip ws)])) := by
    show (if szOk _ = true then _ else _) = _
    rw [if_pos (szLe (by omega))]
  have s6 : evS cl (.mut .append 3 (.cons (.tup (.cons (.call df (.cons (.var 0) (.cons (.con (.int (6))) .nil))) (.cons (.bi .tuple (.cons (.var 8) .nil)) .nil))) .nil)) [some (.ref n), some (.int many), some (.int wide), some (.lst xs), some (.int k), some (.lst (E.map .int)), z6, some (.lst (ws.map .int)), some (.lst ((E.zip ws).map (mvV ws.sum))), none, none] h2 =
      .ok (.nx [some (.ref n), some (.int many), some (.int wide), some (.lst (xs ++ [stV (t, b, E.zip ws)])), some (.int k), some (.lst (E.map .int)), z6, some (.lst (ws.map .int)), some (.lst ((E.zip ws).map (mvV ws.sum))), none, none]) h3 := by
    have mu2 := mu
    unfold stV at mu2
    rw [ws_eq] at mu2
    simp only at mu2
    simp only [evS, evE, evSs, evEs, evI, List.map_cons, List.map_nil, List.cons_append, List.nil_append, List.replicate_succ, List.replicate_zero, getS_0, getS_s, List.set_cons_zero, List.set_cons_succ, wipe_nil, wipe_cons, setT_v, setT_t, setTs_nil, setTs_cons, setAll, Option.bind_some, Out.of_some, Out.bind_ok, Nat.reduceSub, e3, tp, List.length_cons, List.length_nil, Nat.reduceAdd, z2, if_true, mu2]
    unfold stV
    rw [ws_eq]
  refine ⟨(t, b, E.zip ws), h3, _, _, _, _, (ss_nx s1).trans ((ss_nx e1).trans ((ss_nx s3).trans ((ss_nx s4).trans ((ss_nx s5).trans ((ss_nx s6).trans rfl))))), ⟨b0, by show b ≤ 1000; omega, by show t.natAbs ≤ 1000; omega, ?_⟩, p3.mono (by omega), by omega⟩
  have hE2 : SAsc E := by rw [← hE]; exact asc_ss es
  have hE3 : ∀ e ∈ E, 0 ≤ e ∧ e < many := fun e he => hes e (mem_ss.mp (by rw [hE]; exact he))
  have mem : ∀ m ∈ E.zip ws, m.1 ∈ E ∧ m.2 ∈ ws := fun m hm => List.of_mem_zip (show (m.1, m.2) ∈ E.zip ws from hm)
  refine ⟨fun z => ?_, ?_, fun m hm => (hE3 _ (mem m hm).1).1, fun m hm => (hE3 _ (mem m hm).1).2, fun m hm => (hws _ (mem m hm).2).1, ?_, ?_⟩
  · have z' : E.zip ws = [] := z
    have : E = [] := by rw [← fst, z']; rfl
    exact ess this
  · have : ((E.zip ws).map Prod.fst).Pairwise (· < ·) := by rw [fst]; exact hE2
    exact List.pairwise_map.mp this
  · show wsum (E.zip ws) ≤ _
    rw [ws_eq]; omega
  · show (E.zip ws).length ≤ _
    omega
theorem rangeLen (n : Nat) (lo : Int) : (rangeL lo n).length = n := by rw [rangeL_map, List.length_map, List.length_range]
/-- a drawn work -/
theorem dwork_ok {wl : List Int} (Wt : WtOk wl) (T : TakeC cl tk) (O : OneC cl on) (L : LFracC cl lf) (D : DFracC cl df) {n : Nat} {B many wide : Int} {h : Hs} (p : PenOk n B h) (hB : B + 3000 ≤ 1000000) (m0 : 0 < many) (m1 : many ≤ 6) (w0 : 0 < wide) (w1 : wide ≤ 63) :
    ∃ (W : List Sta) (h' : Hs), evD cl ⟨3, 11, pDWork wl tk on lf df⟩ [.ref n, .int many, .int wide] h = .ok (workV W) h' ∧ WorkOk W ∧ (W.length : Int) = many ∧ PenOk n (B + 1200) h' ∧ h'.length = h.length := by
  have z0 : szOk 0 = true := rfl
  have s1 : evS cl (.asg (.v 3) (.lst .nil)) [some (.ref n), some (.int many), some (.int wide), none, none, none, none, none, none, none, none] h = .ok (.nx [some (.ref n), some (.int many), some (.int wide), some (.lst []), none, none, none, none, none, none, none]) h := by
    simp only [evS, evE, evSs, evEs, evI, List.map_cons, List.map_nil, List.cons_append, List.nil_append, List.replicate_succ, List.replicate_zero, getS_0, getS_s, List.set_cons_zero, List.set_cons_succ, wipe_nil, wipe_cons, setT_v, setT_t, setTs_nil, setTs_cons, setAll, Option.bind_some, Out.of_some, Out.bind_ok, Nat.reduceSub, List.length_nil, z0, if_true]
  have rg : rangeV [.int many] = some (rangeL 0 many.toNat) := by
    show (if smallI many && Nat.ble many.toNat 16000000 then _ else _) = _
    rw [if_pos]
    have : smallI many = true := by unfold smallI; rw [decide_eq_true (by omega), decide_eq_true (by omega)]; rfl
    rw [this, Bool.true_and]
    exact Nat.ble_eq_true_of_le (by omega)
  have it : evI cl (.range (.cons (.var 1) .nil)) [some (.ref n), some (.int many), some (.int wide), some (.lst []), none, none, none, none, none, none, none] h = .ok (rangeL 0 many.toNat) h := by
    simp only [evS, evE, evSs, evEs, evI, List.map_cons, List.map_nil, List.cons_append, List.nil_append, List.replicate_succ, List.replicate_zero, getS_0, getS_s, List.set_cons_zero, List.set_cons_succ, wipe_nil, wipe_cons, setT_v, setT_t, setTs_nil, setTs_cons, setAll, Option.bind_some, Out.of_some, Out.bind_ok, Nat.reduceSub, rg]
  have lp := for_rule (t := .v 4) (b := evSs cl (bState wl tk on lf df))
    (fun rest σ h' => ∃ (W : List Sta) (y4 y5 y6 y7 y8 : Option PV), W.length + rest.length = many.toNat ∧ rest = rangeL W.length rest.length ∧ (∀ s ∈ W, StaOk many s) ∧ PenOk n (B + 200 * W.length) h' ∧ h'.length = h.length ∧
      σ = [some (.ref n), some (.int many), some (.int wide), some (.lst (W.map stV)), y4, y5, y6, y7, y8, none, none])
    (by
      rintro q qs σ h' ⟨W, y4, y5, y6, y7, y8, el, er, hW, p', l', rfl⟩
      simp only [List.length_cons, rangeL, List.cons.injEq] at el er
      obtain ⟨rfl, er⟩ := er
      obtain ⟨s, h2, z5, z6, z7, z8, e2, sok, p2, l2⟩ := state_ok (k := (W.length : Int)) (xs := W.map stV) (y5 := y5) (y6 := y6) (y7 := y7) (y8 := y8) Wt T O L D p' (by omega) m0 (by omega) w0 w1 (by omega) (by omega) (by rw [List.length_map]; omega)
      refine ⟨[some (.ref n), some (.int many), some (.int wide), some (.lst (W.map stV)), some (.int (W.length : Int)), y5, y6, y7, y8, none, none], _, h2, rfl, .inl e2, W ++ [s], some (.int (W.length : Int)), z5, z6, z7, z8, by simp only [List.length_append, List.length_cons, List.length_nil]; omega, ?_, ?_, ?_, by omega, by rw [List.map_append]; rfl⟩
      · rw [List.length_append, List.length_singleton, Int.natCast_add]
        exact er
      · intro u hu
        rcases List.mem_append.mp hu with hu | hu
        · exact hW u hu
        · rw [List.mem_singleton.mp hu]; exact sok
      · refine p2.mono ?_
        simp only [List.length_append, List.length_cons, List.length_nil]
        omega)
  obtain ⟨σ', h', e4, W, y4, y5, y6, y7, y8, el, _, hW, p', l', rfl⟩ := lp (rangeL 0 many.toNat) [some (.ref n), some (.int many), some (.int wide), some (.lst []), none, none, none, none, none, none, none] h
    ⟨[], none, none, none, none, none, by rw [rangeLen]; simp, by rw [rangeLen]; rfl, by simp, by simpa using p, rfl, rfl⟩
  simp only [List.length_nil, Nat.add_zero] at el
  have tp : ∀ l : List PV, biV h' .tuple [.lst l] = some (.tup l) := fun _ => rfl
  refine ⟨W, h', d_rt rfl ((ss_nx s1).trans ((ss_nx (by rw [evS, it]; exact e4)).trans (ss_rt (by simp only [evS, evE, evSs, evEs, evI, List.map_cons, List.map_nil, List.cons_append, List.nil_append, List.replicate_succ, List.replicate_zero, getS_0, getS_s, List.set_cons_zero, List.set_cons_succ, wipe_nil, wipe_cons, setT_v, setT_t, setTs_nil, setTs_cons, setAll, Option.bind_some, Out.of_some, Out.bind_ok, Nat.reduceSub, tp]; rfl)))), ⟨by omega, by omega, fun s hs => ?_⟩, by omega, p'.mono (by omega), l'⟩
  have := hW s hs
  rw [show ((W.length : Nat) : Int) = many by omega]
  exact this
end
end MP

set_option Elab.async false
set_option linter.all false
set_option maxRecDepth 100000
set_option exponentiation.threshold 100
namespace MP
open PySem

/-! ### plain law: what is shown -/
abbrev Ok21 (x : Str) : Prop := ∀ c ∈ x.cps.toList, c < 1114112
theorem ok21_str {x : Str} (h : Ok21 x) : PyData.strOk x = true := by
  unfold PyData.strOk
  rw [Array.all_eq_true_iff_forall_mem]
  intro c hc
  exact decide_eq_true (h c (Array.mem_toList_iff.mpr hc))
theorem ok21_int (i : Int) : Ok21 (PyData.shown (.int i)) := fun c hc => by
  by_cases q : c < 1114112
  · exact q
  · exact absurd hc (PyProof.Rows.shown_int_free' ⟨by omega, .inr (by omega)⟩ i)
theorem ok21_join {ts : List Str} (h : ∀ t ∈ ts, Ok21 t) : Ok21 (Str.join ", " ts) := fun c hc => by
  rcases (PyProof.Rows.mem_join _ c ts).mp hc with ⟨t, ht, q⟩ | ⟨_, q⟩
  · exact h t ht c q
  · rw [PyProof.Rows.signs_sep] at q
    simp only [List.mem_cons, List.not_mem_nil, or_false] at q
    omega
theorem ok21_app {x y : Str} (h : Ok21 x) (k : Ok21 y) : Ok21 (x ++ y) := fun c hc => by
  rcases PyProof.Rows.mem_cps_append.mp hc with q | q
  · exact h c q
  · exact k c q
theorem ok21_lit {x : Str} {l : List Nat} (e : x.cps.toList = l) (h : ∀ c ∈ l, c < 1114112) : Ok21 x := fun c hc => h c (e ▸ hc)
theorem ok21_list {xs : List PyData} (h : ∀ t ∈ PyData.shownAll xs, Ok21 t) : Ok21 (PyData.shown (.list xs)) := by
  have e : PyData.shown (.list xs) = (("[" : String) : Str) ++ Str.join ", " (PyData.shownAll xs) ++ (("]" : String) : Str) := by
    rw [PyData.shown, listText_eq_join]
  rw [e]
  exact ok21_app (ok21_app (ok21_lit PyProof.Rows.signs_lbrack (by decide)) (ok21_join h)) (ok21_lit PyProof.Rows.signs_rbrack (by decide))
theorem ok21_tuple {xs : List PyData} (h : ∀ t ∈ PyData.shownAll xs, Ok21 t) : Ok21 (PyData.shown (.tuple xs)) := by
  rw [PyData.shown]
  unfold tupleText
  refine ok21_app (ok21_app (ok21_lit PyProof.Rows.signs_lparen (by decide)) (ok21_join h)) ?_
  split
  · exact ok21_lit (l := [44, 41]) (by decide) (by decide)
  · exact ok21_lit (l := [41]) (by decide) (by decide)
structure Shw (d w : Nat) (v : PV) : Prop where
  pl : plain d v = true
  sh : (toD v).showable = true
  sz : (toD v).leavesShort 13 = true
  wt : (toD v).weight ≤ w
  tx : Ok21 (toD v).shown
structure ShwAll (d w : Nat) (vs : List PV) : Prop where
  pl : plains d vs = true
  sh : PyData.showableAll (toDs vs) = true
  sz : PyData.leavesShortAll 13 (toDs vs) = true
  wt : PyData.weightAll (toDs vs) ≤ w
  tx : ∀ t ∈ PyData.shownAll (toDs vs), Ok21 t
theorem Shw.int {d : Nat} {i : Int} (h : i.natAbs < 1000000000000) : Shw d 40 (.int i) := by
  have l : i.natAbs.log2 ≤ 39 := by
    by_cases z : i.natAbs = 0
    · rw [z]; simp
    · exact Nat.le_of_lt_succ ((Nat.log2_lt z).mpr (by omega))
  have t : (toD (.int i)) = .int i := by simp [toD]
  refine ⟨by simp [plain], ?_, ?_, ?_, by rw [t]; exact ok21_int i⟩
  · rw [t]; unfold PyData.showable; exact decide_eq_true (by omega)
  · rw [t]; unfold PyData.leavesShort; exact decide_eq_true (PyData.shown_int_le (by omega))
  · rw [t]; unfold PyData.weight; split <;> omega
theorem ShwAll.nil {d : Nat} : ShwAll d 0 [] := ⟨by simp [plains], by simp [toDs, PyData.showableAll], by simp [toDs, PyData.leavesShortAll], by simp [toDs, PyData.weightAll], by simp [toDs, PyData.shownAll]⟩
theorem ShwAll.cons {d a b : Nat} {v : PV} {vs : List PV} (h : Shw d a v) (k : ShwAll d b vs) : ShwAll d (a + 1 + b) (v :: vs) := by
  obtain ⟨h1, h2, h3, h4, h5⟩ := h
  obtain ⟨k1, k2, k3, k4, k5⟩ := k
  exact ⟨by simp [plains, h1, k1], by simp [toDs, PyData.showableAll, h2, k2], by simp [toDs, PyData.leavesShortAll, h3, k3], by simp only [toDs, PyData.weightAll]; omega, fun t ht => by
    simp only [toDs, PyData.shownAll, List.mem_cons] at ht
    rcases ht with rfl | ht
    · exact h5
    · exact k5 t ht⟩
theorem Shw.tup {d w : Nat} {vs : List PV} (h : ShwAll d w vs) : Shw (d + 1) w (.tup vs) := by
  obtain ⟨h1, h2, h3, h4, h5⟩ := h
  exact ⟨by simp only [plain]; exact h1, by simp only [toD, PyData.showable]; exact h2, by simp only [toD, PyData.leavesShort]; exact h3, by simp only [toD, PyData.weight]; exact h4, by simp only [toD]; exact ok21_tuple h5⟩
theorem Shw.lst {d w : Nat} {vs : List PV} (h : ShwAll d w vs) : Shw (d + 1) w (.lst vs) := by
  obtain ⟨h1, h2, h3, h4, h5⟩ := h
  exact ⟨by simp only [plain]; exact h1, by simp only [toD, PyData.showable]; exact h2, by simp only [toD, PyData.leavesShort]; exact h3, by simp only [toD, PyData.weight]; exact h4, by simp only [toD]; exact ok21_list h5⟩
theorem ShwAll.mono {d a b : Nat} {vs : List PV} (h : ShwAll d a vs) (k : a ≤ b) : ShwAll d b vs := ⟨h.pl, h.sh, h.sz, by have := h.wt; omega, h.tx⟩
theorem Shw.mono {d a b : Nat} {v : PV} (h : Shw d a v) (k : a ≤ b) : Shw d b v := ⟨h.pl, h.sh, h.sz, by have := h.wt; omega, h.tx⟩
theorem ShwAll.map {α : Type} {d w : Nat} {f : α → PV} : ∀ (xs : List α), (∀ x ∈ xs, Shw d w (f x)) → ShwAll d ((w + 1) * xs.length) (xs.map f)
  | [], _ => ShwAll.nil.mono (by omega)
  | x :: xs, h => by
    have a := ShwAll.cons (h x List.mem_cons_self) (ShwAll.map xs fun y hy => h y (List.mem_cons_of_mem _ hy))
    refine a.mono ?_
    rw [List.length_cons, Nat.mul_add, Nat.mul_one]
    omega
theorem Shw.ok {w : Nat} {v : PV} (h : Shw depthLine w v) (k : w ≤ 1000000) : showOk v = true := by
  have f := PyData.shown_le 13 (by decide) _ h.sz
  have g := h.wt
  unfold showOk
  rw [h.pl, h.sh]
  exact Nat.ble_eq_true_of_le (by have : (13 + 2) * (toD v).weight ≤ 15 * 1000000 := Nat.mul_le_mul_left 15 (by omega); omega)
theorem repr_ok {w : Nat} {v : PV} {h : Hs} (s : Shw depthLine w v) (k : w ≤ 1000000) : biV h .repr [v] = some (.str (toD v).shown) := by
  show (if showOk v = true then _ else none) = _
  rw [if_pos (s.ok k)]
theorem repr_ne {w : Nat} {v : PV} (s : Shw depthLine w v) : cmpV .NotEq (.str (toD v).shown) (.str (toD v).shown) = some false := by
  have k := ok21_str s.tx
  show (if plain depthLine (.str (toD v).shown) && plain depthLine (.str (toD v).shown) then some (!eqv (.str (toD v).shown) (.str (toD v).shown)) else none) = _
  simp [plain, k, eqv]
theorem fr_shw {d : Nat} {t b : Int} (hb : 0 < b) (h1 : t.natAbs < 1000000000000) (h2 : b < 1000000000000) : Shw (d + 1) 82 (fr t b) := by
  obtain ⟨n, e, F⟩ := fr_of (t := t) hb
  have a := F.na
  have c := F.le
  have p := F.pos
  rw [F.e]
  exact (Shw.tup ((ShwAll.cons (Shw.int (by omega)) (ShwAll.cons (Shw.int (by omega)) ShwAll.nil)).mono (by omega))).mono (Nat.le_refl _)
theorem work_shw {d : Nat} {W : List Sta} (ok : WorkOk W) : Shw (d + 6) 900000 (workV W) := by
  have st : ∀ s ∈ W, Shw (d + 5) 130000 (stV s) := fun s hs => by
    have k := ok.s s hs
    have M := k.m
    obtain ⟨S0, wS⟩ := M.pos
    have S1 := M.s
    have ml := M.l
    have b0 := k.b0
    have b1 := k.b1
    have p := k.p
    have l1 := ok.l1
    have mv : ∀ m ∈ s.2.2, Shw (d + 3) 125 (mvV (wsum s.2.2) m) := fun m hm => by
      have w1 := M.w m hm
      have w2 := wS m hm
      have lo := M.lo m hm
      have hi := M.hi m hm
      exact Shw.tup ((ShwAll.cons (Shw.int (by omega)) (ShwAll.cons ((fr_shw S0 (by omega) (by omega)).mono (Nat.le_refl _)) ShwAll.nil)).mono (by omega))
    have all := (ShwAll.map s.2.2 mv).mono (b := 126000) (by have : (125 + 1) * s.2.2.length ≤ (125 + 1) * 1000 := Nat.mul_le_mul_left _ ml; omega)
    exact Shw.tup ((ShwAll.cons (fr_shw (d := d + 3) b0 (by omega) (by omega)) (ShwAll.cons (Shw.tup all) ShwAll.nil)).mono (by omega))
  exact Shw.tup ((ShwAll.map W st).mono (by have := ok.l1; have : (130000 + 1) * W.length ≤ (130000 + 1) * 6 := Nat.mul_le_mul_left _ this; omega))
theorem ints_shw {d : Nat} {l : List Int} (hl : l.length ≤ 1000) (h : ∀ x ∈ l, x.natAbs < 1000000000000) : Shw (d + 1) 50000 (.lst (l.map .int)) :=
  Shw.lst ((ShwAll.map l fun x hx => Shw.int (h x hx)).mono (by have : (40 + 1) * l.length ≤ (40 + 1) * 1000 := Nat.mul_le_mul_left _ hl; omega))
end MP

set_option Elab.async false
set_option linter.all false
set_option maxRecDepth 100000
set_option exponentiation.threshold 100
namespace MP
open PySem

/-! ### plain law: values of any kind -/
def M50 : Nat := 10000000000000000000000000000000000000000000000000000000000
mutual
/-- plain data: small ints, two texts, lists and tuples, so deep at most -/
def dat (M : Nat) : Nat → PV → Bool
  | _, .non => true
  | _, .bl _ => true
  | _, .int i => decide (i.natAbs < M)
  | _, .str x => decide (x = "") || decide (x = "1") || decide (x = "2")
  | 0, .lst _ => false
  | d + 1, .lst xs => dats M d xs
  | 0, .tup _ => false
  | d + 1, .tup xs => dats M d xs
  | _, .dct _ _ => false
  | _, .scr _ => false
  | _, .ref _ => false
  | _, .fn _ => false
  | _, .cls _ => false
def dats (M : Nat) : Nat → List PV → Bool
  | _, [] => true
  | d, x :: xs => dat M d x && dats M d xs
end
mutual
/-- how many values stand in it -/
def nod : PV → Nat
  | .lst xs => nods xs + 1
  | .tup xs => nods xs + 1
  | _ => 1
def nods : List PV → Nat
  | [] => 0
  | x :: xs => nod x + nods xs
end
theorem dats_mem {M d : Nat} : ∀ {xs : List PV}, dats M d xs = true ↔ ∀ x ∈ xs, dat M d x = true
  | [] => by simp [dats]
  | x :: xs => by simp [dats, dats_mem (xs := xs)]
theorem nods_mem : ∀ {xs : List PV} {x : PV}, x ∈ xs → nod x ≤ nods xs
  | y :: ys, x, h => by
    simp only [nods]
    rcases List.mem_cons.mp h with rfl | h
    · omega
    · have := nods_mem h; omega
theorem nods_app : ∀ (xs ys : List PV), nods (xs ++ ys) = nods xs + nods ys
  | [], ys => by simp [nods]
  | x :: xs, ys => by simp only [List.cons_append, nods, nods_app xs ys]; omega
theorem dats_app {M d : Nat} {xs ys : List PV} : dats M d (xs ++ ys) = true ↔ dats M d xs = true ∧ dats M d ys = true := by
  simp only [dats_mem, List.mem_append]
  exact ⟨fun h => ⟨fun x hx => h x (.inl hx), fun x hx => h x (.inr hx)⟩, fun h x hx => hx.elim (h.1 x) (h.2 x)⟩
theorem nod_pos : ∀ x : PV, 1 ≤ nod x := fun x => by cases x <;> simp [nod]
theorem nods_len : ∀ xs : List PV, xs.length ≤ nods xs
  | [] => by simp [nods]
  | x :: xs => by have := nods_len xs; have := nod_pos x; simp only [List.length_cons, nods]; omega
theorem nods_take (n : Nat) : ∀ xs : List PV, nods (xs.take n) ≤ nods xs := fun xs => by
  have h : nods (xs.take n ++ xs.drop n) = nods xs := by rw [List.take_append_drop]
  rw [nods_app] at h; omega
theorem nods_drop (n : Nat) : ∀ xs : List PV, nods (xs.drop n) ≤ nods xs := fun xs => by
  have h : nods (xs.take n ++ xs.drop n) = nods xs := by rw [List.take_append_drop]
  rw [nods_app] at h; omega
theorem nods_rev : ∀ xs : List PV, nods xs.reverse = nods xs
  | [] => rfl
  | x :: xs => by rw [List.reverse_cons, nods_app, nods_rev xs]; simp only [nods]; omega
structure Dt (v : PV) (d : Nat) : Prop where
  pl : plain d v = true
  sh : (toD v).showable = true
  sz : (toD v).leavesShort 60 = true
  wt : (toD v).weight + 1 ≤ 200 * nod v
  tx : Ok21 (toD v).shown
structure Dts (vs : List PV) (d : Nat) : Prop where
  pl : plains d vs = true
  sh : PyData.showableAll (toDs vs) = true
  sz : PyData.leavesShortAll 60 (toDs vs) = true
  wt : PyData.weightAll (toDs vs) ≤ 200 * nods vs
  tx : ∀ t ∈ PyData.shownAll (toDs vs), Ok21 t
theorem int_len {i : Int} (h : i.natAbs < 10 ^ 58) : (PyData.shown (.int i)).length ≤ 60 := by
  have e := PySem.int_text_length_le10 (k := 58) (by decide) h
  show (Str.ofString (toString i)).length ≤ 60
  rw [PySem.ofString_length]; omega
theorem m50 {n : Nat} (h : n < M50) : n < 10 ^ 58 := by
  have : M50 = 10 ^ 58 := by decide +kernel
  rw [← this]; exact h
theorem txt_dt {x : Str} (h : (x = "" ∨ x = "1") ∨ x = "2") : PyData.strOk x = true ∧ x.cps.size ≤ 1 ∧ (x.cps.toList.all fun c => decide (c < 16 ^ 8)) = true ∧ Ok21 (PyData.shown (.str x)) := by
  rcases h with (rfl | rfl) | rfl
  · exact ⟨by decide +kernel, by decide +kernel, by decide +kernel, ok21_lit (l := [39, 39]) (by decide +kernel) (by decide)⟩
  · exact ⟨by decide +kernel, by decide +kernel, by decide +kernel, ok21_lit (l := [39, 49, 39]) (by decide +kernel) (by decide)⟩
  · exact ⟨by decide +kernel, by decide +kernel, by decide +kernel, ok21_lit (l := [39, 50, 39]) (by decide +kernel) (by decide)⟩
mutual
theorem dt_of {M : Nat} (hM : M ≤ M50) : ∀ {d : Nat} {v : PV}, dat M d v = true → Dt v d
  | d, .non, _ => ⟨by simp [plain], by simp [toD, PyData.showable], by simp [toD, PyData.leavesShort], by simp [toD, PyData.weight, nod], by simp only [toD]; exact ok21_lit PyProof.Rows.signs_None (by decide)⟩
  | d, .bl b, _ => ⟨by simp [plain], by simp [toD, PyData.showable], by simp [toD, PyData.leavesShort], by simp [toD, PyData.weight, nod], by
      simp only [toD]
      cases b
      · exact ok21_lit PyProof.Rows.signs_False (by decide)
      · exact ok21_lit PyProof.Rows.signs_True (by decide)⟩
  | d, .int i, h => by
    have h1 : i.natAbs < M50 := by have : i.natAbs < M := by simpa [dat] using h
                                   omega
    have t : (toD (.int i)) = .int i := by simp [toD]
    have l : i.natAbs.log2 ≤ 195 := by
      by_cases z : i.natAbs = 0
      · rw [z]; simp
      · refine Nat.le_of_lt ((Nat.log2_lt z).mpr ?_)
        have : M50 < 2 ^ 195 := by decide +kernel
        omega
    refine ⟨by simp [plain], ?_, ?_, ?_, by rw [t]; exact ok21_int i⟩
    · rw [t]; unfold PyData.showable; exact decide_eq_true (by omega)
    · rw [t]; unfold PyData.leavesShort; exact decide_eq_true (int_len (m50 h1))
    · rw [t]; unfold PyData.weight; simp only [nod]; split <;> omega
  | d, .str x, h => by
    have h1 : (x = "" ∨ x = "1") ∨ x = "2" := by simpa [dat] using h
    obtain ⟨a, b, c, e⟩ := txt_dt h1
    refine ⟨by simp only [plain]; exact a, by simp [toD, PyData.showable], by simp only [toD, PyData.leavesShort]; exact c, by simp only [toD, PyData.weight, nod]; omega, by simp only [toD]; exact e⟩
  | 0, .lst xs, h => by simp [dat] at h
  | d + 1, .lst xs, h => by
    simp only [dat] at h
    obtain ⟨h1, h2, h3, h4, h5⟩ := dts_of hM h
    exact ⟨by simp only [plain]; exact h1, by simp only [toD, PyData.showable]; exact h2, by simp only [toD, PyData.leavesShort]; exact h3, by simp only [toD, PyData.weight, nod]; omega, by simp only [toD]; exact ok21_list h5⟩
  | 0, .tup xs, h => by simp [dat] at h
  | d + 1, .tup xs, h => by
    simp only [dat] at h
    obtain ⟨h1, h2, h3, h4, h5⟩ := dts_of hM h
    exact ⟨by simp only [plain]; exact h1, by simp only [toD, PyData.showable]; exact h2, by simp only [toD, PyData.leavesShort]; exact h3, by simp only [toD, PyData.weight, nod]; omega, by simp only [toD]; exact ok21_tuple h5⟩
  | _, .dct _ _, h => by simp [dat] at h
  | _, .scr _, h => by simp [dat] at h
  | _, .ref _, h => by simp [dat] at h
  | _, .fn _, h => by simp [dat] at h
  | _, .cls _, h => by simp [dat] at h
theorem dts_of {M : Nat} (hM : M ≤ M50) : ∀ {d : Nat} {vs : List PV}, dats M d vs = true → Dts vs d
  | d, [], _ => ⟨by simp [plains], by simp [toDs, PyData.showableAll], by simp [toDs, PyData.leavesShortAll], by simp [toDs, PyData.weightAll], by simp [toDs, PyData.shownAll]⟩
  | d, x :: xs, h => by
    simp only [dats, Bool.and_eq_true] at h
    obtain ⟨h1, h2, h3, h4, h5⟩ := dt_of hM h.1
    obtain ⟨k1, k2, k3, k4, k5⟩ := dts_of hM h.2
    refine ⟨by simp [plains, h1, k1], by simp [toDs, PyData.showableAll, h2, k2], by simp [toDs, PyData.leavesShortAll, h3, k3], ?_, fun t ht => ?_⟩
    · have := nod_pos x
      simp only [toDs, PyData.weightAll, nods]; omega
    · simp only [toDs, PyData.shownAll, List.mem_cons] at ht
      rcases ht with rfl | ht
      · exact h5
      · exact k5 t ht
end
theorem repr_dat {M : Nat} {v : PV} {h : Hs} (hM : M ≤ M50) (hv : dat M depthLine v = true) (hn : nod v ≤ 1000) : biV h .repr [v] = some (.str (toD v).shown) ∧ cmpV .NotEq (.str (toD v).shown) (.str (toD v).shown) = some false := by
  have D := dt_of hM hv
  have f := PyData.shown_le 60 (by decide) _ D.sz
  have w := D.wt
  have ok : showOk v = true := by
    unfold showOk
    rw [D.pl, D.sh]
    exact Nat.ble_eq_true_of_le (by have : (60 + 2) * (toD v).weight ≤ 62 * 200000 := Nat.mul_le_mul_left 62 (by omega); omega)
  constructor
  · show (if showOk v = true then _ else none) = _
    rw [if_pos ok]
  · have k := ok21_str D.tx
    show (if plain depthLine (.str (toD v).shown) && plain depthLine (.str (toD v).shown) then some (!eqv (.str (toD v).shown) (.str (toD v).shown)) else none) = _
    simp [plain, k, eqv]
mutual
theorem dat_mono {M N : Nat} (hM : M ≤ N) : ∀ {d e : Nat} {v : PV}, d ≤ e → dat M d v = true → dat N e v = true
  | d, e, .non, _, _ => by cases e <;> simp [dat]
  | d, e, .bl b, _, _ => by cases e <;> simp [dat]
  | d, e, .int i, _, h => by
    have : i.natAbs < M := by cases d <;> simpa [dat] using h
    cases e <;> (simp only [dat, decide_eq_true_eq]; omega)
  | d, e, .str x, _, h => by
    have h1 : (x = "" ∨ x = "1") ∨ x = "2" := by cases d <;> simpa [dat] using h
    cases e <;> simpa [dat] using h1
  | 0, _, .lst xs, _, h => by simp [dat] at h
  | d + 1, 0, .lst xs, k, _ => by omega
  | d + 1, e + 1, .lst xs, k, h => by simp only [dat] at h ⊢; exact dats_mono hM (by omega) h
  | 0, _, .tup xs, _, h => by simp [dat] at h
  | d + 1, 0, .tup xs, k, _ => by omega
  | d + 1, e + 1, .tup xs, k, h => by simp only [dat] at h ⊢; exact dats_mono hM (by omega) h
  | d, _, .dct _ _, _, h => by cases d <;> simp [dat] at h
  | d, _, .scr _, _, h => by cases d <;> simp [dat] at h
  | d, _, .ref _, _, h => by cases d <;> simp [dat] at h
  | d, _, .fn _, _, h => by cases d <;> simp [dat] at h
  | d, _, .cls _, _, h => by cases d <;> simp [dat] at h
theorem dats_mono {M N : Nat} (hM : M ≤ N) : ∀ {d e : Nat} {vs : List PV}, d ≤ e → dats M d vs = true → dats N e vs = true
  | _, _, [], _, _ => by simp [dats]
  | d, e, x :: xs, k, h => by
    simp only [dats, Bool.and_eq_true] at h ⊢
    exact ⟨dat_mono hM k h.1, dats_mono hM k h.2⟩
end
/-- a list, a tuple -/
def sq (b : Bool) (xs : List PV) : PV := if b then .lst xs else .tup xs
theorem nod_sq (b : Bool) (xs : List PV) : nod (sq b xs) = nods xs + 1 := by cases b <;> rfl
theorem dat_sq {M d : Nat} {b : Bool} {xs : List PV} : dat M (d + 1) (sq b xs) = dats M d xs := by cases b <;> rfl
theorem sq_len (b : Bool) (xs : List PV) (h : Hs) : biV h .len [sq b xs] = some (.int (xs.length : Int)) := by cases b <;> rfl
theorem sq_idx (b : Bool) (xs : List PV) (h : Hs) (i : Int) : idxV h (sq b xs) (.int i) = atL xs i := by cases b <;> rfl
theorem sq_slc (b : Bool) (xs : List PV) (lo hi : Option Int) : slcV (sq b xs) lo hi = some (sq b (cut xs lo hi)) := by cases b <;> rfl
theorem sq_rev (b : Bool) (xs : List PV) : revV (sq b xs) = some (sq b xs.reverse) := by cases b <;> rfl
theorem sq_add (b : Bool) (xs ys : List PV) (h : xs.length + ys.length ≤ 16000000) : binV .Add (sq b xs) (sq b ys) = some (sq b (xs ++ ys)) := by
  have z := szLe h
  cases b
  · show (if szOk (xs.length + ys.length) = true then some (PV.tup (xs ++ ys)) else none) = _
    rw [if_pos z]; rfl
  · show (if szOk (xs.length + ys.length) = true then some (PV.lst (xs ++ ys)) else none) = _
    rw [if_pos z]; rfl
theorem cut_to (xs : List PV) {i : Int} (h0 : 0 ≤ i) : cut xs none (some i) = xs.take i.toNat := by
  unfold cut clip
  simp only [if_neg (show ¬ i < 0 by omega), Nat.sub_zero, List.drop_zero]
  by_cases q : i.toNat ≤ xs.length
  · rw [Nat.min_eq_left q]
  · rw [Nat.min_eq_right (by omega), List.take_of_length_le (Nat.le_refl _), List.take_of_length_le (by omega)]
theorem cut_from (xs : List PV) {i : Int} (h0 : 0 ≤ i) : cut xs (some i) none = xs.drop i.toNat := by
  unfold cut clip
  simp only [if_neg (show ¬ i < 0 by omega)]
  by_cases q : i.toNat ≤ xs.length
  · rw [Nat.min_eq_left q, List.take_of_length_le (by rw [List.length_drop]; omega)]
  · rw [Nat.min_eq_right (by omega), Nat.sub_self, List.take_zero, List.drop_eq_nil_of_le (by omega)]
theorem cut_mid (xs : List PV) {i j : Int} (h0 : 0 ≤ i) (h1 : i ≤ j) : ∃ n, cut xs (some i) (some j) = (xs.drop i.toNat).take n := by
  unfold cut clip
  simp only [if_neg (show ¬ i < 0 by omega), if_neg (show ¬ j < 0 by omega)]
  by_cases q : i.toNat ≤ xs.length
  · exact ⟨_, by rw [Nat.min_eq_left q]⟩
  · exact ⟨0, by rw [Nat.min_eq_right (by omega : xs.length ≤ i.toNat), Nat.min_eq_right (by omega : xs.length ≤ j.toNat), Nat.sub_self]; simp⟩
end MP

set_option Elab.async false
set_option linter.all false
set_option maxRecDepth 100000
set_option exponentiation.threshold 100
namespace MP
open PySem

/-! ### plain law: bent values -/
def isI : PV → Bool
  | .int _ => true
  | _ => false
def WholeC (cl : Nat → List PV → Hs → Out PV) (f : Nat) : Prop := ∀ (M d : Nat) (v : PV) (h : Hs), dat M d v = true → cl f [v] h = .ok (.bl (isI v)) h
def oddB : List PV := [.non, .int 0, .int 1, .int 2, .int (-1), .int 5, .int 6, .bl true, .bl false, .str "", .str "1", .tup [], .lst [], .tup [.int 0], .tup [.int 0, .int 1], .tup [.int 1, .int 1], .tup [.int 1, .int 2], .tup [.int 2, .int 4], .int (10 ^ 20)]
def oddC : List PV := [.tup [.tup [.int 0, .tup [.int 1, .int 1]]], .tup [.tup [.int 0, .int 1], .tup [.tup [.int 0, .tup [.int 1, .int 1]]]]]
def pOddE : E := (.lst (.cons (.con .non) (.cons (.con (.int (0))) (.cons (.con (.int (1))) (.cons (.con (.int (2))) (.cons (.neg (.con (.int (1)))) (.cons (.con (.int (5))) (.cons (.con (.int (6))) (.cons (.con (.bl true)) (.cons (.con (.bl false)) (.cons (.con (.str "")) (.cons (.con (.str "1")) (.cons (.tup .nil) (.cons (.lst .nil) (.cons (.tup (.cons (.con (.int (0))) .nil)) (.cons (.tup (.cons (.con (.int (0))) (.cons (.con (.int (1))) .nil))) (.cons (.tup (.cons (.con (.int (1))) (.cons (.con (.int (1))) .nil))) (.cons (.tup (.cons (.con (.int (1))) (.cons (.con (.int (2))) .nil))) (.cons (.tup (.cons (.con (.int (2))) (.cons (.con (.int (4))) .nil))) (.cons (.bin .Pow (.con (.int (10))) (.con (.int (20)))) .nil))))))))))))))))))))
def pOddE2 : E := (.lst (.cons (.tup (.cons (.tup (.cons (.con (.int (0))) (.cons (.tup (.cons (.con (.int (1))) (.cons (.con (.int (1))) .nil))) .nil))) .nil)) (.cons (.tup (.cons (.tup (.cons (.con (.int (0))) (.cons (.con (.int (1))) .nil))) (.cons (.tup (.cons (.tup (.cons (.con (.int (0))) (.cons (.tup (.cons (.con (.int (1))) (.cons (.con (.int (1))) .nil))) .nil))) .nil)) .nil))) .nil)))
def pOdd (on : Nat) : Ss := (.cons (.asg (.v 3) pOddE) (.cons (.ret (.call on (.cons (.var 0) (.cons (.bin .Add (.var 3) pOddE2) .nil)))) .nil))
def pBent (bt tk on wh : Nat) : Ss := (.cons (.iff (.or (.and (.not (.isin (.var 1) .list)) (.not (.isin (.var 1) .tuple))) (.or (.cmp .Eq (.bi .len (.cons (.var 1) .nil)) (.con (.int (0)))) (.cmp .Eq (.call tk (.cons (.var 0) (.cons (.con (.int (9))) .nil))) (.con (.int (0)))))) (pOdd on) .nil) (.cons (.par [4, 5] (.cons (.call tk (.cons (.var 0) (.cons (.bi .len (.cons (.var 1) .nil)) .nil))) (.cons (.call tk (.cons (.var 0) (.cons (.con (.int (9))) .nil))) .nil))) (.cons (.iff (.cmp .Eq (.var 5) (.con (.int (0)))) (.cons (.ret (.bin .Add (.slc (.var 1) (.con .non) (.var 4)) (.slc (.var 1) (.bin .Add (.var 4) (.con (.int (1)))) (.con .non)))) .nil) .nil) (.cons (.iff (.cmp .Eq (.var 5) (.con (.int (1)))) (.cons (.ret (.bin .Add (.var 1) (.slc (.var 1) (.var 4) (.bin .Add (.var 4) (.con (.int (1))))))) .nil) .nil) (.cons (.iff (.cmp .Eq (.var 5) (.con (.int (2)))) (.cons (.ret (.call on (.cons (.var 0) (.cons (.lst (.cons (.bi .list (.cons (.var 1) .nil)) (.cons (.bi .tuple (.cons (.var 1) .nil)) (.cons (.rev (.var 1)) (.cons (.bin .Add (.slc (.var 1) (.con (.int (1))) (.con .non)) (.slc (.var 1) (.con .non) (.con (.int (1))))) .nil))))) .nil)))) .nil) .nil) (.cons (.asg (.v 2) (.call bt (.cons (.var 0) (.cons (.idx (.var 1) (.var 4)) .nil)))) (.cons (.iff (.and (.call wh (.cons (.idx (.var 1) (.var 4)) .nil)) (.cmp .Lt (.var 5) (.con (.int (8))))) (.cons (.asg (.v 2) (.bin .Add (.idx (.var 1) (.var 4)) (.call on (.cons (.var 0) (.cons (.lst (.cons (.con (.int (1))) (.cons (.neg (.con (.int (1)))) (.cons (.con (.int (2))) (.cons (.neg (.idx (.var 1) (.var 4))) .nil))))) .nil))))) .nil) .nil) (.cons (.ret (.bin .Add (.bin .Add (.slc (.var 1) (.con .non) (.var 4)) (.ite (.isin (.var 1) .list) (.lst (.cons (.var 2) .nil)) (.tup (.cons (.var 2) .nil)))) (.slc (.var 1) (.bin .Add (.var 4) (.con (.int (1)))) (.con .non)))) .nil))))))))
/-- what bent keeps -/
structure Bn (M d : Nat) (v v' : PV) : Prop where
  dt : dat (M + 3) (d + 6) v' = true
  nd : nod v' ≤ 2 * nod v + 20
section
variable {cl : Nat → List PV → Hs → Out PV} {bt tk on wh : Nat}
theorem odd_ok (O : OneC cl on) {n M : Nat} {B : Int} {h : Hs} {v : PV} {a b c d : Option PV} (p : PenOk n B h) (hB : B ≤ 1000000) (hM : 10 ^ 21 ≤ M) :
    ∃ v' h', evSs cl (pOdd on) [some (.ref n), some v, a, b, c, d] h = .ok (.rt v') h' ∧ (∀ d, dat (M + 3) (d + 6) v' = true) ∧ nod v' ≤ 20 ∧ PenOk n (B + 1) h' ∧ h'.length = h.length := by
  have e1 : evE cl pOddE [some (.ref n), some v, a, b, c, d] h = .ok (.lst oddB) h := by
    have pw : binV .Pow (.int 10) (.int 20) = some (.int (10 ^ 20)) := pow_ok (n := 20) (by omega) (by omega) (by omega)
    have z0 : szOk 0 = true := rfl
    have z1 : szOk 1 = true := rfl
    have z2 : szOk 2 = true := rfl
    have z19 : szOk 19 = true := rfl
    unfold pOddE
    simp only [evS, evE, evSs, evEs, evI, List.map_cons, List.map_nil, List.cons_append, List.nil_append, List.replicate_succ, List.replicate_zero, getS_0, getS_s, List.set_cons_zero, List.set_cons_succ, wipe_nil, wipe_cons, setT_v, setT_t, setTs_nil, setTs_cons, setAll, Option.bind_some, Out.of_some, Out.bind_ok, Nat.reduceSub, List.length_cons, List.length_nil, Nat.reduceAdd, z0, z1, z2, z19, if_true, pw]
    rfl
  have e2 : evE cl pOddE2 [some (.ref n), some v, a, some (.lst oddB), c, d] h = .ok (.lst oddC) h := by
    have z1 : szOk 1 = true := rfl
    have z2 : szOk 2 = true := rfl
    unfold pOddE2
    simp only [evS, evE, evSs, evEs, evI, List.map_cons, List.map_nil, List.cons_append, List.nil_append, List.replicate_succ, List.replicate_zero, getS_0, getS_s, List.set_cons_zero, List.set_cons_succ, wipe_nil, wipe_cons, setT_v, setT_t, setTs_nil, setTs_cons, setAll, Option.bind_some, Out.of_some, Out.bind_ok, Nat.reduceSub, List.length_cons, List.length_nil, Nat.reduceAdd, z1, z2, if_true]
    rfl
  obtain ⟨w, h', hw, e3, p', l'⟩ := O n B (oddB ++ oddC) h p hB (by simp [oddB]) (by decide)
  refine ⟨w, h', (ss_nx (s_asg e1)).trans (ss_rt (s_ret (e_call2 rfl (e_bin rfl e2 rfl) e3))), fun d => ?_, ?_, p', l'⟩
  · have all : dats (10 ^ 21) 6 (oddB ++ oddC) = true := by decide +kernel
    exact dat_mono (by omega) (by omega) (dats_mem.mp all w hw)
  · have all : ((oddB ++ oddC).all fun x => decide (nod x ≤ 20)) = true := by decide +kernel
    exact of_decide_eq_true (List.all_eq_true.mp all w hw)
theorem nods_split {xs : List PV} {i : Nat} {x : PV} (h : xs[i]? = some x) : nods xs = nods (xs.take i) + nod x + nods (xs.drop (i + 1)) := by
  obtain ⟨hl, e⟩ := List.getElem?_eq_some_iff.mp h
  have : xs = xs.take i ++ x :: xs.drop (i + 1) := by
    rw [← e, ← List.drop_eq_getElem_cons hl, List.take_append_drop]
  conv => lhs; rw [this]
  rw [nods_app]; simp only [nods]; omega
theorem bent_ok (T : TakeC cl tk) (O : OneC cl on) (Wh : WholeC cl wh) {n M d : Nat} {B : Int} {v : PV} {h : Hs}
    (Bt : ∀ (B : Int) (x : PV) (h : Hs) (e : Nat), d = e + 1 → PenOk n B h → B + 10 * (e + 1) ≤ 1000000 → dat M e x = true → nod x ≤ 100000 → ∃ x' h', cl bt [.ref n, x] h = .ok x' h' ∧ Bn M e x x' ∧ PenOk n (B + 10 * (e + 1)) h' ∧ h'.length = h.length)
    (p : PenOk n B h) (hB : B + 10 * (d + 1) ≤ 1000000) (hM : 10 ^ 21 ≤ M) (dv : dat M d v = true) (nv : nod v ≤ 100000) :
    ∃ v' h', evD cl ⟨2, 6, pBent bt tk on wh⟩ [.ref n, v] h = .ok v' h' ∧ Bn M d v v' ∧ PenOk n (B + 10 * (d + 1)) h' ∧ h'.length = h.length := by
  -- the odd ones
  have odd : ∀ {B' : Int} {h1 : Hs}, PenOk n B' h1 → B' ≤ B + 5 → h1.length = h.length → evE cl (.or (.and (.not (.isin (.var 1) .list)) (.not (.isin (.var 1) .tuple))) (.or (.cmp .Eq (.bi .len (.cons (.var 1) .nil)) (.con (.int (0)))) (.cmp .Eq (.call tk (.cons (.var 0) (.cons (.con (.int (9))) .nil))) (.con (.int (0)))))) [some (.ref n), some v, none, none, none, none] h = .ok (.bl true) h1 →
      ∃ v' h', evD cl ⟨2, 6, pBent bt tk on wh⟩ [.ref n, v] h = .ok v' h' ∧ Bn M d v v' ∧ PenOk n (B + 10 * (d + 1)) h' ∧ h'.length = h.length := by
    intro B' h1 p1 hB1 l1 e1
    obtain ⟨w, h2, e2, d2, n2, p2, l2⟩ := odd_ok O (v := v) (a := none) (b := none) (c := none) (d := none) p1 (by omega) hM
    exact ⟨w, h2, d_rt rfl (ss_rt ((s_iff e1).trans e2)), ⟨d2 d, by omega⟩, p2.mono (by omega), by omega⟩
  have main : ∀ (b : Bool) (xs : List PV) (e : Nat), d = e + 1 → v = sq b xs → dats M e xs = true → xs ≠ [] →
      ∃ v' h', evD cl ⟨2, 6, pBent bt tk on wh⟩ [.ref n, v] h = .ok v' h' ∧ Bn M d v v' ∧ PenOk n (B + 10 * (d + 1)) h' ∧ h'.length = h.length := by
    rintro b xs e rfl rfl dx ne
    have nn : nods xs + 1 ≤ 100000 := by rw [nod_sq] at nv; exact nv
    have lx := nods_len xs
    have l0 : 0 < (xs.length : Int) := by
      cases xs with
      | nil => exact absurd rfl ne
      | cons _ _ => simp only [List.length_cons]; omega
    have q0 : ((xs.length : Int) == 0) = false := by simp; omega
    have sqi : ∀ h, idxV h (sq b xs) = idxV h (sq b xs) := fun _ => rfl
    obtain ⟨r, h1, e1, r0, r1, p1, k1⟩ := T n B 9 h p (by omega) (by omega) (by omega)
    have cnd : evE cl (.or (.and (.not (.isin (.var 1) .list)) (.not (.isin (.var 1) .tuple))) (.or (.cmp .Eq (.bi .len (.cons (.var 1) .nil)) (.con (.int (0)))) (.cmp .Eq (.call tk (.cons (.var 0) (.cons (.con (.int (9))) .nil))) (.con (.int (0)))))) [some (.ref n), some (sq b xs), none, none, none, none] h = .ok (.bl (r == 0)) h1 := by
      cases b
      · have ty1 : isTy (sq false xs) .list = some false := rfl
        have ty2 : isTy (sq false xs) .tuple = some true := rfl
        simp only [evS, evE, evSs, evEs, evI, List.map_cons, List.map_nil, List.cons_append, List.nil_append, List.replicate_succ, List.replicate_zero, getS_0, getS_s, List.set_cons_zero, List.set_cons_succ, wipe_nil, wipe_cons, setT_v, setT_t, setTs_nil, setTs_cons, setAll, Option.bind_some, Out.of_some, Out.bind_ok, Nat.reduceSub, ty1, ty2, Bool.not_true, Bool.not_false, sq_len, eq_int, q0, e1]
      · have ty1 : isTy (sq true xs) .list = some true := rfl
        simp only [evS, evE, evSs, evEs, evI, List.map_cons, List.map_nil, List.cons_append, List.nil_append, List.replicate_succ, List.replicate_zero, getS_0, getS_s, List.set_cons_zero, List.set_cons_succ, wipe_nil, wipe_cons, setT_v, setT_t, setTs_nil, setTs_cons, setAll, Option.bind_some, Out.of_some, Out.bind_ok, Nat.reduceSub, ty1, Bool.not_true, sq_len, eq_int, q0, e1]
    cases z : (r == 0) with
    | true => rw [z] at cnd; exact odd p1 (by omega) k1 cnd
    | false =>
      rw [z] at cnd
      obtain ⟨at_, h2, e2, a0, a1, p2, k2⟩ := T n (B + 1) xs.length h1 p1 (by omega) l0 (by omega)
      obtain ⟨so, h3, e3, s0, s1, p3, k3⟩ := T n (B + 1 + 1) 9 h2 p2 (by omega) (by omega) (by omega)
      let σ : Sl := [some (.ref n), some (sq b xs), none, none, some (.int at_), some (.int so)]
      have par : evS cl (.par [4, 5] (.cons (.call tk (.cons (.var 0) (.cons (.bi .len (.cons (.var 1) .nil)) .nil))) (.cons (.call tk (.cons (.var 0) (.cons (.con (.int (9))) .nil))) .nil))) [some (.ref n), some (sq b xs), none, none, none, none] h1 = .ok (.nx σ) h3 := by
        simp only [evS, evE, evSs, evEs, evI, List.map_cons, List.map_nil, List.cons_append, List.nil_append, List.replicate_succ, List.replicate_zero, getS_0, getS_s, List.set_cons_zero, List.set_cons_succ, wipe_nil, wipe_cons, setT_v, setT_t, setTs_nil, setTs_cons, setAll, Option.bind_some, Out.of_some, Out.bind_ok, Nat.reduceSub, sq_len, e2, e3]
        rfl
      have c1 : evS cl (.iff (.or (.and (.not (.isin (.var 1) .list)) (.not (.isin (.var 1) .tuple))) (.or (.cmp .Eq (.bi .len (.cons (.var 1) .nil)) (.con (.int (0)))) (.cmp .Eq (.call tk (.cons (.var 0) (.cons (.con (.int (9))) .nil))) (.con (.int (0)))))) (pOdd on) .nil) [some (.ref n), some (sq b xs), none, none, none, none] h = .ok (.nx [some (.ref n), some (sq b xs), none, none, none, none]) h1 := (s_iff cnd).trans rfl
      have ad : ∀ i j : Int, binV .Add (.int i) (.int j) = some (.int (i + j)) := fun _ _ => rfl
      have head : ∀ {R : Out Fl}, evSs cl (match pBent bt tk on wh with | .cons _ (.cons _ r) => r | _ => .nil) σ h3 = R → evSs cl (pBent bt tk on wh) [some (.ref n), some (sq b xs), none, none, none, none] h = R := fun e => (ss_nx c1).trans ((ss_nx par).trans e)
      have cut1 : evE cl (.slc (.var 1) (.con .non) (.var 4)) σ h3 = .ok (sq b (xs.take at_.toNat)) h3 := by
        show (evE cl (.slc (.var 1) (.con .non) (.var 4)) [some (.ref n), some (sq b xs), none, none, some (.int at_), some (.int so)] h3) = _
        simp only [evS, evE, evSs, evEs, evI, List.map_cons, List.map_nil, List.cons_append, List.nil_append, List.replicate_succ, List.replicate_zero, getS_0, getS_s, List.set_cons_zero, List.set_cons_succ, wipe_nil, wipe_cons, setT_v, setT_t, setTs_nil, setTs_cons, setAll, Option.bind_some, Out.of_some, Out.bind_ok, Nat.reduceSub, partV, sq_slc, cut_to _ a0]
      have cut2 : evE cl (.slc (.var 1) (.bin .Add (.var 4) (.con (.int (1)))) (.con .non)) σ h3 = .ok (sq b (xs.drop (at_ + 1).toNat)) h3 := by
        show (evE cl (.slc (.var 1) (.bin .Add (.var 4) (.con (.int (1)))) (.con .non)) [some (.ref n), some (sq b xs), none, none, some (.int at_), some (.int so)] h3) = _
        simp only [evS, evE, evSs, evEs, evI, List.map_cons, List.map_nil, List.cons_append, List.nil_append, List.replicate_succ, List.replicate_zero, getS_0, getS_s, List.set_cons_zero, List.set_cons_succ, wipe_nil, wipe_cons, setT_v, setT_t, setTs_nil, setTs_cons, setAll, Option.bind_some, Out.of_some, Out.bind_ok, Nat.reduceSub, partV, ad, sq_slc, cut_from _ (show 0 ≤ at_ + 1 by omega)]
      obtain ⟨x, hx1, hx2⟩ := at_len (xs := xs) a0 a1
      have xm : x ∈ xs := List.mem_of_getElem? hx1
      have dxm := dats_mem.mp dx
      have toN : (at_ + 1).toNat = at_.toNat + 1 := by omega
      have spl := nods_split hx1
      have tk1 : ∀ k, dats (M + 3) (e + 6) (xs.take k) = true := fun k => dats_mem.mpr fun y hy => dat_mono (by omega) (by omega) (dxm y (List.mem_of_mem_take hy))
      have dr1 : ∀ k, dats (M + 3) (e + 6) (xs.drop k) = true := fun k => dats_mem.mpr fun y hy => dat_mono (by omega) (by omega) (dxm y (List.mem_of_mem_drop hy))
      have all1 : dats (M + 3) (e + 6) xs = true := dats_mem.mpr fun y hy => dat_mono (by omega) (by omega) (dxm y hy)
      have fin : ∀ (ys : List PV) (bb : Bool), dats (M + 3) (e + 6) ys = true → nods ys ≤ 2 * nods xs + 20 → Bn M (e + 1) (sq b xs) (sq bb ys) := fun ys bb d1 n1 =>
        ⟨by rw [show e + 1 + 6 = (e + 6) + 1 by omega, dat_sq]; exact d1, by rw [nod_sq, nod_sq]; omega⟩
      have eqs : ∀ k : Int, evE cl (.cmp .Eq (.var 5) (.con (.int k))) σ h3 = .ok (.bl (so == k)) h3 := fun k => e_cmp rfl rfl eq_int
      by_cases w0 : so = 0
      · refine ⟨sq b (xs.take at_.toNat ++ xs.drop (at_ + 1).toNat), h3, d_rt rfl (head (ss_rt ((s_iff (eqs 0)).trans ?_))), fin _ b (dats_app.mpr ⟨tk1 _, dr1 _⟩) (by rw [nods_app]; have := nods_take at_.toNat xs; have := nods_drop (at_ + 1).toNat xs; omega), p3.mono (by omega), by omega⟩
        rw [w0]
        exact ss_rt (s_ret (e_bin cut1 cut2 (sq_add b _ _ (by rw [List.length_take, List.length_drop]; omega))))
      have f0 : (so == 0) = false := by simp; exact w0
      have n0 := s_iff (a := (.cons (.ret (.bin .Add (.slc (.var 1) (.con .non) (.var 4)) (.slc (.var 1) (.bin .Add (.var 4) (.con (.int (1)))) (.con .non)))) .nil)) (b := .nil) (eqs 0)
      rw [f0] at n0
      by_cases w1 : so = 1
      · obtain ⟨k, hk⟩ := cut_mid xs a0 (show at_ ≤ at_ + 1 by omega)
        have cut3 : evE cl (.slc (.var 1) (.var 4) (.bin .Add (.var 4) (.con (.int (1))))) σ h3 = .ok (sq b ((xs.drop at_.toNat).take k)) h3 := by
          show (evE cl (.slc (.var 1) (.var 4) (.bin .Add (.var 4) (.con (.int (1))))) [some (.ref n), some (sq b xs), none, none, some (.int at_), some (.int so)] h3) = _
          simp only [evS, evE, evSs, evEs, evI, List.map_cons, List.map_nil, List.cons_append, List.nil_append, List.replicate_succ, List.replicate_zero, getS_0, getS_s, List.set_cons_zero, List.set_cons_succ, wipe_nil, wipe_cons, setT_v, setT_t, setTs_nil, setTs_cons, setAll, Option.bind_some, Out.of_some, Out.bind_ok, Nat.reduceSub, partV, ad, sq_slc, hk]
        have t1 : nods ((xs.drop at_.toNat).take k) ≤ nods xs := Nat.le_trans (nods_take _ _) (nods_drop _ _)
        refine ⟨sq b (xs ++ (xs.drop at_.toNat).take k), h3, d_rt rfl (head ((ss_nx n0).trans (ss_rt ((s_iff (eqs 1)).trans ?_)))), fin _ b (dats_app.mpr ⟨all1, dats_mem.mpr fun y hy => dat_mono (by omega) (by omega) (dxm y (List.mem_of_mem_drop (List.mem_of_mem_take hy)))⟩) (by rw [nods_app]; omega), p3.mono (by omega), by omega⟩
        rw [w1]
        exact ss_rt (s_ret (e_bin rfl cut3 (sq_add b _ _ (by rw [List.length_take, List.length_drop]; omega))))
      have f1 : (so == 1) = false := by simp; exact w1
      have n1 := s_iff (a := (.cons (.ret (.bin .Add (.var 1) (.slc (.var 1) (.var 4) (.bin .Add (.var 4) (.con (.int (1))))))) .nil)) (b := .nil) (eqs 1)
      rw [f1] at n1
      by_cases w2 : so = 2
      · have li : ∀ h, biV h .list [sq b xs] = some (.lst xs) := fun h => by cases b <;> rfl
        have tu : ∀ h, biV h .tuple [sq b xs] = some (.tup xs) := fun h => by cases b <;> rfl
        have rt : binV .Add (sq b (xs.drop 1)) (sq b (xs.take 1)) = some (sq b (xs.drop 1 ++ xs.take 1)) := sq_add b _ _ (by rw [List.length_take, List.length_drop]; omega)
        have z4 : szOk 4 = true := rfl
        have l4 : evE cl (.lst (.cons (.bi .list (.cons (.var 1) .nil)) (.cons (.bi .tuple (.cons (.var 1) .nil)) (.cons (.rev (.var 1)) (.cons (.bin .Add (.slc (.var 1) (.con (.int (1))) (.con .non)) (.slc (.var 1) (.con .non) (.con (.int (1))))) .nil))))) σ h3 = .ok (.lst [sq true xs, sq false xs, sq b xs.reverse, sq b (xs.drop 1 ++ xs.take 1)]) h3 := by
          show (evE cl _ [some (.ref n), some (sq b xs), none, none, some (.int at_), some (.int so)] h3) = _
          simp only [evS, evE, evSs, evEs, evI, List.map_cons, List.map_nil, List.cons_append, List.nil_append, List.replicate_succ, List.replicate_zero, getS_0, getS_s, List.set_cons_zero, List.set_cons_succ, wipe_nil, wipe_cons, setT_v, setT_t, setTs_nil, setTs_cons, setAll, Option.bind_some, Out.of_some, Out.bind_ok, Nat.reduceSub, li, tu, sq_rev, partV, sq_slc, cut_from _ (show (0 : Int) ≤ 1 by omega), cut_to _ (show (0 : Int) ≤ 1 by omega), Int.toNat_one, rt, List.length_cons, List.length_nil, Nat.reduceAdd, z4, if_true]
          rfl
        obtain ⟨w, h4, hw, e4, p4, k4⟩ := O n (B + 1 + 1 + 1) [sq true xs, sq false xs, sq b xs.reverse, sq b (xs.drop 1 ++ xs.take 1)] h3 p3 (by omega) (by simp) (by simp)
        refine ⟨w, h4, d_rt rfl (head ((ss_nx n0).trans ((ss_nx n1).trans (ss_rt ((s_iff (eqs 2)).trans ?_))))), ?_, p4.mono (by omega), by omega⟩
        · rw [w2]
          exact ss_rt (s_ret (e_call2 rfl l4 e4))
        · simp only [List.mem_cons, List.not_mem_nil, or_false] at hw
          rcases hw with rfl | rfl | rfl | rfl
          · exact fin xs true all1 (by omega)
          · exact fin xs false all1 (by omega)
          · exact fin _ b (dats_mem.mpr fun y hy => dat_mono (by omega) (by omega) (dxm y (List.mem_reverse.mp hy))) (by rw [nods_rev]; omega)
          · exact fin _ b (dats_app.mpr ⟨dr1 _, tk1 _⟩) (by rw [nods_app]; have := nods_take 1 xs; have := nods_drop 1 xs; omega)
      have f2 : (so == 2) = false := by simp; exact w2
      have n2 := s_iff (a := (.cons (.ret (.call on (.cons (.var 0) (.cons (.lst (.cons (.bi .list (.cons (.var 1) .nil)) (.cons (.bi .tuple (.cons (.var 1) .nil)) (.cons (.rev (.var 1)) (.cons (.bin .Add (.slc (.var 1) (.con (.int (1))) (.con .non)) (.slc (.var 1) (.con .non) (.con (.int (1))))) .nil))))) .nil)))) .nil)) (b := .nil) (eqs 2)
      rw [f2] at n2
      obtain ⟨x', h4, e4, bx, p4, k4⟩ := Bt (B + 1 + 1 + 1) x h3 e rfl p3 (by omega) (dxm x xm) (by have := nods_mem xm; omega)
      have ix : ∀ h, idxV h (sq b xs) (.int at_) = some x := fun h => by rw [sq_idx]; exact hx2
      have s6 : evS cl (.asg (.v 2) (.call bt (.cons (.var 0) (.cons (.idx (.var 1) (.var 4)) .nil)))) σ h3 = .ok (.nx [some (.ref n), some (sq b xs), some x', none, some (.int at_), some (.int so)]) h4 := by
        show (evS cl _ [some (.ref n), some (sq b xs), none, none, some (.int at_), some (.int so)] h3) = _
        simp only [evS, evE, evSs, evEs, evI, List.map_cons, List.map_nil, List.cons_append, List.nil_append, List.replicate_succ, List.replicate_zero, getS_0, getS_s, List.set_cons_zero, List.set_cons_succ, wipe_nil, wipe_cons, setT_v, setT_t, setTs_nil, setTs_cons, setAll, Option.bind_some, Out.of_some, Out.bind_ok, Nat.reduceSub, ix, e4]
      -- what stands in the middle
      have mid : ∃ y h5, evS cl (.iff (.and (.call wh (.cons (.idx (.var 1) (.var 4)) .nil)) (.cmp .Lt (.var 5) (.con (.int (8))))) (.cons (.asg (.v 2) (.bin .Add (.idx (.var 1) (.var 4)) (.call on (.cons (.var 0) (.cons (.lst (.cons (.con (.int (1))) (.cons (.neg (.con (.int (1)))) (.cons (.con (.int (2))) (.cons (.neg (.idx (.var 1) (.var 4))) .nil))))) .nil))))) .nil) .nil) [some (.ref n), some (sq b xs), some x', none, some (.int at_), some (.int so)] h4 = .ok (.nx [some (.ref n), some (sq b xs), some y, none, some (.int at_), some (.int so)]) h5 ∧
          dat (M + 3) (e + 6) y = true ∧ nod y ≤ 2 * nod x + 20 ∧ PenOk n (B + 10 * (e + 1) + 5) h5 ∧ h5.length = h4.length := by
        have cl8 : cmpV .Lt (.int so) (.int 8) = some (decide (so < 8)) := rfl
        have other : evE cl (.and (.call wh (.cons (.idx (.var 1) (.var 4)) .nil)) (.cmp .Lt (.var 5) (.con (.int (8))))) [some (.ref n), some (sq b xs), some x', none, some (.int at_), some (.int so)] h4 = .ok (.bl false) h4 → _ := fun c =>
          (⟨x', h4, (s_iff c).trans rfl, dat_mono (by omega) (by omega) bx.dt, bx.nd, p4.mono (by omega), rfl⟩ : ∃ y h5, evS cl (.iff (.and (.call wh (.cons (.idx (.var 1) (.var 4)) .nil)) (.cmp .Lt (.var 5) (.con (.int (8))))) (.cons (.asg (.v 2) (.bin .Add (.idx (.var 1) (.var 4)) (.call on (.cons (.var 0) (.cons (.lst (.cons (.con (.int (1))) (.cons (.neg (.con (.int (1)))) (.cons (.con (.int (2))) (.cons (.neg (.idx (.var 1) (.var 4))) .nil))))) .nil))))) .nil) .nil) [some (.ref n), some (sq b xs), some x', none, some (.int at_), some (.int so)] h4 = .ok (.nx [some (.ref n), some (sq b xs), some y, none, some (.int at_), some (.int so)]) h5 ∧
          dat (M + 3) (e + 6) y = true ∧ nod y ≤ 2 * nod x + 20 ∧ PenOk n (B + 10 * (e + 1) + 5) h5 ∧ h5.length = h4.length)
        have ww := Wh M e x h4 (dxm x xm)
        by_cases int_ : ∃ i : Int, x = .int i
        · obtain ⟨i, rfl⟩ := int_
          by_cases lt : so < 8
          · have ib : i.natAbs < M := by
              have := dxm _ xm
              cases e <;> simpa [dat] using this
            have cnd : evE cl (.and (.call wh (.cons (.idx (.var 1) (.var 4)) .nil)) (.cmp .Lt (.var 5) (.con (.int (8))))) [some (.ref n), some (sq b xs), some x', none, some (.int at_), some (.int so)] h4 = .ok (.bl true) h4 := by
              simp only [evS, evE, evSs, evEs, evI, List.map_cons, List.map_nil, List.cons_append, List.nil_append, List.replicate_succ, List.replicate_zero, getS_0, getS_s, List.set_cons_zero, List.set_cons_succ, wipe_nil, wipe_cons, setT_v, setT_t, setTs_nil, setTs_cons, setAll, Option.bind_some, Out.of_some, Out.bind_ok, Nat.reduceSub, ix, ww, isI, cl8, decide_eq_true lt]
            obtain ⟨w, h5, hw, e5, p5, k5⟩ := O n (B + 1 + 1 + 1 + 10 * (e + 1)) [.int 1, .int (-1), .int 2, .int (-i)] h4 p4 (by omega) (by simp) (by simp)
            have hb : ∃ j : Int, w = .int j ∧ (i + j).natAbs < M + 3 := by
              simp only [List.mem_cons, List.not_mem_nil, or_false] at hw
              rcases hw with rfl | rfl | rfl | rfl <;> exact ⟨_, rfl, by omega⟩
            obtain ⟨j, rfl, jb⟩ := hb
            have z4 : szOk 4 = true := rfl
            refine ⟨.int (i + j), h5, (s_iff cnd).trans ?_, by cases e <;> (simp only [dat, decide_eq_true_eq]; exact jb), by simp only [nod]; omega, p5.mono (by omega), k5⟩
            show evSs cl _ _ h4 = _
            refine (ss_nx ?_).trans rfl
            simp only [evS, evE, evSs, evEs, evI, List.map_cons, List.map_nil, List.cons_append, List.nil_append, List.replicate_succ, List.replicate_zero, getS_0, getS_s, List.set_cons_zero, List.set_cons_succ, wipe_nil, wipe_cons, setT_v, setT_t, setTs_nil, setTs_cons, setAll, Option.bind_some, Out.of_some, Out.bind_ok, Nat.reduceSub, ix, List.length_cons, List.length_nil, Nat.reduceAdd, z4, if_true, e5, ad]
          · exact other (by simp only [evS, evE, evSs, evEs, evI, List.map_cons, List.map_nil, List.cons_append, List.nil_append, List.replicate_succ, List.replicate_zero, getS_0, getS_s, List.set_cons_zero, List.set_cons_succ, wipe_nil, wipe_cons, setT_v, setT_t, setTs_nil, setTs_cons, setAll, Option.bind_some, Out.of_some, Out.bind_ok, Nat.reduceSub, ix, ww, isI, cl8, decide_eq_false lt])
        · have : isI x = false := by
            cases x <;> first | rfl | exact absurd ⟨_, rfl⟩ int_
          rw [this] at ww
          exact other (by simp only [evS, evE, evSs, evEs, evI, List.map_cons, List.map_nil, List.cons_append, List.nil_append, List.replicate_succ, List.replicate_zero, getS_0, getS_s, List.set_cons_zero, List.set_cons_succ, wipe_nil, wipe_cons, setT_v, setT_t, setTs_nil, setTs_cons, setAll, Option.bind_some, Out.of_some, Out.bind_ok, Nat.reduceSub, ix, ww])
      obtain ⟨y, h5, e5, dy, ny, p5, k5⟩ := mid
      refine ⟨sq b (xs.take at_.toNat ++ [y] ++ xs.drop (at_ + 1).toNat), h5, d_rt rfl (head ((ss_nx n0).trans ((ss_nx n1).trans ((ss_nx n2).trans ((ss_nx s6).trans ((ss_nx e5).trans (ss_rt (s_ret ?_)))))))), ?_, p5.mono (by omega), by omega⟩
      · have c1' : evE cl (.slc (.var 1) (.con .non) (.var 4)) [some (.ref n), some (sq b xs), some y, none, some (.int at_), some (.int so)] h5 = .ok (sq b (xs.take at_.toNat)) h5 := by
          simp only [evS, evE, evSs, evEs, evI, List.map_cons, List.map_nil, List.cons_append, List.nil_append, List.replicate_succ, List.replicate_zero, getS_0, getS_s, List.set_cons_zero, List.set_cons_succ, wipe_nil, wipe_cons, setT_v, setT_t, setTs_nil, setTs_cons, setAll, Option.bind_some, Out.of_some, Out.bind_ok, Nat.reduceSub, partV, sq_slc, cut_to _ a0]
        have c2' : evE cl (.slc (.var 1) (.bin .Add (.var 4) (.con (.int (1)))) (.con .non)) [some (.ref n), some (sq b xs), some y, none, some (.int at_), some (.int so)] h5 = .ok (sq b (xs.drop (at_ + 1).toNat)) h5 := by
          simp only [evS, evE, evSs, evEs, evI, List.map_cons, List.map_nil, List.cons_append, List.nil_append, List.replicate_succ, List.replicate_zero, getS_0, getS_s, List.set_cons_zero, List.set_cons_succ, wipe_nil, wipe_cons, setT_v, setT_t, setTs_nil, setTs_cons, setAll, Option.bind_some, Out.of_some, Out.bind_ok, Nat.reduceSub, partV, ad, sq_slc, cut_from _ (show 0 ≤ at_ + 1 by omega)]
        have z1 : szOk 1 = true := rfl
        have m' : evE cl (.ite (.isin (.var 1) .list) (.lst (.cons (.var 2) .nil)) (.tup (.cons (.var 2) .nil))) [some (.ref n), some (sq b xs), some y, none, some (.int at_), some (.int so)] h5 = .ok (sq b [y]) h5 := by
          cases b
          · have ty1 : isTy (sq false xs) .list = some false := rfl
            simp only [evS, evE, evSs, evEs, evI, List.map_cons, List.map_nil, List.cons_append, List.nil_append, List.replicate_succ, List.replicate_zero, getS_0, getS_s, List.set_cons_zero, List.set_cons_succ, wipe_nil, wipe_cons, setT_v, setT_t, setTs_nil, setTs_cons, setAll, Option.bind_some, Out.of_some, Out.bind_ok, Nat.reduceSub, ty1, List.length_cons, List.length_nil, Nat.reduceAdd, z1, if_true]
            rfl
          · have ty1 : isTy (sq true xs) .list = some true := rfl
            simp only [evS, evE, evSs, evEs, evI, List.map_cons, List.map_nil, List.cons_append, List.nil_append, List.replicate_succ, List.replicate_zero, getS_0, getS_s, List.set_cons_zero, List.set_cons_succ, wipe_nil, wipe_cons, setT_v, setT_t, setTs_nil, setTs_cons, setAll, Option.bind_some, Out.of_some, Out.bind_ok, Nat.reduceSub, ty1, List.length_cons, List.length_nil, Nat.reduceAdd, z1, if_true]
            rfl
        exact e_bin (e_bin c1' m' (sq_add b _ _ (by rw [List.length_take, List.length_singleton]; omega))) c2' (sq_add b _ _ (by rw [List.length_append, List.length_take, List.length_drop, List.length_singleton]; omega))
      · refine fin _ b (dats_app.mpr ⟨dats_app.mpr ⟨tk1 _, by simp only [dats, dy, Bool.true_and]⟩, dr1 _⟩) ?_
        rw [nods_app, nods_app, toN]
        simp only [nods]
        omega
  cases v with
  | lst xs =>
    cases d with
    | zero => simp [dat] at dv
    | succ e =>
      cases xs with
      | nil => exact odd p (by omega) rfl (by
          have ty1 : isTy (.lst []) .list = some true := rfl
          have ln : biV h .len [.lst []] = some (.int 0) := rfl
          simp only [evS, evE, evSs, evEs, evI, List.map_cons, List.map_nil, List.cons_append, List.nil_append, List.replicate_succ, List.replicate_zero, getS_0, getS_s, List.set_cons_zero, List.set_cons_succ, wipe_nil, wipe_cons, setT_v, setT_t, setTs_nil, setTs_cons, setAll, Option.bind_some, Out.of_some, Out.bind_ok, Nat.reduceSub, ty1, Bool.not_true, ln, eq_int]
          rfl)
      | cons y ys => exact main true (y :: ys) e rfl rfl (by simpa only [dat] using dv) (by simp)
  | tup xs =>
    cases d with
    | zero => simp [dat] at dv
    | succ e =>
      cases xs with
      | nil => exact odd p (by omega) rfl (by
          have ty1 : isTy (.tup []) .list = some false := rfl
          have ty2 : isTy (.tup []) .tuple = some true := rfl
          have ln : biV h .len [.tup []] = some (.int 0) := rfl
          simp only [evS, evE, evSs, evEs, evI, List.map_cons, List.map_nil, List.cons_append, List.nil_append, List.replicate_succ, List.replicate_zero, getS_0, getS_s, List.set_cons_zero, List.set_cons_succ, wipe_nil, wipe_cons, setT_v, setT_t, setTs_nil, setTs_cons, setAll, Option.bind_some, Out.of_some, Out.bind_ok, Nat.reduceSub, ty1, ty2, Bool.not_true, Bool.not_false, ln, eq_int]
          rfl)
      | cons y ys => exact main false (y :: ys) e rfl rfl (by simpa only [dat] using dv) (by simp)
  | non => exact odd p (by omega) rfl rfl
  | bl b => exact odd p (by omega) rfl rfl
  | int i => exact odd p (by omega) rfl rfl
  | str x => exact odd p (by omega) rfl rfl
  | _ => cases d <;> simp [dat] at dv
end
end MP

set_option Elab.async false
set_option linter.all false
set_option maxRecDepth 100000
set_option exponentiation.threshold 100
namespace MP
open PySem

/-! ### plain law: what is a work, of any value -/
theorem all_step {cl : Nat → List PV → Hs → Out PV} {t : Tg} {b : Sl → Hs → Out Fl} (good : PV → Bool) (S : Sl → Prop) {h : Hs} : ∀ (xs : List PV) (σ : Sl),
    (∀ x ∈ xs, ∀ σ, S σ → ∃ σ1, setT t x σ = some σ1 ∧ ((good x = true ∧ ∃ σ', b σ1 h = .ok (.nx σ') h ∧ S σ') ∨ (good x = false ∧ b σ1 h = .ok (.rt (.bl false)) h))) → S σ →
    (xs.all good = true ∧ ∃ σ', forL t b xs σ h = .ok (.nx σ') h ∧ S σ') ∨ (xs.all good = false ∧ forL t b xs σ h = .ok (.rt (.bl false)) h)
  | [], σ, _, s => .inl ⟨rfl, σ, rfl, s⟩
  | x :: xs, σ, step, s => by
    obtain ⟨σ1, e1, q⟩ := step x List.mem_cons_self σ s
    rcases q with ⟨g, σ', e2, s'⟩ | ⟨g, e2⟩
    · rcases all_step (cl := cl) good S xs σ' (fun y hy => step y (List.mem_cons_of_mem _ hy)) s' with ⟨a, σ2, e3, s2⟩ | ⟨a, e3⟩
      · refine .inl ⟨by rw [List.all_cons, g, a]; rfl, σ2, ?_, s2⟩
        rw [forL, e1, Out.of_some, Out.bind_ok, e2, Out.bind_ok]; exact e3
      · refine .inr ⟨by rw [List.all_cons, g, a]; rfl, ?_⟩
        rw [forL, e1, Out.of_some, Out.bind_ok, e2, Out.bind_ok]; exact e3
    · refine .inr ⟨by rw [List.all_cons, g]; rfl, ?_⟩
      rw [forL, e1, Out.of_some, Out.bind_ok, e2, Out.bind_ok]
abbrev Mx : Nat := 2 ^ 200
def isT : PV → Bool
  | .tup _ => true
  | _ => false
theorem ty_tup {M d : Nat} {v : PV} (h : dat M d v = true) : isTy v .tuple = some (isT v) := by
  cases v <;> first | rfl | (cases d <;> simp [dat] at h)
theorem len_tup (xs : List PV) (h : Hs) : biV h .len [.tup xs] = some (.int (xs.length : Int)) := rfl
def fracB : PV → Bool
  | .tup [.int n, .int d] => decide (0 < d) && (Int.gcd n d == 1)
  | _ => false
/-- the two forms of a pair's test -/
theorem pair_of {xs : List PV} (h : xs.length = 2) : ∃ a b, xs = [a, b] := by
  match xs, h with
  | [a, b], _ => exact ⟨a, b, rfl⟩
theorem dat_pair {M d : Nat} {a b : PV} (h : dat M d (.tup [a, b]) = true) : ∃ e, d = e + 1 ∧ dat M e a = true ∧ dat M e b = true := by
  cases d with
  | zero => simp [dat] at h
  | succ e =>
    simp only [dat, dats, Bool.and_eq_true, and_true] at h
    exact ⟨e, rfl, h.1, h.2⟩
theorem dat_int {M d : Nat} {i : Int} (h : dat M d (.int i) = true) : i.natAbs < M := by cases d <;> simpa [dat] using h
def FracG (cl : Nat → List PV → Hs → Out PV) (f : Nat) : Prop := ∀ (M d : Nat) (v : PV) (h : Hs), M ≤ Mx → dat M d v = true → cl f [v] h = .ok (.bl (fracB v)) h
theorem mx_big {i : Int} (h : i.natAbs < Mx) : i.natAbs < Big := Nat.lt_trans h (Nat.pow_lt_pow_right (by omega) (by omega))
section
variable {cl : Nat → List PV → Hs → Out PV}
theorem fracG_ok {ii dv : Nat} (I : WholeC cl ii) (D : DivC cl dv) {M d : Nat} {v : PV} {h : Hs} (hM : M ≤ Mx) (hv : dat M d v = true) : evD cl ⟨1, 1, pIsFrac ii dv⟩ [v] h = .ok (.bl (fracB v)) h := by
  have ty := ty_tup hv
  refine d_rt rfl ?_
  unfold pIsFrac
  by_cases t : ∃ xs, v = .tup xs
  · obtain ⟨xs, rfl⟩ := t
    have ty : isTy (.tup xs) .tuple = some true := rfl
    by_cases l : xs.length = 2
    · obtain ⟨a, b, rfl⟩ := pair_of l
      obtain ⟨e, rfl, da, db⟩ := dat_pair hv
      have i0 : idxV h (.tup [a, b]) (.int 0) = some a := rfl
      have i1 : idxV h (.tup [a, b]) (.int 1) = some b := rfl
      have ln : biV h .len [.tup [a, b]] = some (.int 2) := rfl
      have c2 : ((2 : Int) == 2) = true := rfl
      have wa := I M e a h da
      have wb := I M e b h db
      by_cases ia : ∃ n, a = .int n
      · obtain ⟨n, rfl⟩ := ia
        have ti : ∀ j : Int, isI (.int j) = true := fun _ => rfl
        by_cases ib : ∃ m, b = .int m
        · obtain ⟨m, rfl⟩ := ib
          have na := mx_big (Nat.lt_of_lt_of_le (dat_int da) hM)
          have nb := mx_big (Nat.lt_of_lt_of_le (dat_int db) hM)
          have gt : cmpV .Gt (.int m) (.int 0) = some (decide (0 < m)) := rfl
          by_cases pos : 0 < m
          · have fb : fracB (.tup [.int n, .int m]) = (((Int.gcd n m : Nat) : Int) == 1) := by
              simp only [fracB, decide_eq_true pos, Bool.true_and]
              by_cases g : Int.gcd n m = 1
              · simp [g]
              · have g2 : ¬ ((Int.gcd n m : Nat) : Int) = 1 := by omega
                rw [beq_eq_false_iff_ne.mpr g, beq_eq_false_iff_ne.mpr g2]
            rw [fb]
            simp only [evS, evE, evSs, evEs, evI, List.map_cons, List.map_nil, List.cons_append, List.nil_append, List.replicate_succ, List.replicate_zero, getS_0, getS_s, List.set_cons_zero, List.set_cons_succ, wipe_nil, wipe_cons, setT_v, setT_t, setTs_nil, setTs_cons, setAll, Option.bind_some, Out.of_some, Out.bind_ok, Nat.reduceSub, ty, i0, i1, ln, ne_int, eq_int, c2, wa, wb, ti, Bool.not_true, gt, decide_eq_true pos, D n m h na nb]
          · have fb : fracB (.tup [.int n, .int m]) = false := by simp only [fracB, decide_eq_false pos, Bool.false_and]
            rw [fb]
            simp only [evS, evE, evSs, evEs, evI, List.map_cons, List.map_nil, List.cons_append, List.nil_append, List.replicate_succ, List.replicate_zero, getS_0, getS_s, List.set_cons_zero, List.set_cons_succ, wipe_nil, wipe_cons, setT_v, setT_t, setTs_nil, setTs_cons, setAll, Option.bind_some, Out.of_some, Out.bind_ok, Nat.reduceSub, ty, i0, i1, ln, ne_int, c2, wa, wb, ti, Bool.not_true, gt, decide_eq_false pos]
        · have wb' : isI b = false := by cases b <;> first | rfl | exact absurd ⟨_, rfl⟩ ib
          have fb : fracB (.tup [.int n, b]) = false := by cases b <;> first | rfl | exact absurd ⟨_, rfl⟩ ib
          rw [fb]
          simp only [evS, evE, evSs, evEs, evI, List.map_cons, List.map_nil, List.cons_append, List.nil_append, List.replicate_succ, List.replicate_zero, getS_0, getS_s, List.set_cons_zero, List.set_cons_succ, wipe_nil, wipe_cons, setT_v, setT_t, setTs_nil, setTs_cons, setAll, Option.bind_some, Out.of_some, Out.bind_ok, Nat.reduceSub, ty, i0, i1, ln, ne_int, c2, wa, wb, wb', ti, Bool.not_true, Bool.not_false]
      · have wa' : isI a = false := by cases a <;> first | rfl | exact absurd ⟨_, rfl⟩ ia
        have fb : fracB (.tup [a, b]) = false := by cases a <;> first | rfl | exact absurd ⟨_, rfl⟩ ia
        rw [fb]
        simp only [evS, evE, evSs, evEs, evI, List.map_cons, List.map_nil, List.cons_append, List.nil_append, List.replicate_succ, List.replicate_zero, getS_0, getS_s, List.set_cons_zero, List.set_cons_succ, wipe_nil, wipe_cons, setT_v, setT_t, setTs_nil, setTs_cons, setAll, Option.bind_some, Out.of_some, Out.bind_ok, Nat.reduceSub, ty, i0, ln, ne_int, c2, wa, wa', Bool.not_true, Bool.not_false]
    · have fb : fracB (.tup xs) = false := by
        unfold fracB
        split
        · rename_i heq
          cases heq
          exact absurd rfl l
        · rfl
      have c2 : ((xs.length : Int) == 2) = false := by simp; omega
      rw [fb]
      simp only [evS, evE, evSs, evEs, evI, List.map_cons, List.map_nil, List.cons_append, List.nil_append, List.replicate_succ, List.replicate_zero, getS_0, getS_s, List.set_cons_zero, List.set_cons_succ, wipe_nil, wipe_cons, setT_v, setT_t, setTs_nil, setTs_cons, setAll, Option.bind_some, Out.of_some, Out.bind_ok, Nat.reduceSub, ty, len_tup, ne_int, c2, Bool.not_true, Bool.not_false]
  · have fb : fracB v = false := by cases v <;> first | rfl | exact absurd ⟨_, rfl⟩ t
    have tt : isT v = false := by cases v <;> first | rfl | exact absurd ⟨_, rfl⟩ t
    rw [fb]
    simp only [evS, evE, evSs, evEs, evI, List.map_cons, List.map_nil, List.cons_append, List.nil_append, List.replicate_succ, List.replicate_zero, getS_0, getS_s, List.set_cons_zero, List.set_cons_succ, wipe_nil, wipe_cons, setT_v, setT_t, setTs_nil, setTs_cons, setAll, Option.bind_some, Out.of_some, Out.bind_ok, Nat.reduceSub, ty, tt, Bool.not_false]
end
/-! #### sums -/
def addV : PV → PV → PV
  | .tup [.int a, .int b], .tup [.int c, .int d] => fr (a * d + c * b) (b * d)
  | _, _ => .non
/-- a fraction of bounded parts -/
def FB (k : Nat) (x : PV) : Prop := ∃ a b : Int, x = .tup [.int a, .int b] ∧ 0 < b ∧ a.natAbs < 2 ^ (210 * k) ∧ b.natAbs < 2 ^ (210 * k)
def RedP (cl : Nat → List PV → Hs → Out PV) (f : Nat) : Prop := ∀ (a b : Int) (h : Hs), a.natAbs < Big → b.natAbs < Big → 0 < b → cl f [.int a, .int b] h = .ok (fr a b) h
def AddG (cl : Nat → List PV → Hs → Out PV) (f : Nat) : Prop := ∀ (k : Nat) (x y : PV) (h : Hs), k ≤ 20 → FB k x → FB 1 y → cl f [x, y] h = .ok (addV x y) h
theorem fb_add {k : Nat} {x y : PV} (hx : FB k x) (hy : ∃ c d : Int, y = .tup [.int c, .int d] ∧ 0 < d ∧ c.natAbs < Mx ∧ d.natAbs < Mx) : FB (k + 1) (addV x y) := by
  obtain ⟨a, b, rfl, b0, ha, hb⟩ := hx
  obtain ⟨c, d, rfl, d0, hc, hd⟩ := hy
  have pos : 0 < b * d := Int.mul_pos b0 d0
  obtain ⟨n, e, F⟩ := fr_of (t := a * d + c * b) pos
  have x1 : (a * d).natAbs ≤ 2 ^ (210 * k) * Mx := by rw [Int.natAbs_mul]; exact Nat.mul_le_mul (by omega) (by omega)
  have x2 : (c * b).natAbs ≤ 2 ^ (210 * k) * Mx := by rw [Int.natAbs_mul, Nat.mul_comm]; exact Nat.mul_le_mul (by omega) (by omega)
  have x3 : (b * d).natAbs ≤ 2 ^ (210 * k) * Mx := by rw [Int.natAbs_mul]; exact Nat.mul_le_mul (by omega) (by omega)
  have e1 : 2 ^ (210 * (k + 1)) = 2 ^ (210 * k) * Mx * 1024 := by
    show 2 ^ (210 * (k + 1)) = 2 ^ (210 * k) * 2 ^ 200 * 2 ^ 10
    rw [← Nat.pow_add, ← Nat.pow_add]
    congr 1
  have p0 : 0 < 2 ^ (210 * k) * Mx := Nat.mul_pos (Nat.two_pow_pos _) (Nat.two_pow_pos _)
  have na := F.na
  have ea := F.le
  have ep := F.pos
  refine ⟨n, e, F.e, F.pos, ?_, ?_⟩ <;> (rw [e1]; omega)
theorem fb_frac {k : Nat} {x : PV} (hk : 1 ≤ k) (hx : ∃ c d : Int, x = .tup [.int c, .int d] ∧ 0 < d ∧ c.natAbs < Mx ∧ d.natAbs < Mx) : FB k x := by
  obtain ⟨c, d, rfl, d0, hc, hd⟩ := hx
  have : Mx ≤ 2 ^ (210 * k) := Nat.pow_le_pow_right (by omega) (by omega)
  exact ⟨c, d, rfl, d0, by omega, by omega⟩
theorem addG_ok {cl : Nat → List PV → Hs → Out PV} {rd : Nat} (R : RedP cl rd) {k : Nat} {x y : PV} {h : Hs} (hk : k ≤ 20) (hx : FB k x) (hy : FB 1 y) : evD cl ⟨2, 2, pAdd rd⟩ [x, y] h = .ok (addV x y) h := by
  obtain ⟨a, b, rfl, b0, ha, hb⟩ := hx
  obtain ⟨c, d, rfl, d0, hc, hd⟩ := hy
  have kk : 2 ^ (210 * k) ≤ 2 ^ 4200 := Nat.pow_le_pow_right (by omega) (by omega)
  have k1 : 2 ^ (210 * 1) ≤ 2 ^ 4200 := Nat.pow_le_pow_right (by omega) (by omega)
  have bg : (2 : Nat) ^ 4200 * 2 ^ 4200 * 2 < Big := by
    have e : (2 : Nat) ^ 4200 * 2 ^ 4200 * 2 = 2 ^ 8401 := by
      have : (2 : Nat) ^ 4200 * 2 ^ 4200 * 2 ^ 1 = 2 ^ 8401 := by rw [← Nat.pow_add, ← Nat.pow_add]
      simpa using this
    rw [e]
    exact Nat.pow_lt_pow_right (by omega) (by omega)
  have sm : (2 : Nat) ^ 4200 < Big := Nat.pow_lt_pow_right (by omega) (by omega)
  have x1 := mul_abs (a := a) (b := d) (A := 2 ^ 4200) (B := 2 ^ 4200) (by omega) (by omega)
  have x2 := mul_abs (a := c) (b := b) (A := 2 ^ 4200) (B := 2 ^ 4200) (by omega) (by omega)
  have x3 := mul_abs (a := b) (b := d) (A := 2 ^ 4200) (B := 2 ^ 4200) (by omega) (by omega)
  have p1 := mul_ok (i := a) (j := d) (by omega) (by omega)
  have p2 := mul_ok (i := c) (j := b) (by omega) (by omega)
  have p3 := mul_ok (i := b) (j := d) (by omega) (by omega)
  have ad : binV .Add (.int (a * d)) (.int (c * b)) = some (.int (a * d + c * b)) := rfl
  have pos : 0 < b * d := Int.mul_pos b0 d0
  have r := R (a * d + c * b) (b * d) h (by omega) (by omega) pos
  have i0 : idxV h (.tup [.int a, .int b]) (.int 0) = some (.int a) := rfl
  have i1 : idxV h (.tup [.int a, .int b]) (.int 1) = some (.int b) := rfl
  have i2 : idxV h (.tup [.int c, .int d]) (.int 0) = some (.int c) := rfl
  have i3 : idxV h (.tup [.int c, .int d]) (.int 1) = some (.int d) := rfl
  refine d_rt rfl ?_
  unfold pAdd
  simp only [evS, evE, evSs, evEs, evI, List.map_cons, List.map_nil, List.cons_append, List.nil_append, List.replicate_succ, List.replicate_zero, getS_0, getS_s, List.set_cons_zero, List.set_cons_succ, wipe_nil, wipe_cons, setT_v, setT_t, setTs_nil, setTs_cons, setAll, Option.bind_some, Out.of_some, Out.bind_ok, Nat.reduceSub, i0, i1, i2, i3, p1, p2, p3, ad, r]
  rfl
/-! #### moves -/
/-- where to, what part: of a move that may stand -/
def mvP : PV → Option (Int × PV)
  | .tup [.int i, q] => if fracB q then some (i, q) else none
  | _ => none
def topB : PV → Bool
  | .tup (.int p :: _) => decide (1 ≤ p)
  | _ => false
def moveB (n : Int) (x : PV) : Bool := match mvP x with
  | some (i, q) => decide (0 ≤ i) && decide (i < n) && topB q
  | none => false
def fst_ (x : PV) : Int := match mvP x with
  | some (i, _) => i
  | none => 0
def snd_ (x : PV) : PV := match mvP x with
  | some (_, q) => q
  | none => .non
def zeroV : PV := .tup [.int 0, .int 1]
def oneV : PV := .tup [.int 1, .int 1]
def ascA (ms : List PV) : Bool := (adj ms).all fun p => decide (fst_ p.1 < fst_ p.2)
def movesB (n : Int) : PV → Bool
  | .tup ms => ms.all (moveB n) && (ascA ms && eqv ((ms.map snd_).foldl addV zeroV) oneV)
  | _ => false
/-- the law's way through the moves -/
def lrun (n : Int) : Int → PV → List PV → Option PV
  | _, t, [] => some t
  | last, t, m :: r => match mvP m with
    | some (i, q) => if decide (last < i) && decide (i < n) && topB q then lrun n i (addV t q) r else none
    | none => none
def ascF : Int → List PV → Bool
  | _, [] => true
  | last, m :: r => decide (last < fst_ m) && ascF (fst_ m) r
theorem lrun_eq (n : Int) : ∀ (ms : List PV) (last : Int) (t : PV), -1 ≤ last → (match lrun n last t ms with | some u => eqv u oneV | none => false) = (ms.all (moveB n) && (ascF last ms && eqv ((ms.map snd_).foldl addV t) oneV))
  | [], last, t, _ => by simp [lrun, ascF]
  | m :: r, last, t, hl => by
    simp only [lrun, List.all_cons, moveB, ascF, List.map_cons, List.foldl_cons, fst_, snd_]
    obtain hq | ⟨i, f, hq⟩ : mvP m = none ∨ ∃ i f, mvP m = some (i, f) := by
      cases mvP m with
      | none => exact .inl rfl
      | some w => exact .inr ⟨w.1, w.2, rfl⟩
    · simp [hq]
    · simp only [hq]
      by_cases c1 : last < i
      · by_cases c2 : i < n
        · cases c3 : topB f with
          | true =>
            have i0 : 0 ≤ i := by omega
            have := lrun_eq n r i (addV t f) (by omega)
            simp only [decide_eq_true c1, decide_eq_true c2, decide_eq_true i0, Bool.and_self, if_true, Bool.true_and]
            rw [this]
          | false => simp
        · simp [c2]
      · simp only [decide_eq_false c1, Bool.false_and, Bool.false_eq_true, if_false, Bool.and_false]
theorem asc_eq (n : Int) : ∀ (ms : List PV), ms.all (moveB n) = true → ∀ last, (∀ m ∈ ms.head?, last < fst_ m) → ascF last ms = ascA ms
  | [], _, _, _ => rfl
  | [m], h, last, hl => by
    have := hl m (by simp)
    simp [ascF, ascA, adj, this]
  | m :: k :: r, h, last, hl => by
    simp only [List.all_cons, Bool.and_eq_true] at h
    have l1 := hl m (by simp)
    simp only [ascF, decide_eq_true l1, Bool.true_and]
    by_cases c : fst_ m < fst_ k
    · have := asc_eq n (k :: r) (by simp only [List.all_cons, Bool.and_eq_true]; exact h.2) (fst_ m) (by simpa using c)
      simp only [ascF] at this
      rw [this]
      simp only [ascA, adj, List.all_cons, decide_eq_true c, Bool.true_and]
    · simp only [decide_eq_false c, Bool.false_and, ascA, adj, List.all_cons]
theorem moves_law (n : Int) (ms : List PV) : (match lrun n (-1) zeroV ms with | some u => eqv u oneV | none => false) = movesB n (.tup ms) := by
  rw [lrun_eq n ms (-1) zeroV (by omega)]
  simp only [movesB]
  cases h : ms.all (moveB n) with
  | false => rfl
  | true =>
    rw [asc_eq n ms h (-1)]
    intro m hm
    cases ms with
    | nil => simp at hm
    | cons y ys =>
      simp only [List.head?_cons, Option.mem_def, Option.some.injEq] at hm
      subst hm
      simp only [List.all_cons, Bool.and_eq_true] at h
      have := h.1
      unfold moveB at this
      unfold fst_
      split at this
      · rename_i i q e
        simp only [Bool.and_eq_true, decide_eq_true_eq] at this
        omega
      · cases this
end MP

set_option Elab.async false
set_option linter.all false
set_option maxRecDepth 100000
set_option exponentiation.threshold 100
namespace MP
open PySem

/-! ### plain law: is_work of any value, both ways -/
def belB (n : Int) : PV → Bool
  | .int i => decide (0 ≤ i) && decide (i < n)
  | _ => false
def BelowG (cl : Nat → List PV → Hs → Out PV) (f : Nat) : Prop := ∀ (M d : Nat) (v : PV) (n : Int) (h : Hs), dat M d v = true → cl f [v, .int n] h = .ok (.bl (belB n v)) h
/-- a fraction as it stands in a value -/
def FR (q : PV) : Prop := ∃ c d : Int, q = .tup [.int c, .int d] ∧ 0 < d ∧ c.natAbs < Mx ∧ d.natAbs < Mx
def AddAllG (cl : Nat → List PV → Hs → Out PV) (f : Nat) : Prop := ∀ (qs : List PV) (h : Hs), qs.length ≤ 6 → (∀ q ∈ qs, FR q) → cl f [.lst qs] h = .ok (qs.foldl addV zeroV) h
theorem fr_of_dat {M d : Nat} {q : PV} (hM : M ≤ Mx) (hq : dat M d q = true) (f : fracB q = true) : FR q := by
  unfold fracB at f
  split at f
  · rename_i n m
    obtain ⟨e, rfl, da, db⟩ := dat_pair hq
    simp only [Bool.and_eq_true, decide_eq_true_eq] at f
    exact ⟨n, m, rfl, f.1, Nat.lt_of_lt_of_le (dat_int da) hM, Nat.lt_of_lt_of_le (dat_int db) hM⟩
  · cases f
theorem fb_zero : FB 1 zeroV := ⟨0, 1, rfl, by decide, by decide +kernel, by decide +kernel⟩
theorem fb_mono {j k : Nat} {x : PV} (h : FB j x) (hk : j ≤ k) : FB k x := by
  obtain ⟨a, b, e, b0, ha, hb⟩ := h
  have : 2 ^ (210 * j) ≤ 2 ^ (210 * k) := Nat.pow_le_pow_right (by omega) (by omega)
  exact ⟨a, b, e, b0, by omega, by omega⟩
theorem fb_eq {k : Nat} {x : PV} (h : FB k x) : cmpV .Eq x oneV = some (eqv x oneV) ∧ cmpV .NotEq x oneV = some (!eqv x oneV) := by
  obtain ⟨a, b, rfl, _⟩ := h
  exact ⟨rfl, rfl⟩
section
variable {cl : Nat → List PV → Hs → Out PV}
theorem below_ok {ii : Nat} (I : WholeC cl ii) {M d : Nat} {v : PV} {n : Int} {h : Hs} (hv : dat M d v = true) : evD cl ⟨2, 2, pIsBelow ii⟩ [v, .int n] h = .ok (.bl (belB n v)) h := by
  have w := I M d v h hv
  refine d_rt rfl ?_
  unfold pIsBelow
  by_cases q : ∃ i, v = .int i
  · obtain ⟨i, rfl⟩ := q
    have ti : isI (.int i) = true := rfl
    have c1 : cmpV .LtE (.int 0) (.int i) = some (decide (0 ≤ i)) := rfl
    have c2 : cmpV .Lt (.int i) (.int n) = some (decide (i < n)) := rfl
    by_cases k : 0 ≤ i
    · simp only [evS, evE, evSs, evEs, evI, List.map_cons, List.map_nil, List.cons_append, List.nil_append, List.replicate_succ, List.replicate_zero, getS_0, getS_s, List.set_cons_zero, List.set_cons_succ, wipe_nil, wipe_cons, setT_v, setT_t, setTs_nil, setTs_cons, setAll, Option.bind_some, Out.of_some, Out.bind_ok, Nat.reduceSub, w, ti, c1, c2, decide_eq_true k, belB, Bool.true_and]
    · simp only [evS, evE, evSs, evEs, evI, List.map_cons, List.map_nil, List.cons_append, List.nil_append, List.replicate_succ, List.replicate_zero, getS_0, getS_s, List.set_cons_zero, List.set_cons_succ, wipe_nil, wipe_cons, setT_v, setT_t, setTs_nil, setTs_cons, setAll, Option.bind_some, Out.of_some, Out.bind_ok, Nat.reduceSub, w, ti, c1, c2, decide_eq_false k, belB, Bool.false_and]
  · have ti : isI v = false := by cases v <;> first | rfl | exact absurd ⟨_, rfl⟩ q
    have tb : belB n v = false := by cases v <;> first | rfl | exact absurd ⟨_, rfl⟩ q
    simp only [evS, evE, evSs, evEs, evI, List.map_cons, List.map_nil, List.cons_append, List.nil_append, List.replicate_succ, List.replicate_zero, getS_0, getS_s, List.set_cons_zero, List.set_cons_succ, wipe_nil, wipe_cons, setT_v, setT_t, setTs_nil, setTs_cons, setAll, Option.bind_some, Out.of_some, Out.bind_ok, Nat.reduceSub, w, ti, tb]
theorem addAllG_ok {ad : Nat} (A : AddG cl ad) {qs : List PV} {h : Hs} (hl : qs.length ≤ 6) (hq : ∀ q ∈ qs, FR q) : evD cl ⟨1, 3, pAddAll ad⟩ [.lst qs] h = .ok (qs.foldl addV zeroV) h := by
  have lp := for_rule (t := .v 2) (b := evSs cl (.cons (.asg (.v 1) (.call ad (.cons (.var 1) (.cons (.var 2) .nil)))) .nil))
    (fun rest σ h' => h' = h ∧ ∃ (us : List PV) (x : Option PV), qs = us ++ rest ∧ FB (us.length + 1) (us.foldl addV zeroV) ∧ σ = [some (.lst qs), some (us.foldl addV zeroV), x])
    (by
      rintro x xs σ h' ⟨rfl, us, y, e, fb, rfl⟩
      have lu : us.length ≤ 6 := by rw [e, List.length_append] at hl; omega
      have fx := hq x (by rw [e]; exact List.mem_append_right _ List.mem_cons_self)
      have a := A (us.length + 1) _ x h' (by omega) fb (fb_frac (by omega) fx)
      refine ⟨[some (.lst qs), some (us.foldl addV zeroV), some x], [some (.lst qs), some ((us ++ [x]).foldl addV zeroV), some x], h', rfl, .inl ?_, rfl, us ++ [x], some x, by rw [e]; simp, ?_, rfl⟩
      · rw [List.foldl_append]
        simp only [evS, evE, evSs, evEs, evI, List.map_cons, List.map_nil, List.cons_append, List.nil_append, List.replicate_succ, List.replicate_zero, getS_0, getS_s, List.set_cons_zero, List.set_cons_succ, wipe_nil, wipe_cons, setT_v, setT_t, setTs_nil, setTs_cons, setAll, Option.bind_some, Out.of_some, Out.bind_ok, Nat.reduceSub, a]
        rfl
      · rw [List.foldl_append, List.length_append]
        exact fb_add fb fx)
  obtain ⟨σ', h', e1, rfl, us, x, e, _, rfl⟩ := lp qs [some (.lst qs), some zeroV, none] h ⟨rfl, [], none, rfl, fb_zero, rfl⟩
  rw [List.append_nil] at e
  subst e
  refine d_rt rfl ((ss_nx (σ' := [some (.lst qs), some zeroV, none]) (h' := h') rfl).trans ?_)
  exact (ss_nx (by rw [evS, i_it rfl (show seqOf (.lst qs) = some qs from rfl)]; exact e1)).trans (ss_rt rfl)
/-! #### the program's way -/
theorem mvP_pair {x : PV} {i : Int} {q : PV} (h : mvP x = some (i, q)) : x = .tup [.int i, q] ∧ fracB q = true := by
  unfold mvP at h
  split at h
  · split at h
    · rename_i f
      cases h
      exact ⟨rfl, f⟩
    · cases h
  · cases h
theorem mvP_of {a q : PV} : mvP (.tup [a, q]) = (match a with | .int i => if fracB q then some (i, q) else none | _ => none) := by
  cases a <;> rfl
theorem topB_of {p d : Int} : topB (.tup [.int p, .int d]) = decide (1 ≤ p) := rfl
def bMv (ib fq : Nat) : Ss := (.cons (.iff (.or (.not (.isin (.var 2) .tuple)) (.or (.cmp .NotEq (.bi .len (.cons (.var 2) .nil)) (.con (.int (2)))) (.not (.call ib (.cons (.idx (.var 2) (.con (.int (0)))) (.cons (.var 1) .nil)))))) (.cons (.ret (.con (.bl false))) .nil) .nil) (.cons (.iff (.or (.not (.call fq (.cons (.idx (.var 2) (.con (.int (1)))) .nil))) (.cmp .Lt (.idx (.idx (.var 2) (.con (.int (1)))) (.con (.int (0)))) (.con (.int (1))))) (.cons (.ret (.con (.bl false))) .nil) .nil) .nil))
theorem move_turn {ib fq : Nat} (B : BelowG cl ib) (Q : FracG cl fq) {M d : Nat} {x : PV} {n : Int} {h : Hs} {a c e : Option PV} (hM : M ≤ Mx) (hx : dat M d x = true) :
    (moveB n x = true ∧ evSs cl (bMv ib fq) [a, some (.int n), some x, c, e] h = .ok (.nx [a, some (.int n), some x, c, e]) h) ∨ (moveB n x = false ∧ evSs cl (bMv ib fq) [a, some (.int n), some x, c, e] h = .ok (.rt (.bl false)) h) := by
  have ty := ty_tup hx
  unfold bMv
  by_cases t : ∃ xs, x = .tup xs
  · obtain ⟨xs, rfl⟩ := t
    have ty : isTy (.tup xs) .tuple = some true := rfl
    by_cases l : xs.length = 2
    · obtain ⟨u, q, rfl⟩ := pair_of l
      obtain ⟨k, rfl, du, dq⟩ := dat_pair hx
      have i0 : idxV h (.tup [u, q]) (.int 0) = some u := rfl
      have i1 : idxV h (.tup [u, q]) (.int 1) = some q := rfl
      have ln : biV h .len [.tup [u, q]] = some (.int 2) := rfl
      have c2 : ((2 : Int) == 2) = true := rfl
      have wb := B M k u n h du
      have wq := Q M k q h hM dq
      cases bb : belB n u with
      | false =>
        refine .inr ⟨?_, ?_⟩
        · unfold moveB
          rw [mvP_of]
          cases u <;> try rfl
          rename_i i
          simp only
          cases ff : fracB q with
          | false => rfl
          | true =>
            simp only [belB] at bb
            simp only [if_true, bb, Bool.false_and]
        · simp only [evS, evE, evSs, evEs, evI, List.map_cons, List.map_nil, List.cons_append, List.nil_append, List.replicate_succ, List.replicate_zero, getS_0, getS_s, List.set_cons_zero, List.set_cons_succ, wipe_nil, wipe_cons, setT_v, setT_t, setTs_nil, setTs_cons, setAll, Option.bind_some, Out.of_some, Out.bind_ok, Nat.reduceSub, ty, i0, ln, ne_int, c2, wb, bb, Bool.not_true, Bool.not_false]
      | true =>
        obtain ⟨i, rfl⟩ : ∃ i, u = .int i := by cases u <;> first | exact ⟨_, rfl⟩ | cases bb
        cases ff : fracB q with
        | false =>
          refine .inr ⟨by unfold moveB; rw [mvP_of]; simp [ff], ?_⟩
          simp only [evS, evE, evSs, evEs, evI, List.map_cons, List.map_nil, List.cons_append, List.nil_append, List.replicate_succ, List.replicate_zero, getS_0, getS_s, List.set_cons_zero, List.set_cons_succ, wipe_nil, wipe_cons, setT_v, setT_t, setTs_nil, setTs_cons, setAll, Option.bind_some, Out.of_some, Out.bind_ok, Nat.reduceSub, ty, i0, i1, ln, ne_int, c2, wb, bb, wq, ff, Bool.not_true, Bool.not_false]
        | true =>
          obtain ⟨p, m, rfl, _⟩ := fr_of_dat hM dq ff
          have i2 : idxV h (.tup [.int p, .int m]) (.int 0) = some (.int p) := rfl
          have lt : cmpV .Lt (.int p) (.int 1) = some (decide (p < 1)) := rfl
          have mb : moveB n (.tup [.int i, .tup [.int p, .int m]]) = decide (1 ≤ p) := by
            unfold moveB
            rw [mvP_of]
            simp only [belB] at bb
            simp only [ff, if_true, bb, topB_of, Bool.true_and]
          by_cases p1 : p < 1
          · refine .inr ⟨by rw [mb]; exact decide_eq_false (by omega), ?_⟩
            simp only [evS, evE, evSs, evEs, evI, List.map_cons, List.map_nil, List.cons_append, List.nil_append, List.replicate_succ, List.replicate_zero, getS_0, getS_s, List.set_cons_zero, List.set_cons_succ, wipe_nil, wipe_cons, setT_v, setT_t, setTs_nil, setTs_cons, setAll, Option.bind_some, Out.of_some, Out.bind_ok, Nat.reduceSub, ty, i0, i1, i2, ln, ne_int, c2, wb, bb, wq, ff, lt, decide_eq_true p1, Bool.not_true]
          · refine .inl ⟨by rw [mb]; exact decide_eq_true (by omega), ?_⟩
            simp only [evS, evE, evSs, evEs, evI, List.map_cons, List.map_nil, List.cons_append, List.nil_append, List.replicate_succ, List.replicate_zero, getS_0, getS_s, List.set_cons_zero, List.set_cons_succ, wipe_nil, wipe_cons, setT_v, setT_t, setTs_nil, setTs_cons, setAll, Option.bind_some, Out.of_some, Out.bind_ok, Nat.reduceSub, ty, i0, i1, i2, ln, ne_int, c2, wb, bb, wq, ff, lt, decide_eq_false p1, Bool.not_true]
    · have c2 : ((xs.length : Int) == 2) = false := by simp; omega
      refine .inr ⟨?_, ?_⟩
      · unfold moveB
        have : mvP (.tup xs) = none := by
          unfold mvP
          split
          · rename_i heq
            cases heq
            exact absurd rfl l
          · rfl
        rw [this]
      · simp only [evS, evE, evSs, evEs, evI, List.map_cons, List.map_nil, List.cons_append, List.nil_append, List.replicate_succ, List.replicate_zero, getS_0, getS_s, List.set_cons_zero, List.set_cons_succ, wipe_nil, wipe_cons, setT_v, setT_t, setTs_nil, setTs_cons, setAll, Option.bind_some, Out.of_some, Out.bind_ok, Nat.reduceSub, ty, len_tup, ne_int, c2, Bool.not_true, Bool.not_false]
  · have tt : isT x = false := by cases x <;> first | rfl | exact absurd ⟨_, rfl⟩ t
    refine .inr ⟨?_, ?_⟩
    · unfold moveB
      have : mvP x = none := by cases x <;> first | rfl | exact absurd ⟨_, rfl⟩ t
      rw [this]
    · simp only [evS, evE, evSs, evEs, evI, List.map_cons, List.map_nil, List.cons_append, List.nil_append, List.replicate_succ, List.replicate_zero, getS_0, getS_s, List.set_cons_zero, List.set_cons_succ, wipe_nil, wipe_cons, setT_v, setT_t, setTs_nil, setTs_cons, setAll, Option.bind_some, Out.of_some, Out.bind_ok, Nat.reduceSub, ty, tt, Bool.not_false]
theorem adj_mem {α : Type} : ∀ {ms : List α} {p : α × α}, p ∈ adj ms → p.1 ∈ ms ∧ p.2 ∈ ms
  | [], p, h => by simp [adj] at h
  | [_], p, h => by simp [adj] at h
  | a :: b :: r, p, h => by
    simp only [adj, List.mem_cons] at h
    rcases h with rfl | h
    · simp
    · have := adj_mem (ms := b :: r) h
      exact ⟨List.mem_cons_of_mem _ this.1, List.mem_cons_of_mem _ this.2⟩
theorem adj_len {α : Type} : ∀ l : List α, (adj l).length ≤ l.length
  | [] => by simp [adj]
  | [_] => by simp [adj]
  | a :: b :: r => by have := adj_len (b :: r); simp only [adj, List.length_cons] at this ⊢; omega
theorem ascF_len (n : Int) : ∀ (ms : List PV) (last : Int), ascF last ms = true → (∀ m ∈ ms, fst_ m < n) → last ≤ n - 1 → (ms.length : Int) ≤ n - 1 - last
  | [], last, _, _, h => by simp; omega
  | m :: r, last, h, hn, _ => by
    simp only [ascF, Bool.and_eq_true, decide_eq_true_eq] at h
    have a := hn m List.mem_cons_self
    have := ascF_len n r (fst_ m) h.2 (fun k hk => hn k (List.mem_cons_of_mem _ hk)) (by omega)
    simp only [List.length_cons]; omega
theorem move_shape {n : Int} {m : PV} (h : moveB n m = true) : ∃ i q, m = .tup [.int i, q] ∧ fracB q = true ∧ fst_ m = i ∧ snd_ m = q ∧ 0 ≤ i ∧ i < n := by
  unfold moveB at h
  split at h
  · rename_i i q e
    obtain ⟨e1, f⟩ := mvP_pair e
    simp only [Bool.and_eq_true, decide_eq_true_eq] at h
    exact ⟨i, q, e1, f, by unfold fst_; rw [e], by unfold snd_; rw [e], h.1.1, h.1.2⟩
  · cases h
theorem asc_m1 {n : Int} {ms : List PV} (h : ms.all (moveB n) = true) : ascF (-1) ms = ascA ms := by
  refine asc_eq n ms h (-1) fun m hm => ?_
  obtain ⟨i, q, _, _, e, _, h0, _⟩ := move_shape (List.all_eq_true.mp h m (List.mem_of_mem_head? hm))
  omega
theorem movesG_ok {ib fq aa : Nat} (B : BelowG cl ib) (Q : FracG cl fq) (A : AddAllG cl aa) {M d : Nat} {v : PV} {n : Int} {h : Hs} (hM : M ≤ Mx) (hv : dat M d v = true) (nv : nod v ≤ 100000) (n0 : 0 ≤ n) (n6 : n ≤ 6) :
    evD cl ⟨2, 5, pMoves ib fq aa⟩ [v, .int n] h = .ok (.bl (movesB n v)) h := by
  have ty := ty_tup hv
  refine d_rt rfl ?_
  by_cases t : ∃ ms, v = .tup ms
  rotate_left
  · have tt : isT v = false := by cases v <;> first | rfl | exact absurd ⟨_, rfl⟩ t
    have mb : movesB n v = false := by cases v <;> first | rfl | exact absurd ⟨_, rfl⟩ t
    rw [mb]
    exact ss_rt (by simp only [evS, evE, evSs, evEs, evI, List.map_cons, List.map_nil, List.cons_append, List.nil_append, List.replicate_succ, List.replicate_zero, getS_0, getS_s, List.set_cons_zero, List.set_cons_succ, wipe_nil, wipe_cons, setT_v, setT_t, setTs_nil, setTs_cons, setAll, Option.bind_some, Out.of_some, Out.bind_ok, Nat.reduceSub, ty, tt, Bool.not_false])
  obtain ⟨ms, rfl⟩ := t
  have ty : isTy (.tup ms) .tuple = some true := rfl
  obtain ⟨d', dms⟩ : ∃ d', dats M d' ms = true := by
    cases d with
    | zero => simp [dat] at hv
    | succ d' => exact ⟨d', by simpa only [dat] using hv⟩
  have dm := dats_mem.mp dms
  have lm : ms.length ≤ 100000 := by have := nods_len ms; simp only [nod] at nv; omega
  have s1 : evS cl (.iff (.not (.isin (.var 0) .tuple)) (.cons (.ret (.con (.bl false))) .nil) .nil) [some (.tup ms), some (.int n), none, none, none] h = .ok (.nx [some (.tup ms), some (.int n), none, none, none]) h := by
    simp only [evS, evE, evSs, evEs, evI, List.map_cons, List.map_nil, List.cons_append, List.nil_append, List.replicate_succ, List.replicate_zero, getS_0, getS_s, List.set_cons_zero, List.set_cons_succ, wipe_nil, wipe_cons, setT_v, setT_t, setTs_nil, setTs_cons, setAll, Option.bind_some, Out.of_some, Out.bind_ok, Nat.reduceSub, ty, Bool.not_true]
  have lp := all_step (cl := cl) (t := .v 2) (b := evSs cl (bMv ib fq)) (h := h) (moveB n) (fun σ => ∃ x, σ = [some (.tup ms), some (.int n), x, none, none]) ms [some (.tup ms), some (.int n), none, none, none]
    (by
      rintro x hx σ ⟨y, rfl⟩
      refine ⟨[some (.tup ms), some (.int n), some x, none, none], rfl, ?_⟩
      rcases move_turn B Q (a := some (.tup ms)) (c := none) (e := none) (n := n) (h := h) hM (dm x hx) with ⟨g, e⟩ | ⟨g, e⟩
      · exact .inl ⟨g, _, e, some x, rfl⟩
      · exact .inr ⟨g, e⟩) ⟨none, rfl⟩
  refine (ss_nx s1).trans ?_
  rcases lp with ⟨all, σ', e1, x, rfl⟩ | ⟨all, e1⟩
  rotate_left
  · have mb : movesB n (.tup ms) = false := by simp only [movesB, all, Bool.false_and]
    rw [mb]
    exact ss_rt (by rw [evS, i_it rfl (show seqOf (.tup ms) = some ms from rfl)]; exact e1)
  refine (ss_nx (by rw [evS, i_it rfl (show seqOf (.tup ms) = some ms from rfl)]; exact e1)).trans ?_
  have sh := fun m hm => move_shape (List.all_eq_true.mp all m hm)
  have c1 : evE cl (.comp [3, 4] (.cmp .Lt (.idx (.var 3) (.con (.int (0)))) (.idx (.var 4) (.con (.int (0))))) (.t (.cons (.v 3) (.cons (.v 4) .nil))) (.zip (.cons (.var 0) (.cons (.slc (.var 0) (.con (.int (1))) (.con .non)) .nil))) (.con (.bl true))) [some (.tup ms), some (.int n), x, none, none] h = .ok (.lst ((adj ms).map fun p => .bl (decide (fst_ p.1 < fst_ p.2)))) h := by
    have sl : slcV (.tup ms) (some 1) none = some (.tup (ms.drop 1)) := by show some (PV.tup (cut _ _ _)) = _; rw [cut_tail]
    have zp : zipV [.tup ms, .tup (ms.drop 1)] = some ((adj ms).map fun p => .tup [p.1, p.2]) := by
      have := zip_adj (fun x : PV => x) ms
      simp only [List.map_id'] at this
      show some (zip2 _ _) = _
      rw [this]
    refine comp_run (h1 := h) (xs := (adj ms).map fun p => .tup [p.1, p.2]) (by simp only [evS, evE, evSs, evEs, evI, List.map_cons, List.map_nil, List.cons_append, List.nil_append, List.replicate_succ, List.replicate_zero, getS_0, getS_s, List.set_cons_zero, List.set_cons_succ, wipe_nil, wipe_cons, setT_v, setT_t, setTs_nil, setTs_cons, setAll, Option.bind_some, Out.of_some, Out.bind_ok, Nat.reduceSub, partV, sl, zp]) ?_ (by rw [List.length_map]; have := adj_len ms; omega)
    rw [each_map (g := fun p => [.bl (decide (fst_ p.1 < fst_ p.2))])]
    · rw [flatMap_one]
    · intro p hp
      obtain ⟨m1, m2⟩ := adj_mem hp
      obtain ⟨i, q, e, _, f, _⟩ := sh p.1 m1
      obtain ⟨j, r, e', _, f', _⟩ := sh p.2 m2
      rw [f, f', e, e']
      have i0 : idxV h (.tup [.int i, q]) (.int 0) = some (.int i) := rfl
      have j0 : idxV h (.tup [.int j, r]) (.int 0) = some (.int j) := rfl
      have c : cmpV .Lt (.int i) (.int j) = some (decide (i < j)) := rfl
      unfold compF
      simp only [evS, evE, evSs, evEs, evI, List.map_cons, List.map_nil, List.cons_append, List.nil_append, List.replicate_succ, List.replicate_zero, getS_0, getS_s, List.set_cons_zero, List.set_cons_succ, wipe_nil, wipe_cons, setT_v, setT_t, setTs_nil, setTs_cons, setAll, Option.bind_some, Out.of_some, Out.bind_ok, Nat.reduceSub, i0, j0, c]
  have al : biV h .all [.lst ((adj ms).map fun p => .bl (decide (fst_ p.1 < fst_ p.2)))] = some (.bl (ascA ms)) := by
    have e : (adj ms).map (fun p => PV.bl (decide (fst_ p.1 < fst_ p.2))) = ((adj ms).map fun p => decide (fst_ p.1 < fst_ p.2)).map .bl := by rw [List.map_map]; rfl
    show (boolsOf _).map _ = _
    rw [e, boolsOf_map]
    simp only [Option.map_some, List.all_map, ascA]
    rfl
  have c2 : evE cl (.not (.bi .all (.cons (.comp [3, 4] (.cmp .Lt (.idx (.var 3) (.con (.int (0)))) (.idx (.var 4) (.con (.int (0))))) (.t (.cons (.v 3) (.cons (.v 4) .nil))) (.zip (.cons (.var 0) (.cons (.slc (.var 0) (.con (.int (1))) (.con .non)) .nil))) (.con (.bl true))) .nil))) [some (.tup ms), some (.int n), x, none, none] h = .ok (.bl (!ascA ms)) h := by
    rw [evE, e_bi1 c1 al]; rfl
  cases as : ascA ms with
  | false =>
    have mb : movesB n (.tup ms) = false := by simp only [movesB, as, Bool.false_and, Bool.and_false]
    rw [mb]
    rw [as] at c2
    exact ss_rt ((s_iff c2).trans (ss_rt rfl))
  | true =>
    rw [as] at c2
    refine (ss_nx ((s_iff c2).trans rfl)).trans (ss_rt ?_)
    have lms : (ms.length : Int) ≤ n - 1 - (-1) := ascF_len n ms (-1) (by rw [asc_m1 all]; exact as) (fun m hm => by obtain ⟨i, q, _, _, e, _, _, h1⟩ := sh m hm; omega) (by omega)
    have fr : ∀ q ∈ ms.map snd_, FR q := fun q hq => by
      obtain ⟨m, hm, rfl⟩ := List.mem_map.mp hq
      obtain ⟨i, q, e, f, _, e2, _, _⟩ := sh m hm
      have := dm m hm
      rw [e] at this
      obtain ⟨k, rfl, _, dq⟩ := dat_pair this
      rw [e2]
      exact fr_of_dat hM dq f
    have c3 : evE cl (.comp [2] (.idx (.var 2) (.con (.int (1)))) (.v 2) (.it (.var 0)) (.con (.bl true))) [some (.tup ms), some (.int n), x, none, none] h = .ok (.lst (ms.map snd_)) h := by
      refine comp_run (h1 := h) (xs := ms) (i_it rfl rfl) ?_ (by rw [List.length_map]; omega)
      rw [each_id (g := fun m => [snd_ m])]
      · rw [flatMap_one]
      · intro m hm
        obtain ⟨i, q, e, _, _, e2, _⟩ := sh m hm
        rw [e2, e]
        have i1 : idxV h (.tup [.int i, q]) (.int 1) = some q := rfl
        unfold compF
        simp only [evS, evE, evSs, evEs, evI, List.map_cons, List.map_nil, List.cons_append, List.nil_append, List.replicate_succ, List.replicate_zero, getS_0, getS_s, List.set_cons_zero, List.set_cons_succ, wipe_nil, wipe_cons, setT_v, setT_t, setTs_nil, setTs_cons, setAll, Option.bind_some, Out.of_some, Out.bind_ok, Nat.reduceSub, i1]
    have fbk : ∀ (qs : List PV) (k : Nat) (t : PV), FB k t → (∀ q ∈ qs, FR q) → FB (k + qs.length) (qs.foldl addV t) := fun qs => by
      induction qs with
      | nil => intro k t ht _; exact ht
      | cons q qs ih =>
        intro k t ht hq
        have := ih (k + 1) (addV t q) (fb_add ht (hq q List.mem_cons_self)) fun p hp => hq p (List.mem_cons_of_mem _ hp)
        rw [List.foldl_cons, List.length_cons]
        exact fb_mono this (by omega)
    have mb : movesB n (.tup ms) = eqv ((ms.map snd_).foldl addV zeroV) oneV := by simp only [movesB, all, as, Bool.true_and]
    rw [mb]
    exact s_ret (e_cmp (e_call1 c3 (A (ms.map snd_) h (by rw [List.length_map]; omega) fr)) rfl (fb_eq (fbk _ _ _ fb_zero fr)).1)
/-! #### a work, by the program -/
def stB (n : Int) : PV → Bool
  | .tup [p, m] => fracB p && movesB n m
  | _ => false
def isWorkB : PV → Bool
  | .tup ss => (decide (1 ≤ ss.length) && decide (ss.length ≤ 6)) && ss.all (stB ss.length)
  | _ => false
def st1 : PV → Bool
  | .tup [p, _] => fracB p
  | _ => false
def st2 (n : Int) : PV → Bool
  | .tup [_, m] => movesB n m
  | _ => false
theorem stB_eq (n : Int) (x : PV) : stB n x = (st1 x && st2 n x) := by
  unfold stB st1 st2
  split
  · rfl
  · rfl
theorem all_and {α : Type} (f g : α → Bool) : ∀ xs : List α, (xs.all fun x => f x && g x) = (xs.all f && xs.all g)
  | [] => rfl
  | x :: xs => by
    simp only [List.all_cons, all_and f g xs]
    cases f x <;> cases g x <;> simp
def WorkG (cl : Nat → List PV → Hs → Out PV) (f : Nat) : Prop := ∀ (M d : Nat) (v : PV) (h : Hs), M ≤ Mx → dat M d v = true → nod v ≤ 100000 → cl f [v] h = .ok (.bl (isWorkB v)) h
def MovesG (cl : Nat → List PV → Hs → Out PV) (f : Nat) : Prop := ∀ (M d : Nat) (v : PV) (n : Int) (h : Hs), M ≤ Mx → dat M d v = true → nod v ≤ 100000 → 0 ≤ n → n ≤ 6 → cl f [v, .int n] h = .ok (.bl (movesB n v)) h
/-- the first look at a state, both ways -/
theorem st_look {fq : Nat} (Q : FracG cl fq) {M d : Nat} {x : PV} {h : Hs} {v : Option PV} {tl : Sl} (hM : M ≤ Mx) (hx : dat M d x = true) :
    evE cl (.or (.not (.isin (.var 1) .tuple)) (.or (.cmp .NotEq (.bi .len (.cons (.var 1) .nil)) (.con (.int (2)))) (.not (.call fq (.cons (.idx (.var 1) (.con (.int (0)))) .nil))))) (v :: some x :: tl) h = .ok (.bl (!st1 x)) h := by
  have ty := ty_tup hx
  by_cases t : ∃ xs, x = .tup xs
  · obtain ⟨xs, rfl⟩ := t
    have ty : isTy (.tup xs) .tuple = some true := rfl
    by_cases l : xs.length = 2
    · obtain ⟨a, b, rfl⟩ := pair_of l
      obtain ⟨k, rfl, da, _⟩ := dat_pair hx
      have i0 : idxV h (.tup [a, b]) (.int 0) = some a := rfl
      have ln : biV h .len [.tup [a, b]] = some (.int 2) := rfl
      have c2 : ((2 : Int) == 2) = true := rfl
      have wq := Q M k a h hM da
      simp only [evS, evE, evSs, evEs, evI, List.map_cons, List.map_nil, List.cons_append, List.nil_append, List.replicate_succ, List.replicate_zero, getS_0, getS_s, List.set_cons_zero, List.set_cons_succ, wipe_nil, wipe_cons, setT_v, setT_t, setTs_nil, setTs_cons, setAll, Option.bind_some, Out.of_some, Out.bind_ok, Nat.reduceSub, ty, i0, ln, ne_int, c2, wq, Bool.not_true, st1]
    · have c2 : ((xs.length : Int) == 2) = false := by simp; omega
      have s : st1 (.tup xs) = false := by
        unfold st1
        split
        · rename_i heq
          cases heq
          exact absurd rfl l
        · rfl
      rw [s]
      simp only [evS, evE, evSs, evEs, evI, List.map_cons, List.map_nil, List.cons_append, List.nil_append, List.replicate_succ, List.replicate_zero, getS_0, getS_s, List.set_cons_zero, List.set_cons_succ, wipe_nil, wipe_cons, setT_v, setT_t, setTs_nil, setTs_cons, setAll, Option.bind_some, Out.of_some, Out.bind_ok, Nat.reduceSub, ty, len_tup, ne_int, c2, Bool.not_true, Bool.not_false]
  · have tt : isT x = false := by cases x <;> first | rfl | exact absurd ⟨_, rfl⟩ t
    have s : st1 x = false := by cases x <;> first | rfl | exact absurd ⟨_, rfl⟩ t
    rw [s]
    simp only [evS, evE, evSs, evEs, evI, List.map_cons, List.map_nil, List.cons_append, List.nil_append, List.replicate_succ, List.replicate_zero, getS_0, getS_s, List.set_cons_zero, List.set_cons_succ, wipe_nil, wipe_cons, setT_v, setT_t, setTs_nil, setTs_cons, setAll, Option.bind_some, Out.of_some, Out.bind_ok, Nat.reduceSub, ty, tt, Bool.not_false]
theorem st1_shape {x : PV} (h : st1 x = true) : ∃ p m, x = .tup [p, m] ∧ fracB p = true := by
  unfold st1 at h
  split at h
  · exact ⟨_, _, rfl, h⟩
  · cases h
/-- the look at the whole -/
theorem len_look {M d : Nat} {v : PV} {h : Hs} {tl : Sl} {k : Int} (hv : dat M d v = true) :
    evE cl (.or (.not (.isin (.var 0) .tuple)) (.not (.chain .LtE .LtE (.con (.int (1))) (.bi .len (.cons (.var 0) .nil)) (.con (.int k))))) (some v :: tl) h = .ok (.bl (match v with | .tup ss => !(decide ((1 : Int) ≤ ss.length) && decide ((ss.length : Int) ≤ k)) | _ => true)) h := by
  have ty := ty_tup hv
  by_cases t : ∃ xs, v = .tup xs
  · obtain ⟨xs, rfl⟩ := t
    have ty : isTy (.tup xs) .tuple = some true := rfl
    have c1 : cmpV .LtE (.int 1) (.int (xs.length : Int)) = some (decide ((1 : Int) ≤ xs.length)) := rfl
    have c2 : cmpV .LtE (.int (xs.length : Int)) (.int k) = some (decide ((xs.length : Int) ≤ k)) := rfl
    by_cases q : (1 : Int) ≤ xs.length
    · simp only [evS, evE, evSs, evEs, evI, List.map_cons, List.map_nil, List.cons_append, List.nil_append, List.replicate_succ, List.replicate_zero, getS_0, getS_s, List.set_cons_zero, List.set_cons_succ, wipe_nil, wipe_cons, setT_v, setT_t, setTs_nil, setTs_cons, setAll, Option.bind_some, Out.of_some, Out.bind_ok, Nat.reduceSub, ty, len_tup, c1, c2, decide_eq_true q, Bool.not_true, Bool.true_and]
    · simp only [evS, evE, evSs, evEs, evI, List.map_cons, List.map_nil, List.cons_append, List.nil_append, List.replicate_succ, List.replicate_zero, getS_0, getS_s, List.set_cons_zero, List.set_cons_succ, wipe_nil, wipe_cons, setT_v, setT_t, setTs_nil, setTs_cons, setAll, Option.bind_some, Out.of_some, Out.bind_ok, Nat.reduceSub, ty, len_tup, c1, decide_eq_false q, Bool.not_true, Bool.not_false, Bool.false_and]
  · have tt : isT v = false := by cases v <;> first | rfl | exact absurd ⟨_, rfl⟩ t
    cases v <;> first | exact absurd ⟨_, rfl⟩ t | simp only [evS, evE, evSs, evEs, evI, List.map_cons, List.map_nil, List.cons_append, List.nil_append, List.replicate_succ, List.replicate_zero, getS_0, getS_s, List.set_cons_zero, List.set_cons_succ, wipe_nil, wipe_cons, setT_v, setT_t, setTs_nil, setTs_cons, setAll, Option.bind_some, Out.of_some, Out.bind_ok, Nat.reduceSub, ty, tt, Bool.not_false]
theorem isWorkG_ok {fq im : Nat} (Q : FracG cl fq) (Mo : MovesG cl im) {M d : Nat} {v : PV} {h : Hs} (hM : M ≤ Mx) (hv : dat M d v = true) (nv : nod v ≤ 100000) :
    evD cl ⟨1, 2, pIsWork fq im⟩ [v] h = .ok (.bl (isWorkB v)) h := by
  have lk := len_look (cl := cl) (h := h) (tl := [none]) (k := 6) hv
  refine d_rt rfl ?_
  by_cases t : ∃ ss, v = .tup ss
  rotate_left
  · have : isWorkB v = false := by cases v <;> first | rfl | exact absurd ⟨_, rfl⟩ t
    rw [this]
    have e : evE cl (.or (.not (.isin (.var 0) .tuple)) (.not (.chain .LtE .LtE (.con (.int (1))) (.bi .len (.cons (.var 0) .nil)) (.con (.int 6))))) [some v, none] h = .ok (.bl true) h := by
      cases v <;> first | exact absurd ⟨_, rfl⟩ t | exact lk
    exact ss_rt ((s_iff e).trans (ss_rt rfl))
  obtain ⟨ss, rfl⟩ := t
  obtain ⟨d', dms⟩ : ∃ d', dats M d' ss = true := by
    cases d with
    | zero => simp [dat] at hv
    | succ d' => exact ⟨d', by simpa only [dat] using hv⟩
  have dm := dats_mem.mp dms
  simp only at lk
  by_cases ln : 1 ≤ ss.length ∧ ss.length ≤ 6
  rotate_left
  · have : isWorkB (.tup ss) = false := by
      have : (decide (1 ≤ ss.length) && decide (ss.length ≤ 6)) = false := by
        rw [Bool.and_eq_false_iff, decide_eq_false_iff_not, decide_eq_false_iff_not]; omega
      simp only [isWorkB, this, Bool.false_and]
    rw [this]
    have z : (!(decide ((1 : Int) ≤ ss.length) && decide ((ss.length : Int) ≤ 6))) = true := by
      rw [Bool.not_eq_true', Bool.and_eq_false_iff, decide_eq_false_iff_not, decide_eq_false_iff_not]; omega
    rw [z] at lk
    exact ss_rt ((s_iff lk).trans (ss_rt rfl))
  have z : (!(decide ((1 : Int) ≤ ss.length) && decide ((ss.length : Int) ≤ 6))) = false := by
    rw [Bool.not_eq_false', Bool.and_eq_true, decide_eq_true_eq, decide_eq_true_eq]; omega
  rw [z] at lk
  refine (ss_nx ((s_iff lk).trans rfl)).trans ?_
  have wb : isWorkB (.tup ss) = (ss.all st1 && ss.all (st2 ss.length)) := by
    have : (decide (1 ≤ ss.length) && decide (ss.length ≤ 6)) = true := by rw [decide_eq_true ln.1, decide_eq_true ln.2]; rfl
    simp only [isWorkB, this, Bool.true_and]
    rw [← all_and]
    congr 1
    funext x
    exact stB_eq _ x
  rw [wb]
  have lp := all_step (cl := cl) (t := .v 1) (b := evSs cl (.cons (.iff (.or (.not (.isin (.var 1) .tuple)) (.or (.cmp .NotEq (.bi .len (.cons (.var 1) .nil)) (.con (.int (2)))) (.not (.call fq (.cons (.idx (.var 1) (.con (.int (0)))) .nil))))) (.cons (.ret (.con (.bl false))) .nil) .nil) .nil)) (h := h) st1 (fun σ => ∃ x, σ = [some (.tup ss), x]) ss [some (.tup ss), none]
    (by
      rintro x hx σ ⟨y, rfl⟩
      refine ⟨[some (.tup ss), some x], rfl, ?_⟩
      have lo := st_look Q (v := some (.tup ss)) (tl := []) (h := h) hM (dm x hx)
      cases q : st1 x with
      | true =>
        rw [q] at lo
        exact .inl ⟨rfl, _, (ss_nx ((s_iff lo).trans rfl)).trans rfl, some x, rfl⟩
      | false =>
        rw [q] at lo
        exact .inr ⟨rfl, ss_rt ((s_iff lo).trans (ss_rt rfl))⟩) ⟨none, rfl⟩
  rcases lp with ⟨all, σ', e1, x, rfl⟩ | ⟨all, e1⟩
  rotate_left
  · rw [all]
    exact ss_rt (by rw [evS, i_it rfl (show seqOf (.tup ss) = some ss from rfl)]; exact e1)
  rw [all, Bool.true_and]
  refine (ss_nx (by rw [evS, i_it rfl (show seqOf (.tup ss) = some ss from rfl)]; exact e1)).trans (ss_rt ?_)
  have c1 : evE cl (.comp [1] (.call im (.cons (.idx (.var 1) (.con (.int (1)))) (.cons (.bi .len (.cons (.var 0) .nil)) .nil))) (.v 1) (.it (.var 0)) (.con (.bl true))) [some (.tup ss), x] h = .ok (.lst (ss.map fun s => .bl (st2 ss.length s))) h := by
    refine comp_run (h1 := h) (xs := ss) (i_it rfl rfl) ?_ (by rw [List.length_map]; omega)
    rw [each_id (g := fun s => [.bl (st2 ss.length s)])]
    · rw [flatMap_one]
    · intro s hs
      obtain ⟨p, m, rfl, _⟩ := st1_shape (List.all_eq_true.mp all s hs)
      obtain ⟨k, rfl, _, d2⟩ := dat_pair (dm _ hs)
      have nm : nod m ≤ 100000 := by
        have a := nods_mem hs
        simp only [nod, nods] at a nv
        omega
      have i1 : idxV h (.tup [p, m]) (.int 1) = some m := rfl
      unfold compF
      simp only [evS, evE, evSs, evEs, evI, List.map_cons, List.map_nil, List.cons_append, List.nil_append, List.replicate_succ, List.replicate_zero, getS_0, getS_s, List.set_cons_zero, List.set_cons_succ, wipe_nil, wipe_cons, setT_v, setT_t, setTs_nil, setTs_cons, setAll, Option.bind_some, Out.of_some, Out.bind_ok, Nat.reduceSub, i1, len_tup, Mo M k m ss.length h hM d2 nm (by omega) (by omega)]
      rfl
  have al : biV h .all [.lst (ss.map fun s => .bl (st2 ss.length s))] = some (.bl (ss.all (st2 ss.length))) := by
    have e : ss.map (fun s => PV.bl (st2 ss.length s)) = (ss.map (st2 ss.length)).map .bl := by rw [List.map_map]; rfl
    show (boolsOf _).map _ = _
    rw [e, boolsOf_map]
    simp only [Option.map_some, List.all_map]
    rfl
  exact s_ret (e_bi1 c1 al)
/-! #### a work, by the law -/
def bLMv (wh fq ad : Nat) : Ss := (.cons (.iff (.or (.not (.isin (.var 2) .tuple)) (.or (.cmp .NotEq (.bi .len (.cons (.var 2) .nil)) (.con (.int (2)))) (.or (.not (.call wh (.cons (.idx (.var 2) (.con (.int (0)))) .nil))) (.not (.call fq (.cons (.idx (.var 2) (.con (.int (1)))) .nil)))))) (.cons (.ret (.con (.bl false))) .nil) .nil) (.cons (.iff (.or (.not (.chain .Lt .Lt (.var 4) (.idx (.var 2) (.con (.int (0)))) (.bi .len (.cons (.var 0) .nil)))) (.cmp .Lt (.idx (.idx (.var 2) (.con (.int (1)))) (.con (.int (0)))) (.con (.int (1))))) (.cons (.ret (.con (.bl false))) .nil) .nil) (.cons (.par [3, 4] (.cons (.call ad (.cons (.var 3) (.cons (.idx (.var 2) (.con (.int (1)))) .nil))) (.cons (.idx (.var 2) (.con (.int (0)))) .nil))) .nil)))
def bLSt (wh fq ad : Nat) : Ss := (.cons (.iff (.or (.not (.isin (.var 1) .tuple)) (.or (.cmp .NotEq (.bi .len (.cons (.var 1) .nil)) (.con (.int (2)))) (.not (.call fq (.cons (.idx (.var 1) (.con (.int (0)))) .nil))))) (.cons (.ret (.con (.bl false))) .nil) .nil) (.cons (.iff (.not (.isin (.idx (.var 1) (.con (.int (1)))) .tuple)) (.cons (.ret (.con (.bl false))) .nil) .nil) (.cons (.asg (.t (.cons (.v 3) (.cons (.v 4) .nil))) (.tup (.cons (.tup (.cons (.con (.int (0))) (.cons (.con (.int (1))) .nil))) (.cons (.neg (.con (.int (1)))) .nil)))) (.cons (.forr [] (.v 2) (.it (.idx (.var 1) (.con (.int (1))))) (bLMv wh fq ad)) (.cons (.iff (.cmp .NotEq (.var 3) (.tup (.cons (.con (.int (1))) (.cons (.con (.int (1))) .nil)))) (.cons (.ret (.con (.bl false))) .nil) .nil) .nil)))))
def pLIsWork (wh fq ad : Nat) : Ss := (.cons (.iff (.or (.not (.isin (.var 0) .tuple)) (.not (.chain .LtE .LtE (.con (.int (1))) (.bi .len (.cons (.var 0) .nil)) (.con (.int (6)))))) (.cons (.ret (.con (.bl false))) .nil) .nil) (.cons (.forr [] (.v 1) (.it (.var 0)) (bLSt wh fq ad)) (.cons (.ret (.con (.bl true))) .nil)))
theorem lmoves {wh fq ad : Nat} (I : WholeC cl wh) (Q : FracG cl fq) (A : AddG cl ad) {M d : Nat} {ss : List PV} {s : Option PV} {h : Hs} (hM : M ≤ Mx) (ln : ss.length ≤ 6) : ∀ (ms : List PV) (last : Int) (t : PV) (y : Option PV), -1 ≤ last → last < ss.length → FB (last + 2).toNat t → (∀ m ∈ ms, dat M d m = true) →
    (∃ u y' last', lrun ss.length last t ms = some u ∧ forL (.v 2) (evSs cl (bLMv wh fq ad)) ms [some (.tup ss), s, y, some t, some (.int last)] h = .ok (.nx [some (.tup ss), s, y', some u, some (.int last')]) h ∧ FB 8 u) ∨
    (lrun ss.length last t ms = none ∧ forL (.v 2) (evSs cl (bLMv wh fq ad)) ms [some (.tup ss), s, y, some t, some (.int last)] h = .ok (.rt (.bl false)) h)
  | [], last, t, y, l0, l1, fb, _ => .inl ⟨t, y, last, rfl, rfl, fb_mono fb (by omega)⟩
  | m :: r, last, t, y, l0, l1, fb, dm => by
    have hx := dm m List.mem_cons_self
    have ty := ty_tup hx
    have bad : lrun ss.length last t (m :: r) = none → evSs cl (bLMv wh fq ad) [some (.tup ss), s, some m, some t, some (.int last)] h = .ok (.rt (.bl false)) h →
        lrun ss.length last t (m :: r) = none ∧ forL (.v 2) (evSs cl (bLMv wh fq ad)) (m :: r) [some (.tup ss), s, y, some t, some (.int last)] h = .ok (.rt (.bl false)) h := fun e1 e2 => ⟨e1, by
      rw [forL]
      show (Out.of (some [some (.tup ss), s, some m, some t, some (.int last)]) h).bind _ = _
      rw [Out.of_some, Out.bind_ok, e2, Out.bind_ok]⟩
    by_cases tt : ∃ xs, m = .tup xs
    rotate_left
    · have k : isT m = false := by cases m <;> first | rfl | exact absurd ⟨_, rfl⟩ tt
      have k2 : mvP m = none := by cases m <;> first | rfl | exact absurd ⟨_, rfl⟩ tt
      refine .inr (bad (by simp only [lrun, k2]) ?_)
      unfold bLMv
      simp only [evS, evE, evSs, evEs, evI, List.map_cons, List.map_nil, List.cons_append, List.nil_append, List.replicate_succ, List.replicate_zero, getS_0, getS_s, List.set_cons_zero, List.set_cons_succ, wipe_nil, wipe_cons, setT_v, setT_t, setTs_nil, setTs_cons, setAll, Option.bind_some, Out.of_some, Out.bind_ok, Nat.reduceSub, ty, k, Bool.not_false]
    obtain ⟨xs, rfl⟩ := tt
    have ty : isTy (.tup xs) .tuple = some true := rfl
    by_cases l : xs.length = 2
    rotate_left
    · have c2 : ((xs.length : Int) == 2) = false := by simp; omega
      have k2 : mvP (.tup xs) = none := by
        unfold mvP
        split
        · rename_i heq
          cases heq
          exact absurd rfl l
        · rfl
      refine .inr (bad (by simp only [lrun, k2]) ?_)
      unfold bLMv
      simp only [evS, evE, evSs, evEs, evI, List.map_cons, List.map_nil, List.cons_append, List.nil_append, List.replicate_succ, List.replicate_zero, getS_0, getS_s, List.set_cons_zero, List.set_cons_succ, wipe_nil, wipe_cons, setT_v, setT_t, setTs_nil, setTs_cons, setAll, Option.bind_some, Out.of_some, Out.bind_ok, Nat.reduceSub, ty, len_tup, ne_int, c2, Bool.not_true, Bool.not_false]
    obtain ⟨a, q, rfl⟩ := pair_of l
    obtain ⟨k, rfl, da, dq⟩ := dat_pair hx
    have i0 : idxV h (.tup [a, q]) (.int 0) = some a := rfl
    have i1 : idxV h (.tup [a, q]) (.int 1) = some q := rfl
    have ln2 : biV h .len [.tup [a, q]] = some (.int 2) := rfl
    have c2 : ((2 : Int) == 2) = true := rfl
    have wa := I M k a h da
    have wq := Q M k q h hM dq
    by_cases ia : ∃ i, a = .int i
    rotate_left
    · have k1 : isI a = false := by cases a <;> first | rfl | exact absurd ⟨_, rfl⟩ ia
      have k2 : mvP (.tup [a, q]) = none := by rw [mvP_of]; cases a <;> first | rfl | exact absurd ⟨_, rfl⟩ ia
      refine .inr (bad (by simp only [lrun, k2]) ?_)
      unfold bLMv
      simp only [evS, evE, evSs, evEs, evI, List.map_cons, List.map_nil, List.cons_append, List.nil_append, List.replicate_succ, List.replicate_zero, getS_0, getS_s, List.set_cons_zero, List.set_cons_succ, wipe_nil, wipe_cons, setT_v, setT_t, setTs_nil, setTs_cons, setAll, Option.bind_some, Out.of_some, Out.bind_ok, Nat.reduceSub, ty, i0, ln2, ne_int, c2, wa, k1, Bool.not_true, Bool.not_false]
    obtain ⟨i, rfl⟩ := ia
    have ti : isI (.int i) = true := rfl
    cases ff : fracB q with
    | false =>
      have k2 : mvP (.tup [.int i, q]) = none := by rw [mvP_of]; simp [ff]
      refine .inr (bad (by simp only [lrun, k2]) ?_)
      unfold bLMv
      simp only [evS, evE, evSs, evEs, evI, List.map_cons, List.map_nil, List.cons_append, List.nil_append, List.replicate_succ, List.replicate_zero, getS_0, getS_s, List.set_cons_zero, List.set_cons_succ, wipe_nil, wipe_cons, setT_v, setT_t, setTs_nil, setTs_cons, setAll, Option.bind_some, Out.of_some, Out.bind_ok, Nat.reduceSub, ty, i0, i1, ln2, ne_int, c2, wa, ti, wq, ff, Bool.not_true, Bool.not_false]
    | true =>
      have k2 : mvP (.tup [.int i, q]) = some (i, q) := by rw [mvP_of]; simp [ff]
      have frq := fr_of_dat hM dq ff
      obtain ⟨p, dd, rfl, _⟩ := id frq
      have i2 : idxV h (.tup [.int p, .int dd]) (.int 0) = some (.int p) := rfl
      have lss : biV h .len [.tup ss] = some (.int (ss.length : Int)) := rfl
      have lt1 : cmpV .Lt (.int last) (.int i) = some (decide (last < i)) := rfl
      have lt2 : cmpV .Lt (.int i) (.int (ss.length : Int)) = some (decide (i < ss.length)) := rfl
      have lt3 : cmpV .Lt (.int p) (.int 1) = some (decide (p < 1)) := rfl
      by_cases g1 : last < i
      rotate_left
      · refine .inr (bad (by simp only [lrun, k2, decide_eq_false g1, Bool.false_and, Bool.false_eq_true, if_false]) ?_)
        unfold bLMv
        simp only [evS, evE, evSs, evEs, evI, List.map_cons, List.map_nil, List.cons_append, List.nil_append, List.replicate_succ, List.replicate_zero, getS_0, getS_s, List.set_cons_zero, List.set_cons_succ, wipe_nil, wipe_cons, setT_v, setT_t, setTs_nil, setTs_cons, setAll, Option.bind_some, Out.of_some, Out.bind_ok, Nat.reduceSub, ty, i0, i1, ln2, ne_int, c2, wa, ti, wq, ff, lt1, decide_eq_false g1, Bool.not_true, Bool.not_false]
      by_cases g2 : i < (ss.length : Int)
      rotate_left
      · refine .inr (bad (by simp only [lrun, k2, decide_eq_false g2, Bool.false_and, Bool.and_false, Bool.false_eq_true, if_false]) ?_)
        unfold bLMv
        simp only [evS, evE, evSs, evEs, evI, List.map_cons, List.map_nil, List.cons_append, List.nil_append, List.replicate_succ, List.replicate_zero, getS_0, getS_s, List.set_cons_zero, List.set_cons_succ, wipe_nil, wipe_cons, setT_v, setT_t, setTs_nil, setTs_cons, setAll, Option.bind_some, Out.of_some, Out.bind_ok, Nat.reduceSub, ty, i0, i1, ln2, ne_int, c2, wa, ti, wq, ff, lt1, lt2, lss, decide_eq_true g1, decide_eq_false g2, Bool.not_true, Bool.not_false]
      by_cases g3 : p < 1
      · have tb : topB (.tup [.int p, .int dd]) = false := by rw [topB_of]; exact decide_eq_false (by omega)
        refine .inr (bad (by simp only [lrun, k2, tb, Bool.and_false, Bool.false_eq_true, if_false]) ?_)
        unfold bLMv
        simp only [evS, evE, evSs, evEs, evI, List.map_cons, List.map_nil, List.cons_append, List.nil_append, List.replicate_succ, List.replicate_zero, getS_0, getS_s, List.set_cons_zero, List.set_cons_succ, wipe_nil, wipe_cons, setT_v, setT_t, setTs_nil, setTs_cons, setAll, Option.bind_some, Out.of_some, Out.bind_ok, Nat.reduceSub, ty, i0, i1, i2, ln2, ne_int, c2, wa, ti, wq, ff, lt1, lt2, lt3, lss, decide_eq_true g1, decide_eq_true g2, decide_eq_true g3, Bool.not_true]
      · have tb : topB (.tup [.int p, .int dd]) = true := by rw [topB_of]; exact decide_eq_true (by omega)
        have ad1 := A (last + 2).toNat t _ h (by omega) fb (fb_frac (by omega) frq)
        have nxt : evSs cl (bLMv wh fq ad) [some (.tup ss), s, some (.tup [.int i, .tup [.int p, .int dd]]), some t, some (.int last)] h = .ok (.nx [some (.tup ss), s, some (.tup [.int i, .tup [.int p, .int dd]]), some (addV t (.tup [.int p, .int dd])), some (.int i)]) h := by
          unfold bLMv
          simp only [evS, evE, evSs, evEs, evI, List.map_cons, List.map_nil, List.cons_append, List.nil_append, List.replicate_succ, List.replicate_zero, getS_0, getS_s, List.set_cons_zero, List.set_cons_succ, wipe_nil, wipe_cons, setT_v, setT_t, setTs_nil, setTs_cons, setAll, Option.bind_some, Out.of_some, Out.bind_ok, Nat.reduceSub, ty, i0, i1, i2, ln2, ne_int, c2, wa, ti, wq, ff, lt1, lt2, lt3, lss, decide_eq_true g1, decide_eq_true g2, decide_eq_false g3, Bool.not_true, ad1]
        have lr : lrun ss.length last t (.tup [.int i, .tup [.int p, .int dd]] :: r) = lrun ss.length i (addV t (.tup [.int p, .int dd])) r := by
          simp only [lrun, k2, tb, decide_eq_true g1, decide_eq_true g2, Bool.and_self, if_true]
        have fo : ∀ {R : Out Fl}, forL (.v 2) (evSs cl (bLMv wh fq ad)) r [some (.tup ss), s, some (.tup [.int i, .tup [.int p, .int dd]]), some (addV t (.tup [.int p, .int dd])), some (.int i)] h = R → forL (.v 2) (evSs cl (bLMv wh fq ad)) (.tup [.int i, .tup [.int p, .int dd]] :: r) [some (.tup ss), s, y, some t, some (.int last)] h = R := fun e => by
          rw [forL]
          show (Out.of (some [some (.tup ss), s, some (.tup [.int i, .tup [.int p, .int dd]]), some t, some (.int last)]) h).bind _ = _
          rw [Out.of_some, Out.bind_ok, nxt, Out.bind_ok]
          exact e
        rw [lr]
        rcases lmoves I Q A hM ln r i (addV t (.tup [.int p, .int dd])) (some (.tup [.int i, .tup [.int p, .int dd]])) (by omega) g2 (fb_mono (fb_add fb frq) (by omega)) (fun z hz => dm z (List.mem_cons_of_mem _ hz)) with ⟨u, y', l', e1, e2, f⟩ | ⟨e1, e2⟩
        · exact .inl ⟨u, y', l', e1, fo e2, f⟩
        · exact .inr ⟨e1, fo e2⟩
theorem lisWork_ok {wh fq ad : Nat} (I : WholeC cl wh) (Q : FracG cl fq) (A : AddG cl ad) {M d : Nat} {v : PV} {h : Hs} (hM : M ≤ Mx) (hv : dat M d v = true) :
    evD cl ⟨1, 5, pLIsWork wh fq ad⟩ [v] h = .ok (.bl (isWorkB v)) h := by
  have lk := len_look (cl := cl) (h := h) (tl := [none, none, none, none]) (k := 6) hv
  refine d_rt rfl ?_
  by_cases t : ∃ ss, v = .tup ss
  rotate_left
  · have : isWorkB v = false := by cases v <;> first | rfl | exact absurd ⟨_, rfl⟩ t
    rw [this]
    have e : evE cl (.or (.not (.isin (.var 0) .tuple)) (.not (.chain .LtE .LtE (.con (.int (1))) (.bi .len (.cons (.var 0) .nil)) (.con (.int 6))))) [some v, none, none, none, none] h = .ok (.bl true) h := by
      cases v <;> first | exact absurd ⟨_, rfl⟩ t | exact lk
    exact ss_rt ((s_iff e).trans (ss_rt rfl))
  obtain ⟨ss, rfl⟩ := t
  obtain ⟨d', dms⟩ : ∃ d', dats M d' ss = true := by
    cases d with
    | zero => simp [dat] at hv
    | succ d' => exact ⟨d', by simpa only [dat] using hv⟩
  have dm := dats_mem.mp dms
  simp only at lk
  by_cases ln : 1 ≤ ss.length ∧ ss.length ≤ 6
  rotate_left
  · have : isWorkB (.tup ss) = false := by
      have : (decide (1 ≤ ss.length) && decide (ss.length ≤ 6)) = false := by
        rw [Bool.and_eq_false_iff, decide_eq_false_iff_not, decide_eq_false_iff_not]; omega
      simp only [isWorkB, this, Bool.false_and]
    rw [this]
    have z : (!(decide ((1 : Int) ≤ ss.length) && decide ((ss.length : Int) ≤ 6))) = true := by
      rw [Bool.not_eq_true', Bool.and_eq_false_iff, decide_eq_false_iff_not, decide_eq_false_iff_not]; omega
    rw [z] at lk
    exact ss_rt ((s_iff lk).trans (ss_rt rfl))
  have z : (!(decide ((1 : Int) ≤ ss.length) && decide ((ss.length : Int) ≤ 6))) = false := by
    rw [Bool.not_eq_false', Bool.and_eq_true, decide_eq_true_eq, decide_eq_true_eq]; omega
  rw [z] at lk
  refine (ss_nx ((s_iff lk).trans rfl)).trans ?_
  have wb : isWorkB (.tup ss) = ss.all (stB ss.length) := by
    have : (decide (1 ≤ ss.length) && decide (ss.length ≤ 6)) = true := by rw [decide_eq_true ln.1, decide_eq_true ln.2]; rfl
    simp only [isWorkB, this, Bool.true_and]
  rw [wb]
  have lp := all_step (cl := cl) (t := .v 1) (b := evSs cl (bLSt wh fq ad)) (h := h) (stB ss.length) (fun σ => ∃ a b c e, σ = [some (.tup ss), a, b, c, e]) ss [some (.tup ss), none, none, none, none]
    (by
      rintro x hx σ ⟨a, b, c, e, rfl⟩
      refine ⟨[some (.tup ss), some x, b, c, e], rfl, ?_⟩
      have lo := st_look Q (v := some (.tup ss)) (tl := [b, c, e]) (h := h) hM (dm x hx)
      cases q : st1 x with
      | false =>
        rw [q] at lo
        exact .inr ⟨by rw [stB_eq, q]; rfl, ss_rt ((s_iff lo).trans (ss_rt rfl))⟩
      | true =>
        rw [q] at lo
        obtain ⟨p, m, rfl, f⟩ := st1_shape q
        obtain ⟨k, ek, dp, dmm⟩ := dat_pair (dm _ hx)
        have sb : stB ss.length (.tup [p, m]) = movesB ss.length m := by rw [stB_eq, q]; rfl
        rw [sb]
        have n1 := (ss_nx (ss := (match bLSt wh fq ad with | .cons _ r => r | _ => .nil)) ((s_iff (a := (.cons (.ret (.con (.bl false))) .nil)) (b := .nil) lo).trans rfl))
        have i1 : idxV h (.tup [p, m]) (.int 1) = some m := rfl
        have ty := ty_tup dmm
        by_cases tm : ∃ ms, m = .tup ms
        rotate_left
        · have k1 : isT m = false := by cases m <;> first | rfl | exact absurd ⟨_, rfl⟩ tm
          have k2 : movesB ss.length m = false := by cases m <;> first | rfl | exact absurd ⟨_, rfl⟩ tm
          exact .inr ⟨k2, n1.trans (ss_rt (by simp only [evS, evE, evSs, evEs, evI, List.map_cons, List.map_nil, List.cons_append, List.nil_append, List.replicate_succ, List.replicate_zero, getS_0, getS_s, List.set_cons_zero, List.set_cons_succ, wipe_nil, wipe_cons, setT_v, setT_t, setTs_nil, setTs_cons, setAll, Option.bind_some, Out.of_some, Out.bind_ok, Nat.reduceSub, i1, ty, k1, Bool.not_false]))⟩
        · obtain ⟨ms, rfl⟩ := tm
          have ty : isTy (.tup ms) .tuple = some true := rfl
          obtain ⟨d2, dms2⟩ : ∃ d2, dats M d2 ms = true := by
            cases k with
            | zero => simp [dat] at dmm
            | succ d2 => exact ⟨d2, by simpa only [dat] using dmm⟩
          have n2 : evS cl (.iff (.not (.isin (.idx (.var 1) (.con (.int (1)))) .tuple)) (.cons (.ret (.con (.bl false))) .nil) .nil) [some (.tup ss), some (.tup [p, .tup ms]), b, c, e] h = .ok (.nx [some (.tup ss), some (.tup [p, .tup ms]), b, c, e]) h := by
            simp only [evS, evE, evSs, evEs, evI, List.map_cons, List.map_nil, List.cons_append, List.nil_append, List.replicate_succ, List.replicate_zero, getS_0, getS_s, List.set_cons_zero, List.set_cons_succ, wipe_nil, wipe_cons, setT_v, setT_t, setTs_nil, setTs_cons, setAll, Option.bind_some, Out.of_some, Out.bind_ok, Nat.reduceSub, i1, ty, Bool.not_true]
          have n3 : evS cl (.asg (.t (.cons (.v 3) (.cons (.v 4) .nil))) (.tup (.cons (.tup (.cons (.con (.int (0))) (.cons (.con (.int (1))) .nil))) (.cons (.neg (.con (.int (1)))) .nil)))) [some (.tup ss), some (.tup [p, .tup ms]), b, c, e] h = .ok (.nx [some (.tup ss), some (.tup [p, .tup ms]), b, some zeroV, some (.int (-1))]) h := rfl
          have it : evI cl (.it (.idx (.var 1) (.con (.int (1))))) [some (.tup ss), some (.tup [p, .tup ms]), b, some zeroV, some (.int (-1))] h = .ok ms h := by simp only [evS, evE, evSs, evEs, evI, List.map_cons, List.map_nil, List.cons_append, List.nil_append, List.replicate_succ, List.replicate_zero, getS_0, getS_s, List.set_cons_zero, List.set_cons_succ, wipe_nil, wipe_cons, setT_v, setT_t, setTs_nil, setTs_cons, setAll, Option.bind_some, Out.of_some, Out.bind_ok, Nat.reduceSub, i1, seqOf]
          have ml := moves_law ss.length ms
          rcases lmoves I Q A (s := some (.tup [p, .tup ms])) (h := h) (ss := ss) hM ln.2 ms (-1) zeroV b (by omega) (by omega) (show FB (-1 + 2 : Int).toNat zeroV from fb_zero) (dats_mem.mp dms2) with ⟨u, y', l', e1, e2, fu⟩ | ⟨e1, e2⟩
          · rw [e1] at ml
            simp only at ml
            have n4 := s_iff (cl := cl) (σ := [some (.tup ss), some (.tup [p, .tup ms]), y', some u, some (.int l')]) (h := h) (a := (.cons (.ret (.con (.bl false))) .nil)) (b := .nil) (e_cmp (a := .var 3) (b := (.tup (.cons (.con (.int (1))) (.cons (.con (.int (1))) .nil)))) rfl rfl (fb_eq fu).2)
            rw [ml] at n4
            cases mb : movesB ss.length (.tup ms) with
            | true =>
              rw [mb] at n4
              exact .inl ⟨rfl, _, n1.trans ((ss_nx n2).trans ((ss_nx n3).trans ((ss_nx (by rw [evS, it]; exact e2)).trans ((ss_nx n4).trans rfl)))), _, _, _, _, rfl⟩
            | false =>
              rw [mb] at n4
              exact .inr ⟨rfl, n1.trans ((ss_nx n2).trans ((ss_nx n3).trans ((ss_nx (by rw [evS, it]; exact e2)).trans (ss_rt (n4.trans (ss_rt rfl))))))⟩
          · rw [e1] at ml
            simp only at ml
            exact .inr ⟨ml.symm, n1.trans ((ss_nx n2).trans ((ss_nx n3).trans (ss_rt (by rw [evS, it]; exact e2))))⟩) ⟨_, _, _, _, rfl⟩
  rcases lp with ⟨all, σ', e1, a, b, c, e, rfl⟩ | ⟨all, e1⟩
  · rw [all]
    exact (ss_nx (by rw [evS, i_it rfl (show seqOf (.tup ss) = some ss from rfl)]; exact e1)).trans (ss_rt rfl)
  · rw [all]
    exact ss_rt (by rw [evS, i_it rfl (show seqOf (.tup ss) = some ss from rfl)]; exact e1)
end
end MP

set_option Elab.async false
set_option linter.all false
set_option maxRecDepth 100000
set_option exponentiation.threshold 100
namespace MP
open PySem

/-! ### plain law: companies -/
def lenP : PV → Nat
  | .tup xs => xs.length
  | _ => 0
def prodP (m : Int) : List PV → Int
  | [] => m
  | w :: ws => prodP (m * lenP w) ws
def companyB : PV → Bool
  | .tup ws => (decide ((1 : Int) ≤ ws.length) && decide ((ws.length : Int) ≤ 3)) && (ws.all isWorkB && decide (prodP 1 ws ≤ 12))
  | _ => false
theorem isWorkB_tup {v : PV} (h : isWorkB v = true) : ∃ xs, v = .tup xs ∧ 1 ≤ xs.length ∧ xs.length ≤ 6 := by
  cases v with
  | tup xs =>
    refine ⟨xs, rfl, ?_⟩
    simp only [isWorkB, Bool.and_eq_true, decide_eq_true_eq] at h
    exact h.1
  | _ => cases h
def CompanyG (cl : Nat → List PV → Hs → Out PV) (f : Nat) : Prop := ∀ (M d : Nat) (v : PV) (h : Hs), M ≤ Mx → dat M d v = true → nod v ≤ 100000 → cl f [v] h = .ok (.bl (companyB v)) h
def bProd : Ss := (.cons (.asg (.v 1) (.bin .Mult (.var 1) (.bi .len (.cons (.var 2) .nil)))) .nil)
theorem prod_loop {cl : Nat → List PV → Hs → Out PV} {a : Option PV} {h : Hs} : ∀ (ws : List PV) (m : Int) (k : Nat) (y : Option PV), ws.all isWorkB = true → ws.length + k ≤ 3 → 0 ≤ m → m ≤ 6 ^ k →
    ∃ z, forL (.v 2) (evSs cl bProd) ws [a, some (.int m), y] h = .ok (.nx [a, some (.int (prodP m ws)), z]) h
  | [], m, k, y, _, _, _, _ => ⟨y, rfl⟩
  | w :: ws, m, k, y, al, l, m0, m1 => by
    rw [List.all_cons, Bool.and_eq_true] at al
    obtain ⟨xs, rfl, l1, l6⟩ := isWorkB_tup al.1
    simp only [List.length_cons] at l
    have b6 : (6 : Int) ^ k ≤ 216 := by
      have : k = 0 ∨ k = 1 ∨ k = 2 := by omega
      rcases this with rfl | rfl | rfl <;> decide
    have mu := mul_bd (a := m) (b := (xs.length : Int)) (A := 6 ^ k) (B := 6) m0 m1 (by omega) (by omega)
    obtain ⟨z, e⟩ := prod_loop ws (m * xs.length) (k + 1) (some (.tup xs)) al.2 (by omega) mu.1 (by rw [Int.pow_succ]; exact mu.2)
    refine ⟨z, ?_⟩
    have mo : binV .Mult (.int m) (.int (xs.length : Int)) = some (.int (m * xs.length)) := mul_ok (small_ok (by omega) (by omega)) (small_ok (by omega) (by omega))
    rw [forL]
    show (Out.of (some [a, some (.int m), some (.tup xs)]) h).bind _ = _
    have e1 : evSs cl bProd [a, some (.int m), some (.tup xs)] h = .ok (.nx [a, some (.int (m * xs.length)), some (.tup xs)]) h := by
      unfold bProd
      simp only [evS, evE, evSs, evEs, evI, List.map_cons, List.map_nil, List.cons_append, List.nil_append, List.replicate_succ, List.replicate_zero, getS_0, getS_s, List.set_cons_zero, List.set_cons_succ, wipe_nil, wipe_cons, setT_v, setT_t, setTs_nil, setTs_cons, setAll, Option.bind_some, Out.of_some, Out.bind_ok, Nat.reduceSub, len_tup, mo]
    rw [Out.of_some, Out.bind_ok, e1, Out.bind_ok]
    exact e
section
variable {cl : Nat → List PV → Hs → Out PV}
def pIsCompany (iw : Nat) : Ss := (.cons (.iff (.or (.not (.isin (.var 0) .tuple)) (.or (.not (.chain .LtE .LtE (.con (.int (1))) (.bi .len (.cons (.var 0) .nil)) (.con (.int (3))))) (.not (.bi .all (.cons (.comp [2] (.call iw (.cons (.var 2) .nil)) (.v 2) (.it (.var 0)) (.con (.bl true))) .nil))))) (.cons (.ret (.con (.bl false))) .nil) .nil) (.cons (.asg (.v 1) (.con (.int (1)))) (.cons (.forr [] (.v 2) (.it (.var 0)) bProd) (.cons (.ret (.cmp .LtE (.var 1) (.con (.int (12))))) .nil))))
theorem isCompany_ok {iw : Nat} (W : WorkG cl iw) {M d : Nat} {v : PV} {h : Hs} (hM : M ≤ Mx) (hv : dat M d v = true) (nv : nod v ≤ 100000) :
    evD cl ⟨1, 3, pIsCompany iw⟩ [v] h = .ok (.bl (companyB v)) h := by
  refine d_rt rfl ?_
  have ty := ty_tup hv
  by_cases t : ∃ ws, v = .tup ws
  rotate_left
  · have : companyB v = false := by cases v <;> first | rfl | exact absurd ⟨_, rfl⟩ t
    rw [this]
    have tt : isT v = false := by cases v <;> first | rfl | exact absurd ⟨_, rfl⟩ t
    unfold pIsCompany
    simp only [evS, evE, evSs, evEs, evI, List.map_cons, List.map_nil, List.cons_append, List.nil_append, List.replicate_succ, List.replicate_zero, getS_0, getS_s, List.set_cons_zero, List.set_cons_succ, wipe_nil, wipe_cons, setT_v, setT_t, setTs_nil, setTs_cons, setAll, Option.bind_some, Out.of_some, Out.bind_ok, Nat.reduceSub, ty, tt, Bool.not_false]
  obtain ⟨ws, rfl⟩ := t
  have ty : isTy (.tup ws) .tuple = some true := rfl
  obtain ⟨d', dms⟩ : ∃ d', dats M d' ws = true := by
    cases d with
    | zero => simp [dat] at hv
    | succ d' => exact ⟨d', by simpa only [dat] using hv⟩
  have dm := dats_mem.mp dms
  have c1 : cmpV .LtE (.int 1) (.int (ws.length : Int)) = some (decide ((1 : Int) ≤ ws.length)) := rfl
  have c2 : cmpV .LtE (.int (ws.length : Int)) (.int 3) = some (decide ((ws.length : Int) ≤ 3)) := rfl
  have cb : companyB (.tup ws) = ((decide ((1 : Int) ≤ ws.length) && decide ((ws.length : Int) ≤ 3)) && (ws.all isWorkB && decide (prodP 1 ws ≤ 12))) := rfl
  rw [cb]
  by_cases q1 : (1 : Int) ≤ ws.length
  rotate_left
  · unfold pIsCompany
    simp only [evS, evE, evSs, evEs, evI, List.map_cons, List.map_nil, List.cons_append, List.nil_append, List.replicate_succ, List.replicate_zero, getS_0, getS_s, List.set_cons_zero, List.set_cons_succ, wipe_nil, wipe_cons, setT_v, setT_t, setTs_nil, setTs_cons, setAll, Option.bind_some, Out.of_some, Out.bind_ok, Nat.reduceSub, ty, len_tup, c1, decide_eq_false q1, Bool.not_true, Bool.not_false, Bool.false_and]
  by_cases q2 : (ws.length : Int) ≤ 3
  rotate_left
  · unfold pIsCompany
    simp only [evS, evE, evSs, evEs, evI, List.map_cons, List.map_nil, List.cons_append, List.nil_append, List.replicate_succ, List.replicate_zero, getS_0, getS_s, List.set_cons_zero, List.set_cons_succ, wipe_nil, wipe_cons, setT_v, setT_t, setTs_nil, setTs_cons, setAll, Option.bind_some, Out.of_some, Out.bind_ok, Nat.reduceSub, ty, len_tup, c1, c2, decide_eq_true q1, decide_eq_false q2, Bool.not_true, Bool.not_false, Bool.false_and, Bool.true_and]
  rw [decide_eq_true q1, decide_eq_true q2, Bool.true_and, Bool.true_and]
  have cm : evE cl (.comp [2] (.call iw (.cons (.var 2) .nil)) (.v 2) (.it (.var 0)) (.con (.bl true))) [some (.tup ws), none, none] h = .ok (.lst (ws.map fun s => .bl (isWorkB s))) h := by
    refine comp_run (h1 := h) (xs := ws) (i_it rfl rfl) ?_ (by rw [List.length_map]; omega)
    rw [each_id (g := fun s => [.bl (isWorkB s)])]
    · rw [flatMap_one]
    · intro s hs
      have nm : nod s ≤ 100000 := by
        have a := nods_mem hs
        simp only [nod] at nv
        omega
      unfold compF
      simp only [evS, evE, evSs, evEs, evI, List.map_cons, List.map_nil, List.cons_append, List.nil_append, List.replicate_succ, List.replicate_zero, getS_0, getS_s, List.set_cons_zero, List.set_cons_succ, wipe_nil, wipe_cons, setT_v, setT_t, setTs_nil, setTs_cons, setAll, Option.bind_some, Out.of_some, Out.bind_ok, Nat.reduceSub, W M d' s h hM (dm s hs) nm]
  have al : biV h .all [.lst (ws.map fun s => .bl (isWorkB s))] = some (.bl (ws.all isWorkB)) := by
    have e : ws.map (fun s => PV.bl (isWorkB s)) = (ws.map isWorkB).map .bl := by rw [List.map_map]; rfl
    show (boolsOf _).map _ = _
    rw [e, boolsOf_map]
    simp only [Option.map_some, List.all_map]
    rfl
  have ca := e_bi1 cm al
  have cnd : evE cl (.or (.not (.isin (.var 0) .tuple)) (.or (.not (.chain .LtE .LtE (.con (.int (1))) (.bi .len (.cons (.var 0) .nil)) (.con (.int (3))))) (.not (.bi .all (.cons (.comp [2] (.call iw (.cons (.var 2) .nil)) (.v 2) (.it (.var 0)) (.con (.bl true))) .nil))))) [some (.tup ws), none, none] h = .ok (.bl (!ws.all isWorkB)) h := by
    rw [evE, show evE cl (.not (.isin (.var 0) .tuple)) [some (.tup ws), none, none] h = .ok (.bl false) h from rfl]
    show evE cl (.or _ _) _ h = _
    have k : evE cl (.not (.chain .LtE .LtE (.con (.int (1))) (.bi .len (.cons (.var 0) .nil)) (.con (.int (3))))) [some (.tup ws), none, none] h = .ok (.bl false) h := by
      simp only [evS, evE, evSs, evEs, evI, List.map_cons, List.map_nil, List.cons_append, List.nil_append, List.replicate_succ, List.replicate_zero, getS_0, getS_s, List.set_cons_zero, List.set_cons_succ, wipe_nil, wipe_cons, setT_v, setT_t, setTs_nil, setTs_cons, setAll, Option.bind_some, Out.of_some, Out.bind_ok, Nat.reduceSub, len_tup, c1, c2, decide_eq_true q1, decide_eq_true q2, Bool.not_true]
    rw [evE, k]
    show evE cl (.not _) _ h = _
    rw [evE, ca]; rfl
  cases q : ws.all isWorkB with
  | false =>
    rw [q] at cnd
    exact ss_rt ((s_iff cnd).trans rfl)
  | true =>
    rw [q] at cnd
    obtain ⟨z, lp⟩ := prod_loop (cl := cl) (a := some (.tup ws)) (h := h) ws 1 0 none q (by omega) (by decide) (by decide)
    have cc : cmpV .LtE (.int (prodP 1 ws)) (.int 12) = some (decide (prodP 1 ws ≤ 12)) := rfl
    refine (ss_nx ((s_iff cnd).trans rfl)).trans ((ss_nx (s_asg (x := .int 1) rfl)).trans ((ss_nx (σ' := [some (.tup ws), some (.int (prodP 1 ws)), z]) (h' := h) ?_).trans (ss_rt (s_ret (e_cmp rfl rfl cc)))))
    rw [evS, i_it rfl (show seqOf (.tup ws) = some ws from rfl)]
    exact lp
def pLIsCompany (lw : Nat) : Ss := (.cons (.iff (.or (.not (.isin (.var 0) .tuple)) (.not (.chain .LtE .LtE (.con (.int (1))) (.bi .len (.cons (.var 0) .nil)) (.con (.int (3)))))) (.cons (.ret (.con (.bl false))) .nil) .nil) (.cons (.iff (.cmp .NotEq (.comp [2] (.con (.int (1))) (.v 2) (.it (.var 0)) (.not (.call lw (.cons (.var 2) .nil)))) (.lst .nil)) (.cons (.ret (.con (.bl false))) .nil) .nil) (.cons (.asg (.v 1) (.con (.int (1)))) (.cons (.forr [] (.v 2) (.it (.var 0)) bProd) (.cons (.ret (.cmp .LtE (.var 1) (.con (.int (12))))) .nil)))))
theorem ones : ∀ (ws : List PV), ∃ k, k ≤ ws.length ∧ (ws.flatMap fun s => if isWorkB s then [] else [PV.int 1]) = List.replicate k (.int 1) ∧ ws.all isWorkB = decide (k = 0)
  | [] => ⟨0, by simp, rfl, rfl⟩
  | w :: ws => by
    obtain ⟨k, l, e, a⟩ := ones ws
    rw [List.flatMap_cons, e, List.all_cons, a]
    cases q : isWorkB w
    · exact ⟨k + 1, by simp only [List.length_cons]; omega, rfl, by simp⟩
    · exact ⟨k, by simp only [List.length_cons]; omega, rfl, by simp⟩
theorem lisCompany_ok {lw : Nat} (W : WorkG cl lw) {M d : Nat} {v : PV} {h : Hs} (hM : M ≤ Mx) (hv : dat M d v = true) (nv : nod v ≤ 100000) :
    evD cl ⟨1, 3, pLIsCompany lw⟩ [v] h = .ok (.bl (companyB v)) h := by
  refine d_rt rfl ?_
  have lk := len_look (cl := cl) (h := h) (tl := [none, none]) (k := 3) hv
  by_cases t : ∃ ws, v = .tup ws
  rotate_left
  · have : companyB v = false := by cases v <;> first | rfl | exact absurd ⟨_, rfl⟩ t
    rw [this]
    have e : evE cl (.or (.not (.isin (.var 0) .tuple)) (.not (.chain .LtE .LtE (.con (.int (1))) (.bi .len (.cons (.var 0) .nil)) (.con (.int 3))))) [some v, none, none] h = .ok (.bl true) h := by
      cases v <;> first | exact absurd ⟨_, rfl⟩ t | exact lk
    exact ss_rt ((s_iff e).trans (ss_rt rfl))
  obtain ⟨ws, rfl⟩ := t
  obtain ⟨d', dms⟩ : ∃ d', dats M d' ws = true := by
    cases d with
    | zero => simp [dat] at hv
    | succ d' => exact ⟨d', by simpa only [dat] using hv⟩
  have dm := dats_mem.mp dms
  simp only at lk
  have cb : companyB (.tup ws) = ((decide ((1 : Int) ≤ ws.length) && decide ((ws.length : Int) ≤ 3)) && (ws.all isWorkB && decide (prodP 1 ws ≤ 12))) := rfl
  rw [cb]
  by_cases ln : (1 : Int) ≤ ws.length ∧ (ws.length : Int) ≤ 3
  rotate_left
  · have z : (decide ((1 : Int) ≤ ws.length) && decide ((ws.length : Int) ≤ 3)) = false := by
      rw [Bool.and_eq_false_iff, decide_eq_false_iff_not, decide_eq_false_iff_not]; omega
    rw [z] at lk ⊢
    exact ss_rt ((s_iff lk).trans (ss_rt rfl))
  have z : (decide ((1 : Int) ≤ ws.length) && decide ((ws.length : Int) ≤ 3)) = true := by
    rw [Bool.and_eq_true, decide_eq_true_eq, decide_eq_true_eq]; omega
  rw [z] at lk ⊢
  obtain ⟨k, kl, ke, ka⟩ := ones ws
  have cm : evE cl (.comp [2] (.con (.int (1))) (.v 2) (.it (.var 0)) (.not (.call lw (.cons (.var 2) .nil)))) [some (.tup ws), none, none] h = .ok (.lst (List.replicate k (.int 1))) h := by
    refine comp_run (h1 := h) (xs := ws) (i_it rfl rfl) ?_ (by rw [List.length_replicate]; omega)
    rw [each_id (g := fun s => if isWorkB s then [] else [PV.int 1]), ke]
    intro s hs
    have nm : nod s ≤ 100000 := by
      have a := nods_mem hs
      simp only [nod] at nv
      omega
    unfold compF
    cases q : isWorkB s <;> simp only [evS, evE, evSs, evEs, evI, List.map_cons, List.map_nil, List.cons_append, List.nil_append, List.replicate_succ, List.replicate_zero, getS_0, getS_s, List.set_cons_zero, List.set_cons_succ, wipe_nil, wipe_cons, setT_v, setT_t, setTs_nil, setTs_cons, setAll, Option.bind_some, Out.of_some, Out.bind_ok, Nat.reduceSub, W M d' s h hM (dm s hs) nm, q, Bool.not_true, Bool.not_false] <;> rfl
  have cc : cmpV .NotEq (.lst (List.replicate k (.int 1))) (.lst []) = some (!decide (k = 0)) := by
    have : k = 0 ∨ k = 1 ∨ k = 2 ∨ k = 3 := by omega
    rcases this with rfl | rfl | rfl | rfl <;> rfl
  have c2 := s_iff (a := (.cons (.ret (.con (.bl false))) .nil)) (b := .nil) (e_cmp (h2 := h) (b := .lst .nil) cm rfl cc)
  rw [← ka] at c2
  refine (ss_nx ((s_iff lk).trans rfl)).trans ?_
  cases q : ws.all isWorkB with
  | false =>
    rw [q] at c2
    exact ss_rt (c2.trans rfl)
  | true =>
    rw [q] at c2
    obtain ⟨z, lp⟩ := prod_loop (cl := cl) (a := some (.tup ws)) (h := h) ws 1 0 none q (by omega) (by decide) (by decide)
    have cc : cmpV .LtE (.int (prodP 1 ws)) (.int 12) = some (decide (prodP 1 ws ≤ 12)) := rfl
    refine (ss_nx (c2.trans rfl)).trans ((ss_nx (s_asg (x := .int 1) rfl)).trans ((ss_nx (σ' := [some (.tup ws), some (.int (prodP 1 ws)), z]) (h' := h) ?_).trans (ss_rt (s_ret (e_cmp rfl rfl cc)))))
    rw [evS, i_it rfl (show seqOf (.tup ws) = some ws from rfl)]
    exact lp
end
end MP

set_option Elab.async false
set_option linter.all false
set_option maxRecDepth 100000
set_option exponentiation.threshold 100
namespace MP
open PySem

/-! ### plain law: standings -/
def stp (F : List (List Int)) (n : Nat) : List (List Int) := F.flatMap fun f => (List.range n).map fun s : Nat => f ++ [(s : Int)]
def stn (F : List (List Int)) : List PV → List (List Int)
  | [] => F
  | w :: ws => stn (stp F (lenP w)) ws
def tupI (f : List Int) : PV := .tup (f.map .int)
theorem stp_nil (n : Nat) : stp [] n = [] := rfl
theorem stp_app (F G : List (List Int)) (n : Nat) : stp (F ++ G) n = stp F n ++ stp G n := List.flatMap_append
theorem stp_len (F : List (List Int)) (n : Nat) : (stp F n).length = F.length * n := by
  induction F with
  | nil => rw [stp_nil]; simp
  | cons f F ih =>
    show ((List.map _ (List.range n)) ++ stp F n).length = _
    rw [List.length_append, List.length_map, List.length_range, ih, List.length_cons, Nat.succ_mul, Nat.add_comm]
/-- what standings keep -/
structure StF (k : Nat) (F : List (List Int)) : Prop where
  l : F.length ≤ 6 ^ k
  i : ∀ f ∈ F, f.length = k ∧ ∀ x ∈ f, 0 ≤ x ∧ x < 6
theorem stp_f {k n : Nat} {F : List (List Int)} (h : StF k F) (hn : n ≤ 6) : StF (k + 1) (stp F n) := by
  refine ⟨?_, fun f hf => ?_⟩
  · rw [stp_len, Nat.pow_succ]; exact Nat.mul_le_mul h.l hn
  · obtain ⟨g, hg, hf⟩ := List.mem_flatMap.mp hf
    obtain ⟨s, hs, rfl⟩ := List.mem_map.mp hf
    have hs := List.mem_range.mp hs
    obtain ⟨a, b⟩ := h.i g hg
    refine ⟨by rw [List.length_append, a]; rfl, fun x hx => ?_⟩
    rcases List.mem_append.mp hx with hx | hx
    · exact b x hx
    · rw [List.mem_singleton.mp hx]; omega
theorem stf_len {k : Nat} {F : List (List Int)} (h : StF k F) (hk : k ≤ 3) : F.length ≤ 216 := by
  have := h.l
  have : k = 0 ∨ k = 1 ∨ k = 2 ∨ k = 3 := by omega
  rcases this with rfl | rfl | rfl | rfl <;> simp at this ⊢ <;> omega
theorem wl6 {v : PV} (h : isWorkB v = true) : lenP v ≤ 6 ∧ ∀ h, biV h .len [v] = some (.int (lenP v : Int)) := by
  obtain ⟨xs, rfl, _, l⟩ := isWorkB_tup h
  exact ⟨l, fun _ => rfl⟩
section
variable {cl : Nat → List PV → Hs → Out PV}
def bFind : Ss := (.cons (.asg (.v 1) (.comp2 [3, 4] (.tup (.star (.var 3) (.cons (.var 4) .nil))) (.v 3) (.it (.var 1)) (.v 4) (.range (.cons (.bi .len (.cons (.var 2) .nil)) .nil)))) .nil)
def pFind : Ss := (.cons (.asg (.v 1) (.lst (.cons (.tup .nil) .nil))) (.cons (.forr [1] (.v 2) (.it (.var 0)) bFind) (.cons (.ret (.var 1)) .nil)))
theorem find_turn {w : PV} {k : Nat} {F : List (List Int)} {h : Hs} {a : Option PV} (hw : isWorkB w = true) (hF : StF k F) (hk : k < 3) :
    evSs cl bFind [a, some (.lst (F.map tupI)), some w, none, none] h = .ok (.nx [a, some (.lst ((stp F (lenP w)).map tupI)), some w, none, none]) h := by
  obtain ⟨w6, wl⟩ := wl6 hw
  have fl := stf_len hF (by omega)
  have sl := stf_len (stp_f hF w6) (by omega)
  refine (ss_nx (s_asg (h1 := h) (x := .lst ((stp F (lenP w)).map tupI)) ?_)).trans rfl
  have i1 : evI cl (.it (.var 1)) [a, some (.lst (F.map tupI)), some w, none, none] h = .ok (F.map tupI) h := i_it rfl rfl
  rw [evE, i1, Out.bind_ok]
  rw [each_map (g := fun f => (List.range (lenP w)).map fun s : Nat => tupI (f ++ [(s : Int)]))]
  · have e : (F.flatMap fun f => (List.range (lenP w)).map fun s : Nat => tupI (f ++ [(s : Int)])) = (stp F (lenP w)).map tupI := by
      unfold stp
      rw [List.map_flatMap]
      congr 1
      funext f
      rw [List.map_map]; rfl
    rw [e, Out.bind_ok, if_pos (szLe (by rw [List.length_map]; omega))]
  · intro f hf
    have i2 : evI cl (.range (.cons (.bi .len (.cons (.var 2) .nil)) .nil)) [a, some (.lst (F.map tupI)), some w, some (tupI f), none] h = .ok (rangeL 0 (lenP w)) h := by
      have := i_range (cl := cl) (σ := [a, some (.lst (F.map tupI)), some w, some (tupI f), none]) (a := .bi .len (.cons (.var 2) .nil)) (e_bi1 rfl (wl h)) (by omega) (by omega)
      simpa using this
    show (Out.of (some [a, some (.lst (F.map tupI)), some w, some (tupI f), none]) h).bind _ = _
    rw [Out.of_some, Out.bind_ok, i2, Out.bind_ok, rangeL_map]
    rw [each_map (g := fun s : Nat => [tupI (f ++ [(s : Int)])])]
    · rw [flatMap_one]
    · intro s hs
      have z := (hF.i f hf).1
      show (Out.of (some [a, some (.lst (F.map tupI)), some w, some (tupI f), some (.int (0 + (s : Int)))]) h).bind _ = _
      have sq : seqOf (tupI f) = some (f.map .int) := rfl
      have e : evE cl (.tup (.star (.var 3) (.cons (.var 4) .nil))) [a, some (.lst (F.map tupI)), some w, some (tupI f), some (.int (0 + (s : Int)))] h = .ok (tupI (f ++ [(s : Int)])) h := by
        rw [evE, evEs]
        show (((Out.of (seqOf (tupI f)) h).bind fun ys h => ((Out.ok [PV.int (0 + (s : Int))] h).bind fun xs h => Out.ok (ys ++ xs) h))).bind _ = _
        rw [sq, Out.of_some, Out.bind_ok, Out.bind_ok, Out.bind_ok, if_pos (szLe (by rw [List.length_append, List.length_map, List.length_singleton]; omega)), Int.zero_add]
        unfold tupI
        rw [List.map_append]; rfl
      rw [Out.of_some, Out.bind_ok, e, Out.bind_ok]
theorem find_loop {h : Hs} {a : Option PV} : ∀ (ws : List PV) (F : List (List Int)) (k : Nat) (y : Option PV), ws.all isWorkB = true → StF k F → ws.length + k ≤ 3 →
    ∃ z, forL (.v 2) (evSs cl bFind) ws [a, some (.lst (F.map tupI)), y, none, none] h = .ok (.nx [a, some (.lst ((stn F ws).map tupI)), z, none, none]) h ∧ StF (k + ws.length) (stn F ws)
  | [], F, k, y, _, hF, _ => ⟨y, rfl, hF⟩
  | w :: ws, F, k, y, al, hF, l => by
    rw [List.all_cons, Bool.and_eq_true] at al
    simp only [List.length_cons] at l
    obtain ⟨z, e, g⟩ := find_loop ws (stp F (lenP w)) (k + 1) (some w) al.2 (stp_f hF (wl6 al.1).1) (by omega)
    refine ⟨z, ?_, by rw [List.length_cons, show k + (ws.length + 1) = k + 1 + ws.length by omega]; exact g⟩
    rw [forL]
    show (Out.of (some [a, some (.lst (F.map tupI)), some w, none, none]) h).bind _ = _
    rw [Out.of_some, Out.bind_ok, find_turn al.1 hF (by omega), Out.bind_ok]
    exact e
theorem st0 : StF 0 [[]] := ⟨by decide, fun f hf => by rw [List.mem_singleton.mp hf]; exact ⟨rfl, fun x hx => by cases hx⟩⟩
def standV (ws : List PV) : PV := .lst ((stn [[]] ws).map tupI)
theorem find_ok2 {ws : List PV} {h : Hs} (al : ws.all isWorkB = true) (l : ws.length ≤ 3) : evD cl ⟨1, 5, pFind⟩ [.tup ws] h = .ok (standV ws) h := by
  obtain ⟨z, e, _⟩ := find_loop (cl := cl) (h := h) (a := some (.tup ws)) ws [[]] 0 none al st0 l
  refine d_rt rfl ((ss_nx (s_asg (x := .lst ([([] : List Int)].map tupI)) rfl)).trans ((ss_nx (σ' := [some (.tup ws), some (standV ws), z, none, none]) (h' := h) ?_).trans (ss_rt rfl)))
  rw [evS, i_it rfl (show seqOf (.tup ws) = some ws from rfl)]
  exact e
def bAll1 : Ss := (.cons (.asg (.v 3) (.bin .Add (.var 3) (.comp [5] (.bin .Add (.var 4) (.tup (.cons (.var 5) .nil))) (.v 5) (.range (.cons (.bi .len (.cons (.var 2) .nil)) .nil)) (.con (.bl true))))) .nil)
def bAll : Ss := (.cons (.asg (.v 3) (.lst .nil)) (.cons (.forr [3] (.v 4) (.it (.var 1)) bAll1) (.cons (.asg (.v 1) (.var 3)) .nil)))
def pAllS : Ss := (.cons (.asg (.v 1) (.lst (.cons (.tup .nil) .nil))) (.cons (.forr [] (.v 2) (.it (.var 0)) bAll) (.cons (.ret (.var 1)) .nil)))
theorem all_turn1 {w : PV} {h : Hs} {a b : Option PV} (hw : isWorkB w = true) : ∀ (F G : List (List Int)) (y : Option PV), (G.length + F.length) * 6 ≤ 10000 → (∀ f ∈ F, f.length ≤ 3) →
    ∃ z, forL (.v 4) (evSs cl bAll1) (F.map tupI) [a, b, some w, some (.lst ((stp G (lenP w)).map tupI)), y, none] h = .ok (.nx [a, b, some w, some (.lst ((stp (G ++ F) (lenP w)).map tupI)), z, none]) h
  | [], G, y, _, _ => ⟨y, by rw [List.append_nil]; rfl⟩
  | f :: F, G, y, l, hf => by
    obtain ⟨w6, wl⟩ := wl6 hw
    obtain ⟨z, e⟩ := all_turn1 hw F (G ++ [f]) (some (tupI f)) (by simp only [List.length_append, List.length_cons, List.length_nil] at l ⊢; omega) (fun g hg => hf g (List.mem_cons_of_mem _ hg))
    have gl := stp_len G (lenP w)
    have gl2 : (stp G (lenP w)).length ≤ 10000 := by
      rw [gl]
      have := Nat.mul_le_mul_left G.length w6
      have := Nat.add_mul G.length (f :: F).length 6
      omega
    refine ⟨z, ?_⟩
    rw [List.map_cons, forL]
    show (Out.of (some [a, b, some w, some (.lst ((stp G (lenP w)).map tupI)), some (tupI f), none]) h).bind _ = _
    have cm : evE cl (.comp [5] (.bin .Add (.var 4) (.tup (.cons (.var 5) .nil))) (.v 5) (.range (.cons (.bi .len (.cons (.var 2) .nil)) .nil)) (.con (.bl true))) [a, b, some w, some (.lst ((stp G (lenP w)).map tupI)), some (tupI f), none] h = .ok (.lst ((stp [f] (lenP w)).map tupI)) h := by
      have i2 : evI cl (.range (.cons (.bi .len (.cons (.var 2) .nil)) .nil)) [a, b, some w, some (.lst ((stp G (lenP w)).map tupI)), some (tupI f), none] h = .ok (rangeL 0 (lenP w)) h := by
        have := i_range (cl := cl) (σ := [a, b, some w, some (.lst ((stp G (lenP w)).map tupI)), some (tupI f), none]) (a := .bi .len (.cons (.var 2) .nil)) (e_bi1 rfl (wl h)) (by omega) (by omega)
        simpa using this
      refine comp_run i2 ?_ (by rw [List.length_map, stp_len, List.length_singleton]; omega)
      rw [rangeL_map, each_map (g := fun s : Nat => [tupI (f ++ [(s : Int)])])]
      · rw [flatMap_one]
        show _ = Out.ok (List.map tupI ((List.map _ (List.range (lenP w))) ++ [])) h
        rw [List.append_nil, List.map_map]; rfl
      · intro s hs
        have fl := hf f List.mem_cons_self
        have ad : binV .Add (tupI f) (.tup [.int (0 + (s : Int))]) = some (tupI (f ++ [(s : Int)])) := by
          have := sq_add false (f.map .int) [.int (0 + (s : Int))] (by rw [List.length_map, List.length_singleton]; omega)
          rw [Int.zero_add] at this ⊢
          unfold tupI
          rw [List.map_append]
          exact this
        have z1 : szOk 1 = true := rfl
        unfold compF
        simp only [evS, evE, evSs, evEs, evI, List.map_cons, List.map_nil, List.cons_append, List.nil_append, List.replicate_succ, List.replicate_zero, getS_0, getS_s, List.set_cons_zero, List.set_cons_succ, wipe_nil, wipe_cons, setT_v, setT_t, setTs_nil, setTs_cons, setAll, Option.bind_some, Out.of_some, Out.bind_ok, Nat.reduceSub, ad, List.length_cons, List.length_nil, Nat.reduceAdd, z1, if_true]
    have ad : binV .Add (.lst ((stp G (lenP w)).map tupI)) (.lst ((stp [f] (lenP w)).map tupI)) = some (.lst ((stp (G ++ [f]) (lenP w)).map tupI)) := by
      have := sq_add true ((stp G (lenP w)).map tupI) ((stp [f] (lenP w)).map tupI) (by rw [List.length_map, List.length_map, stp_len [f], List.length_singleton]; omega)
      rw [stp_app, List.map_append]
      exact this
    have e1 : evSs cl bAll1 [a, b, some w, some (.lst ((stp G (lenP w)).map tupI)), some (tupI f), none] h = .ok (.nx [a, b, some w, some (.lst ((stp (G ++ [f]) (lenP w)).map tupI)), some (tupI f), none]) h :=
      (ss_nx (s_asg (e_bin rfl cm ad))).trans rfl
    rw [Out.of_some, Out.bind_ok, e1, Out.bind_ok, show G ++ f :: F = (G ++ [f]) ++ F by simp]
    exact e
theorem all_loop {h : Hs} {a : Option PV} : ∀ (ws : List PV) (F : List (List Int)) (k : Nat) (y y3 y4 : Option PV), ws.all isWorkB = true → StF k F → ws.length + k ≤ 3 →
    ∃ z z3 z4, forL (.v 2) (evSs cl bAll) ws [a, some (.lst (F.map tupI)), y, y3, y4, none] h = .ok (.nx [a, some (.lst ((stn F ws).map tupI)), z, z3, z4, none]) h
  | [], F, k, y, y3, y4, _, hF, _ => ⟨y, y3, y4, rfl⟩
  | w :: ws, F, k, y, y3, y4, al, hF, l => by
    rw [List.all_cons, Bool.and_eq_true] at al
    simp only [List.length_cons] at l
    obtain ⟨y5, e0⟩ := all_turn1 (cl := cl) (h := h) (a := a) (b := some (.lst (F.map tupI))) al.1 F [] y4 (by have := stf_len hF (by omega); simp only [List.length_nil]; omega) (fun f hf => by rw [(hF.i f hf).1]; omega)
    obtain ⟨z, z3, z4, e⟩ := all_loop (h := h) (a := a) ws (stp F (lenP w)) (k + 1) (some w) (some (.lst ((stp F (lenP w)).map tupI))) y5 al.2 (stp_f hF (wl6 al.1).1) (by omega)
    refine ⟨z, z3, z4, ?_⟩
    rw [forL]
    show (Out.of (some [a, some (.lst (F.map tupI)), some w, y3, y4, none]) h).bind _ = _
    have e1 : evSs cl bAll [a, some (.lst (F.map tupI)), some w, y3, y4, none] h = .ok (.nx [a, some (.lst ((stp F (lenP w)).map tupI)), some w, some (.lst ((stp F (lenP w)).map tupI)), y5, none]) h := by
      refine (ss_nx (σ' := [a, some (.lst (F.map tupI)), some w, some (.lst []), y4, none]) (h' := h) rfl).trans ((ss_nx (σ' := [a, some (.lst (F.map tupI)), some w, some (.lst ((stp F (lenP w)).map tupI)), y5, none]) (h' := h) ?_).trans rfl)
      rw [evS, i_it rfl (show seqOf (.lst (F.map tupI)) = some (F.map tupI) from rfl)]
      exact e0
    rw [Out.of_some, Out.bind_ok, e1, Out.bind_ok]
    exact e
theorem allS_ok {ws : List PV} {h : Hs} (al : ws.all isWorkB = true) (l : ws.length ≤ 3) : evD cl ⟨1, 6, pAllS⟩ [.tup ws] h = .ok (standV ws) h := by
  obtain ⟨z, z3, z4, e⟩ := all_loop (cl := cl) (h := h) (a := some (.tup ws)) ws [[]] 0 none none none al st0 l
  refine d_rt rfl ((ss_nx (s_asg (x := .lst ([([] : List Int)].map tupI)) rfl)).trans ((ss_nx (σ' := [some (.tup ws), some (standV ws), z, z3, z4, none]) (h' := h) ?_).trans (ss_rt rfl)))
  rw [evS, i_it rfl (show seqOf (.tup ws) = some ws from rfl)]
  exact e
end
/-- standings are plain data -/
theorem stn_f {ws : List PV} : ∀ {F : List (List Int)} {k : Nat}, ws.all isWorkB = true → StF k F → StF (k + ws.length) (stn F ws) := by
  induction ws with
  | nil => intro F k _ h; exact h
  | cons w ws ih =>
    intro F k al h
    rw [List.all_cons, Bool.and_eq_true] at al
    rw [List.length_cons, show k + (ws.length + 1) = k + 1 + ws.length by omega]
    exact ih al.2 (stp_f h (wl6 al.1).1)
theorem nods_ints : ∀ l : List Int, nods (l.map .int) = l.length
  | [] => rfl
  | x :: l => by simp only [List.map_cons, nods, nod, nods_ints l, List.length_cons]; omega
theorem dats_ints {M d : Nat} {l : List Int} (h : ∀ x ∈ l, x.natAbs < M) : dats M d (l.map .int) = true := dats_mem.mpr fun x hx => by
  obtain ⟨i, hi, rfl⟩ := List.mem_map.mp hx
  cases d <;> simpa [dat] using h i hi
theorem nods_le {α : Type} (f : α → PV) (k : Nat) : ∀ xs : List α, (∀ x ∈ xs, nod (f x) ≤ k) → nods (xs.map f) ≤ k * xs.length
  | [], _ => by simp [nods]
  | x :: xs, h => by
    have a := nods_le f k xs fun y hy => h y (List.mem_cons_of_mem _ hy)
    have b := h x List.mem_cons_self
    simp only [List.map_cons, nods, List.length_cons, Nat.mul_add, Nat.mul_one]; omega
theorem prod_stn {ws : List PV} : ∀ (F : List (List Int)), ((stn F ws).length : Int) = prodP F.length ws := by
  induction ws with
  | nil => intro F; rfl
  | cons w ws ih => intro F; show ((stn (stp F (lenP w)) ws).length : Int) = prodP (F.length * lenP w) ws; rw [ih, stp_len, Int.natCast_mul]
theorem stand_dat {M d : Nat} (hM : 6 ≤ M) {ws : List PV} (h : companyB (.tup ws) = true) : dat M (d + 2) (standV ws) = true ∧ nod (standV ws) ≤ 50 := by
  simp only [companyB, Bool.and_eq_true, decide_eq_true_eq] at h
  obtain ⟨⟨l1, l3⟩, al, pr⟩ := h
  have sf := stn_f (F := [[]]) (k := 0) al st0
  have ln := prod_stn (ws := ws) [[]]
  have pl : ((stn [[]] ws).length : Int) ≤ 12 := by rw [ln]; exact pr
  refine ⟨dats_mem.mpr fun x hx => ?_, ?_⟩
  · obtain ⟨f, hf, rfl⟩ := List.mem_map.mp hx
    exact dats_ints fun x hx => by have := (sf.i f hf).2 x hx; omega
  · have := nods_le tupI 4 (stn [[]] ws) fun f hf => by
      show nods (f.map .int) + 1 ≤ 4
      rw [nods_ints, (sf.i f hf).1]; omega
    show nods _ + 1 ≤ 50
    omega
end MP

set_option Elab.async false
set_option linter.all false
set_option maxRecDepth 100000
set_option exponentiation.threshold 100
namespace MP
open PySem

/-! ### plain law: drawn companies -/
theorem whole_ok {cl : Nat → List PV → Hs → Out PV} {M d : Nat} {v : PV} {h : Hs} (hv : dat M d v = true) : evD cl ⟨1, 1, pIsInt⟩ [v] h = .ok (.bl (isI v)) h := by
  refine d_rt rfl (ss_rt (s_ret ?_))
  cases v <;> first | rfl | (cases d <;> simp [dat] at hv)
def DWorkC (cl : Nat → List PV → Hs → Out PV) (f : Nat) : Prop := ∀ (n : Nat) (B many wide : Int) (h : Hs), PenOk n B h → B + 3000 ≤ 1000000 → 0 < many → many ≤ 6 → 0 < wide → wide ≤ 63 →
  ∃ (W : List Sta) (h' : Hs), cl f [.ref n, .int many, .int wide] h = .ok (workV W) h' ∧ WorkOk W ∧ (W.length : Int) = many ∧ PenOk n (B + 1200) h' ∧ h'.length = h.length
theorem moves_len {n : Nat} {ms : List (Int × Int)} (M : MovesOk n ms) : ms.length ≤ n := by
  have a : SAsc (ms.map Prod.fst) := List.pairwise_map.mpr M.asc
  have := asc_len a (lo := 0) (hi := n) (fun x hx => by obtain ⟨m, hm, rfl⟩ := List.mem_map.mp hx; exact M.lo m hm) (fun x hx => by obtain ⟨m, hm, rfl⟩ := List.mem_map.mp hx; exact M.hi m hm) (by omega)
  rw [List.length_map] at this
  omega
theorem fr_dat {t b : Int} {M d : Nat} (hb : 0 < b) (h1 : t.natAbs < M) (h2 : b.natAbs < M) : dat M (d + 1) (fr t b) = true ∧ nod (fr t b) = 3 := by
  obtain ⟨n, e, F⟩ := fr_of (t := t) hb
  have a := F.na
  have c := F.le
  have p := F.pos
  rw [F.e]
  refine ⟨?_, rfl⟩
  have i1 : dat M d (.int n) = true := by cases d <;> simp only [dat, decide_eq_true_eq] <;> omega
  have i2 : dat M d (.int e) = true := by cases d <;> simp only [dat, decide_eq_true_eq] <;> omega
  show dats M d _ = true
  rw [dats, i1, dats, i2, dats]; rfl
theorem work_dat {M d : Nat} {W : List Sta} (ok : WorkOk W) (hM : 10000000 ≤ M) : dat M (d + 5) (workV W) = true ∧ nod (workV W) ≤ 1 + (5 + 5 * W.length) * W.length := by
  have st : ∀ s ∈ W, dat M (d + 4) (stV s) = true ∧ nod (stV s) ≤ 5 + 5 * W.length := fun s hs => by
    have k := ok.s s hs
    have Mo := k.m
    obtain ⟨S0, wS⟩ := Mo.pos
    have S1 := Mo.s
    have ml := moves_len Mo
    have b0 := k.b0
    have b1 := k.b1
    have p := k.p
    have l1 := ok.l1
    have mv : ∀ m ∈ s.2.2, dat M (d + 2) (mvV (wsum s.2.2) m) = true ∧ nod (mvV (wsum s.2.2) m) ≤ 5 := fun m hm => by
      have w1 := Mo.w m hm
      have w2 := wS m hm
      have lo := Mo.lo m hm
      have hi := Mo.hi m hm
      obtain ⟨f1, f2⟩ := fr_dat (t := m.2) (b := wsum s.2.2) (M := M) (d := d) S0 (by omega) (by omega)
      refine ⟨?_, ?_⟩
      · unfold mvV
        have : dat M (d + 1) (.int m.1) = true := by simp only [dat, decide_eq_true_eq]; omega
        show dats M (d + 1) _ = true
        rw [dats, this, dats, f1, dats]; rfl
      · unfold mvV
        simp only [nod, nods, f2]; omega
    obtain ⟨f1, f2⟩ := fr_dat (t := s.1) (b := s.2.1) (M := M) (d := d + 2) b0 (by omega) (by omega)
    have nm := nods_le (mvV (wsum s.2.2)) 5 s.2.2 fun m hm => (mv m hm).2
    refine ⟨?_, ?_⟩
    · unfold stV
      have : dat M (d + 3) (.tup (s.2.2.map (mvV (wsum s.2.2)))) = true := dats_mem.mpr fun x hx => by
        obtain ⟨m, hm, rfl⟩ := List.mem_map.mp hx
        exact (mv m hm).1
      show dats M (d + 3) _ = true
      rw [dats, f1, dats, this, dats]; rfl
    · unfold stV
      simp only [nod, nods, f2]
      omega
  refine ⟨dats_mem.mpr fun x hx => ?_, ?_⟩
  · obtain ⟨s, hs, rfl⟩ := List.mem_map.mp hx
    exact (st s hs).1
  · have := nods_le stV (5 + 5 * W.length) W fun s hs => (st s hs).2
    show nods _ + 1 ≤ _
    omega
section
variable {cl : Nat → List PV → Hs → Out PV}
def pDCompany (dw : Nat) : Ss := (.cons (.ret (.bi .tuple (.cons (.comp [3] (.call dw (.cons (.var 0) (.cons (.var 3) (.cons (.var 2) .nil)))) (.v 3) (.it (.var 1)) (.con (.bl true))) .nil))) .nil)
theorem dcompany_ok {dw : Nat} (D : DWorkC cl dw) {n : Nat} {B wide : Int} {ss : List Int} {h : Hs} (p : PenOk n B h) (hB : B + 20000 ≤ 1000000) (s6 : ∀ s ∈ ss, 0 < s ∧ s ≤ 6) (sl : ss.length ≤ 10) (w0 : 0 < wide) (w1 : wide ≤ 63) :
    ∃ (Ws : List (List Sta)) (h' : Hs), evD cl ⟨3, 4, pDCompany dw⟩ [.ref n, .tup (ss.map .int), .int wide] h = .ok (.tup (Ws.map workV)) h' ∧ (∀ W ∈ Ws, WorkOk W) ∧ Ws.map (fun W => (W.length : Int)) = ss ∧ PenOk n (B + 12000) h' ∧ h'.length = h.length := by
  have lp := each_rule (f := compF cl [3] (.call dw (.cons (.var 0) (.cons (.var 3) (.cons (.var 2) .nil)))) (.v 3) (.con (.bl true)) [some (.ref n), some (.tup (ss.map .int)), some (.int wide), none])
    (fun rest ys h' => ∃ (Ws : List (List Sta)) (rs : List Int), rest = rs.map .int ∧ ys = Ws.map workV ∧ (∀ W ∈ Ws, WorkOk W) ∧ Ws.map (fun W => (W.length : Int)) ++ rs = ss ∧ PenOk n (B + 1200 * Ws.length) h' ∧ h'.length = h.length)
    (by
      rintro q qs ys h' ⟨Ws, rs, er, rfl, oks, es, p', l'⟩
      cases rs with
      | nil => cases er
      | cons r rs =>
        simp only [List.map_cons, List.cons.injEq] at er
        obtain ⟨rfl, rfl⟩ := er
        have wl : Ws.length ≤ 10 := by
          have := congrArg List.length es
          rw [List.length_append, List.length_map] at this; omega
        have hr := s6 r (by rw [← es]; exact List.mem_append_right _ List.mem_cons_self)
        obtain ⟨W, h2, e2, ok, Wl, p2, l2⟩ := D n (B + 1200 * Ws.length) r wide h' p' (by omega) hr.1 hr.2 w0 w1
        refine ⟨[workV W], h2, ?_, Ws ++ [W], rs, rfl, by simp, ?_, by simp [Wl, ← es], ?_, by omega⟩
        · unfold compF
          simp only [evS, evE, evSs, evEs, evI, List.map_cons, List.map_nil, List.cons_append, List.nil_append, List.replicate_succ, List.replicate_zero, getS_0, getS_s, List.set_cons_zero, List.set_cons_succ, wipe_nil, wipe_cons, setT_v, setT_t, setTs_nil, setTs_cons, setAll, Option.bind_some, Out.of_some, Out.bind_ok, Nat.reduceSub, e2]
        · intro V hV
          rcases List.mem_append.mp hV with hV | hV
          · exact oks V hV
          · rw [List.mem_singleton.mp hV]; exact ok
        · refine p2.mono ?_
          simp only [List.length_append, List.length_singleton]
          omega)
  obtain ⟨zs, h', e, Ws, rs, er, ez, oks, es, p', l'⟩ := lp (ss.map .int) [] h ⟨[], ss, rfl, rfl, by simp, by simp, by simpa using p, rfl⟩
  have : rs = [] := by cases rs with
    | nil => rfl
    | cons _ _ => cases er
  subst this
  simp only [List.nil_append] at ez
  subst ez
  simp only [List.append_nil] at es
  have wl : Ws.length ≤ 10 := by
    have := congrArg List.length es
    rw [List.length_map] at this; omega
  refine ⟨Ws, h', d_rt rfl (ss_rt (s_ret (e_bi1 (x := .lst (Ws.map workV)) ?_ rfl))), oks, es, p'.mono (by omega), l'⟩
  exact comp_run (i_it rfl rfl) e (by rw [List.length_map]; omega)
end
def cost : List Int → Nat
  | [] => 0
  | s :: ss => 1 + (5 + 5 * s.toNat) * s.toNat + cost ss
theorem company_dat {M : Nat} (hM : 10000000 ≤ M) : ∀ {Ws : List (List Sta)} {ss : List Int}, (∀ W ∈ Ws, WorkOk W) → Ws.map (fun W => (W.length : Int)) = ss → dats M 5 (Ws.map workV) = true ∧ nods (Ws.map workV) ≤ cost ss
  | [], ss, _, e => by cases e; exact ⟨rfl, Nat.le_refl _⟩
  | W :: Ws, ss, ok, e => by
    cases ss with
    | nil => cases e
    | cons s ss =>
      simp only [List.map_cons, List.cons.injEq] at e
      obtain ⟨rfl, e⟩ := e
      obtain ⟨a, b⟩ := company_dat hM (fun V hV => ok V (List.mem_cons_of_mem _ hV)) e
      obtain ⟨c, d⟩ := work_dat (d := 0) (ok W List.mem_cons_self) hM
      refine ⟨by simp only [List.map_cons, dats, a, c, Bool.and_self], ?_⟩
      simp only [List.map_cons, nods, cost, Int.toNat_natCast]
      omega
end MP

set_option Elab.async false
set_option linter.all false
set_option maxRecDepth 100000
set_option exponentiation.threshold 300
namespace MP
open PySem

/-! ### plain law: fractions told, or none -/
def frS (a b : Int) : PV := if 0 < b then fr a b else fr (-a) (-b)
def toldX : PV → PV → Option PV
  | .int a, .int b => if b = 0 then none else some (frS a b)
  | _, _ => none
def noneS : PV := .str "none"
def toldV (x y : PV) : PV := (toldX x y).getD noneS
theorem toldX_i (a b : Int) : toldX (.int a) (.int b) = if b = 0 then none else some (frS a b) := rfl
theorem toldX_l {x y : PV} (h : isI x = false) : toldX x y = none := by
  cases x <;> first | rfl | (simp [isI] at h)
theorem toldX_r {x y : PV} (h : isI y = false) : toldX x y = none := by
  cases x <;> first | rfl | (cases y <;> first | rfl | (simp [isI] at h))
theorem isI_int {x : PV} (h : isI x = true) : ∃ i, x = .int i := by
  cases x <;> first | exact ⟨_, rfl⟩ | (simp [isI] at h)
theorem gcd_negs (a b : Int) : Int.gcd (-a) (-b) = Int.gcd a b := by rw [Int.neg_gcd, Int.gcd_neg]
section
variable {cl : Nat → List PV → Hs → Out PV}
/-- the law's fraction of a bottom below 0 -/
theorem lfracN_ok {dv : Nat} (D : DivC cl dv) {a b : Int} {h : Hs} (ha : a.natAbs < Big) (hb : b.natAbs < Big) (b0 : 0 < b) :
    evD cl ⟨2, 3, pLFrac dv⟩ [.int (-a), .int (-b)] h = .ok (fr a b) h := by
  obtain ⟨g1, g2⟩ := g_big (a := a) b0 hb
  have d1 := D (-a) (-b) h (by rw [Int.natAbs_neg]; exact ha) (by rw [Int.natAbs_neg]; exact hb)
  rw [gcd_negs] at d1
  have lt : cmpV .Lt (.int (-b)) (.int 0) = some true := by
    show some (decide (-b < 0)) = _
    rw [decide_eq_true (by omega)]
  have dvs : ∀ x : Int, binV .FloorDiv (.int (-x)) (.int (-(Int.gcd a b : Int))) = some (.int (x / (Int.gcd a b : Int))) := fun x => by
    show (if divOk (-(Int.gcd a b : Int)) = true then some (PV.int ((-x).fdiv (-(Int.gcd a b : Int)))) else none) = _
    have hd : divOk (-(Int.gcd a b : Int)) = true := by
      have := div_big (i := 1) g1 g2
      have h2 : (if divOk (Int.gcd a b : Int) = true then some (PV.int ((1 : Int).fdiv (Int.gcd a b : Int))) else none) = some (.int ((1 : Int).fdiv (Int.gcd a b : Int))) := this
      split at h2
      · rename_i q
        unfold divOk at q ⊢
        simp only [Bool.and_eq_true, Bool.not_eq_true', beq_eq_false_iff_ne, ne_eq] at q ⊢
        exact ⟨by omega, by rw [Int.natAbs_neg]; exact q.2⟩
      · cases h2
    rw [if_pos hd, Int.neg_fdiv_neg, Int.fdiv_eq_ediv_of_nonneg _ (by omega)]
  refine d_rt rfl ?_
  unfold pLFrac fr
  have z2 : szOk 2 = true := rfl
  simp only [evS, evE, evSs, evEs, evI, List.map_cons, List.map_nil, List.cons_append, List.nil_append, List.replicate_succ, List.replicate_zero, getS_0, getS_s, List.set_cons_zero, List.set_cons_succ, wipe_nil, wipe_cons, setT_v, setT_t, setTs_nil, setTs_cons, setAll, Option.bind_some, Out.of_some, Out.bind_ok, Nat.reduceSub, d1, lt, dvs, List.length_cons, List.length_nil, Nat.reduceAdd, z2, if_true]
def pFraction (ii rd c : Nat) : Ss := (.cons (.xiff (.or (.not (.call ii (.cons (.var 0) .nil))) (.or (.not (.call ii (.cons (.var 1) .nil))) (.cmp .Eq (.var 1) (.con (.int (0)))))) (.cons (.xraise c) .nil) .nil) (.cons (.xst (.ret (.call rd (.cons (.var 0) (.cons (.var 1) .nil))))) .nil))
theorem fraction_ok {ii rd c : Nat} (I : WholeC cl ii) (R : RedC cl rd) {M d e : Nat} {x y : PV} {h : Hs} (hM : M ≤ Mx) (hx : dat M d x = true) (hy : dat M e y = true) :
    evD cl ⟨2, 2, pFraction ii rd c⟩ [x, y] h = (match toldX x y with | some v => .ok v h | none => .exc c .non h) := by
  have cnd : evE cl (.or (.not (.call ii (.cons (.var 0) .nil))) (.or (.not (.call ii (.cons (.var 1) .nil))) (.cmp .Eq (.var 1) (.con (.int (0)))))) [some x, some y] h = .ok (.bl (toldX x y).isNone) h := by
    cases ix : isI x with
    | false =>
      rw [toldX_l ix]
      have := e_not (cl := cl) (e_call1 (a := .var 0) (σ := [some x, some y]) rfl (I M d x h hx))
      rw [ix] at this
      exact e_or_t this
    | true =>
      have n1 := e_not (cl := cl) (e_call1 (a := .var 0) (σ := [some x, some y]) rfl (I M d x h hx))
      rw [ix] at n1
      refine e_or_ff n1 ?_
      cases iy : isI y with
      | false =>
        rw [toldX_r iy]
        have := e_not (cl := cl) (e_call1 (a := .var 1) (σ := [some x, some y]) rfl (I M e y h hy))
        rw [iy] at this
        exact e_or_t this
      | true =>
        have n2 := e_not (cl := cl) (e_call1 (a := .var 1) (σ := [some x, some y]) rfl (I M e y h hy))
        rw [iy] at n2
        refine e_or_ff n2 ?_
        obtain ⟨i, rfl⟩ := isI_int ix
        obtain ⟨j, rfl⟩ := isI_int iy
        have : (toldX (.int i) (.int j)).isNone = (j == 0) := by
          rw [toldX_i]
          by_cases q : j = 0
          · simp [q]
          · rw [if_neg q]; simp [q]
        rw [this]
        exact e_cmp rfl rfl eq_int
  cases q : toldX x y with
  | none =>
    rw [q] at cnd
    exact d_exc rfl (ss_exc ((s_xiff cnd).trans rfl))
  | some v =>
    rw [q] at cnd
    refine d_rt rfl ((ss_nx ((s_xiff cnd).trans rfl)).trans (ss_rt (s_xst (s_ret (e_call2 rfl rfl ?_)))))
    have ix : isI x = true := by
      cases ix : isI x
      · rw [toldX_l ix] at q; cases q
      · rfl
    have iy : isI y = true := by
      cases iy : isI y
      · rw [toldX_r iy] at q; cases q
      · rfl
    obtain ⟨i, rfl⟩ := isI_int ix
    obtain ⟨j, rfl⟩ := isI_int iy
    have bi := mx_big (Nat.lt_of_lt_of_le (dat_int hx) hM)
    have bj := mx_big (Nat.lt_of_lt_of_le (dat_int hy) hM)
    rw [toldX_i] at q
    split at q
    · cases q
    · rename_i j0
      cases q
      unfold frS
      by_cases p : 0 < j
      · rw [if_pos p]
        exact (R i j h bi bj p).1
      · rw [if_neg p]
        have := (R (-i) (-j) h (by rw [Int.natAbs_neg]; exact bi) (by rw [Int.natAbs_neg]; exact bj) (by omega)).2
        rw [Int.neg_neg, Int.neg_neg] at this
        exact this
def pTold (ft : Nat) (cs ds : List Nat) (c d : Nat) : Ss := (.cons (.par [3, 4] (.cons (.bi .repr (.cons (.tup (.cons (.var 0) (.cons (.var 1) .nil))) .nil)) (.cons (.con (.str "other")) .nil))) (.cons (.try1 4 ft (.cons (.var 0) (.cons (.var 1) .nil)) c cs 2 4 d ds (.str "none") (.str "other")) (.cons (.ret (.ite (.cmp .Eq (.bi .repr (.cons (.tup (.cons (.var 0) (.cons (.var 1) .nil))) .nil)) (.var 3)) (.var 4) (.con (.str "changed")))) .nil)))
theorem told_ok {ft : Nat} {x y : PV} {h : Hs} {M : Nat} (hM : M ≤ M50) (F : cl ft [x, y] h = (match toldX x y with | some v => .ok v h | none => .exc 1 .non h)) (hx : dat M 50 x = true) (hy : dat M 50 y = true) (nx : nod x + nod y ≤ 900) :
    evD cl ⟨2, 5, pTold ft [0, 1] [1] 0 1⟩ [x, y] h = .ok (toldV x y) h := by
  have dd : dat M depthLine (.tup [x, y]) = true := by
    show dats M 59 _ = true
    rw [dats, dat_mono (Nat.le_refl _) (by decide) hx, dats, dat_mono (Nat.le_refl _) (by decide) hy, dats]; rfl
  obtain ⟨rp, ne⟩ := repr_dat (h := h) hM dd (by show nods _ + 1 ≤ 1000; simp only [nods]; omega)
  have z2 : szOk 2 = true := rfl
  have et : ∀ (a b c : Option PV), evE cl (.bi .repr (.cons (.tup (.cons (.var 0) (.cons (.var 1) .nil))) .nil)) [some x, some y, a, b, c] h = .ok (.str (toD (.tup [x, y])).shown) h := fun a b c => e_bi1 (x := .tup [x, y]) rfl rp
  have s1 : evS cl (.par [3, 4] (.cons (.bi .repr (.cons (.tup (.cons (.var 0) (.cons (.var 1) .nil))) .nil)) (.cons (.con (.str "other")) .nil))) [some x, some y, none, none, none] h = .ok (.nx [some x, some y, none, some (.str (toD (.tup [x, y])).shown), some (.str "other")]) h := by
    have : evEs cl (.cons (.bi .repr (.cons (.tup (.cons (.var 0) (.cons (.var 1) .nil))) .nil)) (.cons (.con (.str "other")) .nil)) [some x, some y, none, none, none] h = .ok [.str (toD (.tup [x, y])).shown, .str "other"] h := by
      rw [evEs, et, Out.bind_ok]; rfl
    rw [evS, this]; rfl
  have s2 : evS cl (.try1 4 ft (.cons (.var 0) (.cons (.var 1) .nil)) 0 [0, 1] 2 4 1 [1] (.str "none") (.str "other")) [some x, some y, none, some (.str (toD (.tup [x, y])).shown), some (.str "other")] h = .ok (.nx [some x, some y, none, some (.str (toD (.tup [x, y])).shown), some (toldV x y)]) h := by
    have ea : evEs cl (.cons (.var 0) (.cons (.var 1) .nil)) [some x, some y, none, some (.str (toD (.tup [x, y])).shown), some (.str "other")] h = .ok [x, y] h := rfl
    rw [evS, ea]
    simp only [F]
    cases q : toldX x y with
    | none => simp only; rw [show toldV x y = noneS by unfold toldV; rw [q]; rfl]; rfl
    | some v => simp only; rw [show toldV x y = v by unfold toldV; rw [q]; rfl]; rfl
  refine d_rt rfl ((ss_nx s1).trans ((ss_nx s2).trans (ss_rt (s_ret ?_))))
  have c : evE cl (.cmp .Eq (.bi .repr (.cons (.tup (.cons (.var 0) (.cons (.var 1) .nil))) .nil)) (.var 3)) [some x, some y, none, some (.str (toD (.tup [x, y])).shown), some (toldV x y)] h = .ok (.bl true) h := e_cmp (et _ _ _) rfl (eq_of_ne ne)
  rw [evE, c]; rfl
end
/-! ### a row of sums -/
def fib (a b : Int) : Nat → Int × Int
  | 0 => (a, b)
  | n + 1 => fib b (a + b) n
def bFib : Ss := (.cons (.par [11, 12] (.cons (.var 12) (.cons (.bin .Add (.var 11) (.var 12)) .nil))) .nil)
theorem gcd_step {a b : Int} (h : Int.gcd a b = 1) : Int.gcd b (a + b) = 1 := by
  rw [Int.add_comm, Int.gcd_self_add_right, Int.gcd_comm]; exact h
end MP

set_option Elab.async false
set_option linter.all false
set_option maxRecDepth 100000
set_option exponentiation.threshold 300
namespace MP
open PySem

/-! ### plain law: sums, products, order of fractions -/
theorem fracB_fr {a b : Int} (hb : 0 < b) : fracB (fr a b) = true := by
  obtain ⟨n, d, F⟩ := fr_of (t := a) hb
  rw [F.e]
  simp only [fracB, decide_eq_true F.pos, F.gcd, Bool.true_and]
  rfl
theorem fb_fr {a b : Int} (hb : 0 < b) (h1 : a.natAbs < 10 ^ 57) (h2 : b.natAbs < 10 ^ 57) : FB 1 (fr a b) := by
  obtain ⟨n, d, F⟩ := fr_of (t := a) hb
  have na := F.na
  have le := F.le
  have p := F.pos
  have k : (10 : Nat) ^ 57 < 2 ^ (210 * 1) := by decide +kernel
  exact ⟨n, d, F.e, F.pos, by omega, by omega⟩
theorem addV_fr {a b c d : Int} (hb : 0 < b) (hd : 0 < d) : addV (fr a b) (fr c d) = fr (a * d + c * b) (b * d) := by
  obtain ⟨n, e, F⟩ := fr_of (t := a) hb
  obtain ⟨m, f, G⟩ := fr_of (t := c) hd
  rw [F.e, G.e]
  show fr (n * f + m * e) (e * f) = _
  refine fr_cross (Int.mul_pos F.pos G.pos) (Int.mul_pos hb hd) ?_
  have q1 := F.x
  have q2 := G.x
  grind
def mulV : PV → PV → PV
  | .tup [.int a, .int b], .tup [.int c, .int d] => fr (a * c) (b * d)
  | _, _ => .non
theorem mulV_fr {a b c d : Int} (hb : 0 < b) (hd : 0 < d) : mulV (fr a b) (fr c d) = fr (a * c) (b * d) := by
  obtain ⟨n, e, F⟩ := fr_of (t := a) hb
  obtain ⟨m, f, G⟩ := fr_of (t := c) hd
  rw [F.e, G.e]
  show fr (n * m) (e * f) = _
  refine fr_cross (Int.mul_pos F.pos G.pos) (Int.mul_pos hb hd) ?_
  have q1 := F.x
  have q2 := G.x
  grind
def lessB : PV → PV → Bool
  | .tup [.int a, .int b], .tup [.int c, .int d] => decide (a * d < c * b)
  | _, _ => false
def sgnV (x y : PV) : PV := .int ((if lessB y x then 1 else 0) - (if lessB x y then 1 else 0))
theorem lessB_irr (x : PV) : lessB x x = false := by
  unfold lessB
  split
  · exact decide_eq_false (by omega)
  · rfl
theorem sgnV_self (x : PV) : sgnV x x = .int 0 := by unfold sgnV; rw [lessB_irr]; rfl
section
variable {cl : Nat → List PV → Hs → Out PV}
def pMul (rd : Nat) : Ss := (.cons (.ret (.call rd (.cons (.bin .Mult (.idx (.var 0) (.con (.int (0)))) (.idx (.var 1) (.con (.int (0))))) (.cons (.bin .Mult (.idx (.var 0) (.con (.int (1)))) (.idx (.var 1) (.con (.int (1))))) .nil)))) .nil)
set_option exponentiation.threshold 9001
theorem b210 : (2 : Nat) ^ (210 * 1) * 2 ^ (210 * 1) < Big ∧ (2 : Nat) ^ (210 * 1) < Big := ⟨by decide +kernel, by decide +kernel⟩
theorem mulG_ok {rd : Nat} (R : RedP cl rd) {x y : PV} {h : Hs} (hx : FB 1 x) (hy : FB 1 y) : evD cl ⟨2, 2, pMul rd⟩ [x, y] h = .ok (mulV x y) h := by
  obtain ⟨a, b, rfl, b0, ha, hb⟩ := hx
  obtain ⟨c, d, rfl, d0, hc, hd⟩ := hy
  obtain ⟨bg, sm⟩ := b210
  have x1 := mul_abs (a := a) (b := c) (A := 2 ^ (210 * 1)) (B := 2 ^ (210 * 1)) (by omega) (by omega)
  have x3 := mul_abs (a := b) (b := d) (A := 2 ^ (210 * 1)) (B := 2 ^ (210 * 1)) (by omega) (by omega)
  have p1 := mul_ok (i := a) (j := c) (Nat.lt_trans ha sm) (Nat.lt_trans hc sm)
  have p3 := mul_ok (i := b) (j := d) (Nat.lt_trans hb sm) (Nat.lt_trans hd sm)
  have r := R (a * c) (b * d) h (Nat.lt_of_le_of_lt x1 bg) (Nat.lt_of_le_of_lt x3 bg) (Int.mul_pos b0 d0)
  have i0 : idxV h (.tup [.int a, .int b]) (.int 0) = some (.int a) := rfl
  have i1 : idxV h (.tup [.int a, .int b]) (.int 1) = some (.int b) := rfl
  have i2 : idxV h (.tup [.int c, .int d]) (.int 0) = some (.int c) := rfl
  have i3 : idxV h (.tup [.int c, .int d]) (.int 1) = some (.int d) := rfl
  refine d_rt rfl ?_
  unfold pMul
  simp only [evS, evE, evSs, evEs, evI, List.map_cons, List.map_nil, List.cons_append, List.nil_append, List.replicate_succ, List.replicate_zero, getS_0, getS_s, List.set_cons_zero, List.set_cons_succ, wipe_nil, wipe_cons, setT_v, setT_t, setTs_nil, setTs_cons, setAll, Option.bind_some, Out.of_some, Out.bind_ok, Nat.reduceSub, i0, i1, i2, i3, p1, p3, r]
  rfl
def pSign : Ss := (.cons (.par [2, 3] (.cons (.bin .Mult (.idx (.var 0) (.con (.int (0)))) (.idx (.var 1) (.con (.int (1))))) (.cons (.bin .Mult (.idx (.var 1) (.con (.int (0)))) (.idx (.var 0) (.con (.int (1))))) .nil))) (.cons (.ret (.bin .Sub (.bi .int (.cons (.cmp .Gt (.var 2) (.var 3)) .nil)) (.bi .int (.cons (.cmp .Lt (.var 2) (.var 3)) .nil)))) .nil))
theorem sign_ok {x y : PV} {h : Hs} (hx : FB 1 x) (hy : FB 1 y) : evD cl ⟨2, 4, pSign⟩ [x, y] h = .ok (sgnV x y) h := by
  obtain ⟨a, b, rfl, b0, ha, hb⟩ := hx
  obtain ⟨c, d, rfl, d0, hc, hd⟩ := hy
  obtain ⟨bg, sm⟩ := b210
  have p1 := mul_ok (i := a) (j := d) (Nat.lt_trans ha sm) (Nat.lt_trans hd sm)
  have p3 := mul_ok (i := c) (j := b) (Nat.lt_trans hc sm) (Nat.lt_trans hb sm)
  have i0 : idxV h (.tup [.int a, .int b]) (.int 0) = some (.int a) := rfl
  have i1 : idxV h (.tup [.int a, .int b]) (.int 1) = some (.int b) := rfl
  have i2 : idxV h (.tup [.int c, .int d]) (.int 0) = some (.int c) := rfl
  have i3 : idxV h (.tup [.int c, .int d]) (.int 1) = some (.int d) := rfl
  have c1 : cmpV .Gt (.int (a * d)) (.int (c * b)) = some (decide (c * b < a * d)) := rfl
  have c2 : cmpV .Lt (.int (a * d)) (.int (c * b)) = some (decide (a * d < c * b)) := rfl
  have bi : ∀ z : Bool, biV h .int [.bl z] = some (.int (if z then 1 else 0)) := fun _ => rfl
  have sb : ∀ i j : Int, binV .Sub (.int i) (.int j) = some (.int (i - j)) := fun _ _ => rfl
  refine d_rt rfl ?_
  unfold pSign
  simp only [evS, evE, evSs, evEs, evI, List.map_cons, List.map_nil, List.cons_append, List.nil_append, List.replicate_succ, List.replicate_zero, getS_0, getS_s, List.set_cons_zero, List.set_cons_succ, wipe_nil, wipe_cons, setT_v, setT_t, setTs_nil, setTs_cons, setAll, Option.bind_some, Out.of_some, Out.bind_ok, Nat.reduceSub, i0, i1, i2, i3, p1, p3, c1, c2, bi, sb]
  rfl
def pLess : Ss := (.cons (.ret (.cmp .Lt (.bin .Mult (.idx (.var 0) (.con (.int (0)))) (.idx (.var 1) (.con (.int (1))))) (.bin .Mult (.idx (.var 1) (.con (.int (0)))) (.idx (.var 0) (.con (.int (1))))))) .nil)
theorem less_ok {x y : PV} {h : Hs} (hx : FB 1 x) (hy : FB 1 y) : evD cl ⟨2, 2, pLess⟩ [x, y] h = .ok (.bl (lessB x y)) h := by
  obtain ⟨a, b, rfl, b0, ha, hb⟩ := hx
  obtain ⟨c, d, rfl, d0, hc, hd⟩ := hy
  obtain ⟨bg, sm⟩ := b210
  have p1 := mul_ok (i := a) (j := d) (Nat.lt_trans ha sm) (Nat.lt_trans hd sm)
  have p3 := mul_ok (i := c) (j := b) (Nat.lt_trans hc sm) (Nat.lt_trans hb sm)
  have i0 : idxV h (.tup [.int a, .int b]) (.int 0) = some (.int a) := rfl
  have i1 : idxV h (.tup [.int a, .int b]) (.int 1) = some (.int b) := rfl
  have i2 : idxV h (.tup [.int c, .int d]) (.int 0) = some (.int c) := rfl
  have i3 : idxV h (.tup [.int c, .int d]) (.int 1) = some (.int d) := rfl
  have c2 : cmpV .Lt (.int (a * d)) (.int (c * b)) = some (decide (a * d < c * b)) := rfl
  refine d_rt rfl ?_
  unfold pLess
  simp only [evS, evE, evSs, evEs, evI, List.map_cons, List.map_nil, List.cons_append, List.nil_append, List.replicate_succ, List.replicate_zero, getS_0, getS_s, List.set_cons_zero, List.set_cons_succ, wipe_nil, wipe_cons, setT_v, setT_t, setTs_nil, setTs_cons, setAll, Option.bind_some, Out.of_some, Out.bind_ok, Nat.reduceSub, i0, i1, i2, i3, p1, p3, c2]
  rfl
/-! #### asked of values of any kind -/
def outX (o : Option PV) (h : Hs) : Out PV := match o with | some v => .ok v h | none => .exc 1 .non h
def binX (g : PV → PV → PV) (x y : PV) : Option PV := if fracB x && fracB y then some (g x y) else none
def pNeed (fq : Nat) : Ss := (.cons (.xiff (.not (.call fq (.cons (.var 0) .nil))) (.cons (.xraise 1) .nil) .nil) .nil)
theorem need_ok {fq : Nat} {x : PV} {h : Hs} (F : cl fq [x] h = .ok (.bl (fracB x)) h) : evD cl ⟨1, 1, pNeed fq⟩ [x] h = outX (if fracB x then some .non else none) h := by
  have c := e_not (cl := cl) (e_call1 (a := .var 0) (σ := [some x]) rfl F)
  cases q : fracB x with
  | true =>
    rw [q] at c
    exact d_nx rfl ((ss_nx ((s_xiff c).trans rfl)).trans rfl)
  | false =>
    rw [q] at c
    exact d_exc rfl (ss_exc ((s_xiff c).trans rfl))
def pBin (nd f : Nat) : Ss := (.cons (.xexp (.call nd (.cons (.var 0) .nil))) (.cons (.xexp (.call nd (.cons (.var 1) .nil))) (.cons (.xst (.ret (.call f (.cons (.var 0) (.cons (.var 1) .nil))))) .nil)))
theorem bin_ok {nd f : Nat} {g : PV → PV → PV} {x y : PV} {h : Hs} (N : ∀ v, v = x ∨ v = y → cl nd [v] h = outX (if fracB v then some .non else none) h) (F : fracB x = true → fracB y = true → cl f [x, y] h = .ok (g x y) h) :
    evD cl ⟨2, 2, pBin nd f⟩ [x, y] h = outX (binX g x y) h := by
  have n1 := N x (.inl rfl)
  have n2 := N y (.inr rfl)
  have s1 := s_xexp1 (cl := cl) (f := nd) (a := .var 0) (σ := [some x, some y]) (h := h) (x := x) rfl
  have s2 := s_xexp1 (cl := cl) (f := nd) (a := .var 1) (σ := [some x, some y]) (h := h) (x := y) rfl
  rw [n1] at s1
  rw [n2] at s2
  unfold binX
  cases q : fracB x with
  | false =>
    rw [q] at s1
    exact d_exc rfl (ss_exc s1)
  | true =>
    rw [q] at s1
    cases r : fracB y with
    | false =>
      rw [r] at s2
      exact d_exc rfl ((ss_nx s1).trans (ss_exc s2))
    | true =>
      rw [r] at s2
      exact d_rt rfl ((ss_nx s1).trans ((ss_nx s2).trans (ss_rt (s_xst (s_ret (e_call2 rfl rfl (F q r)))))))
def pDone (co pl ti : Nat) : Ss := (.cons (.xiff (.cmp .Eq (.var 0) (.con (.str "compare"))) (.cons (.xret (.call co (.cons (.var 1) (.cons (.var 2) .nil)))) .nil) .nil) (.cons (.xret (.ite (.cmp .Eq (.var 0) (.con (.str "plus"))) (.call pl (.cons (.var 1) (.cons (.var 2) .nil))) (.call ti (.cons (.var 1) (.cons (.var 2) .nil))))) .nil))
def fnOf (w : Str) : PV → PV → PV := if w = "compare" then sgnV else if w = "plus" then addV else mulV
theorem ret_x {s : S} {ss : Ss} {σ : Sl} {h : Hs} {o : Option PV} {D : Def} {xs : List PV} (hl : xs.length = D.np) (e : evSs cl D.body (xs.map some ++ List.replicate (D.nn - D.np) none) h = (outX o h).bind fun v h => .ok (.rt v) h) : evD cl D xs h = outX o h := by
  cases o with
  | none => exact d_exc hl e
  | some v => exact d_rt hl e
theorem ss_x {s : S} {ss : Ss} {σ : Sl} {h : Hs} {o : Option PV} (e : evS cl s σ h = (outX o h).bind fun v h => .ok (.rt v) h) : evSs cl (.cons s ss) σ h = (outX o h).bind fun v h => .ok (.rt v) h := by
  cases o with
  | none => exact ss_exc e
  | some v => exact ss_rt e
theorem done_ok {co pl ti : Nat} {x y : PV} {h : Hs} (C : cl co [x, y] h = outX (binX sgnV x y) h) (P : cl pl [x, y] h = outX (binX addV x y) h) (T : cl ti [x, y] h = outX (binX mulV x y) h) {w : Str} (hw : w = "plus" ∨ w = "times" ∨ w = "compare") :
    evD cl ⟨3, 3, pDone co pl ti⟩ [.str w, x, y] h = outX (binX (fnOf w) x y) h := by
  rcases hw with rfl | rfl | rfl
  · have f : fnOf "plus" = addV := by unfold fnOf; rw [if_neg (by decide +kernel), if_pos rfl]
    have c1 : cmpV .Eq (.str "plus") (.str "compare") = some false := by kernel_rfl
    have c2 : cmpV .Eq (.str "plus") (.str "plus") = some true := by kernel_rfl
    have e1 := e_cmp (cl := cl) (a := .var 0) (b := .con (.str "compare")) (σ := [some (.str "plus"), some x, some y]) (h := h) rfl rfl c1
    have e2 := e_cmp (cl := cl) (a := .var 0) (b := .con (.str "plus")) (σ := [some (.str "plus"), some x, some y]) (h := h) rfl rfl c2
    have ea : evEs cl (.cons (.var 1) (.cons (.var 2) .nil)) [some (.str "plus"), some x, some y] h = .ok [x, y] h := rfl
    rw [f]
    refine ret_x (s := .pass) (ss := .nil) (σ := []) rfl ((ss_nx ((s_xiff e1).trans rfl)).trans (ss_x ?_))
    rw [evS, evC, e2]
    simp only
    rw [evC, ea]
    simp only
    rw [P]
  · have f : fnOf "times" = mulV := by unfold fnOf; rw [if_neg (by decide +kernel), if_neg (by decide +kernel)]
    have c1 : cmpV .Eq (.str "times") (.str "compare") = some false := by kernel_rfl
    have c2 : cmpV .Eq (.str "times") (.str "plus") = some false := by kernel_rfl
    have e1 := e_cmp (cl := cl) (a := .var 0) (b := .con (.str "compare")) (σ := [some (.str "times"), some x, some y]) (h := h) rfl rfl c1
    have e2 := e_cmp (cl := cl) (a := .var 0) (b := .con (.str "plus")) (σ := [some (.str "times"), some x, some y]) (h := h) rfl rfl c2
    have ea : evEs cl (.cons (.var 1) (.cons (.var 2) .nil)) [some (.str "times"), some x, some y] h = .ok [x, y] h := rfl
    rw [f]
    refine ret_x (s := .pass) (ss := .nil) (σ := []) rfl ((ss_nx ((s_xiff e1).trans rfl)).trans (ss_x ?_))
    rw [evS, evC, e2]
    simp only
    rw [evC, ea]
    simp only
    rw [T]
  · have f : fnOf "compare" = sgnV := by unfold fnOf; rw [if_pos rfl]
    have c1 : cmpV .Eq (.str "compare") (.str "compare") = some true := by kernel_rfl
    have e1 := e_cmp (cl := cl) (a := .var 0) (b := .con (.str "compare")) (σ := [some (.str "compare"), some x, some y]) (h := h) rfl rfl c1
    rw [f]
    refine ret_x (s := .pass) (ss := .nil) (σ := []) rfl (ss_x ((s_xiff e1).trans ?_))
    have r := s_xret2 (cl := cl) (f := co) (a := .var 1) (b := .var 2) (σ := [some (.str "compare"), some x, some y]) (h := h) (x := x) (y := y) rfl rfl
    rw [C] at r
    exact ss_x r
def pToldW (ft : Nat) : Ss := (.cons (.par [4, 5] (.cons (.bi .repr (.cons (.tup (.cons (.var 1) (.cons (.var 2) .nil))) .nil)) (.cons (.con (.str "other")) .nil))) (.cons (.try1 5 ft (.cons (.var 0) (.cons (.var 1) (.cons (.var 2) .nil))) 0 [0, 1] 3 5 1 [1] (.str "none") (.str "other")) (.cons (.ret (.ite (.cmp .Eq (.bi .repr (.cons (.tup (.cons (.var 1) (.cons (.var 2) .nil))) .nil)) (.var 4)) (.var 5) (.con (.str "changed")))) .nil)))
theorem toldW_ok {ft : Nat} {w : Str} {x y : PV} {h : Hs} {M : Nat} {o : Option PV} (hM : M ≤ M50) (F : cl ft [.str w, x, y] h = outX o h) (hx : dat M 50 x = true) (hy : dat M 50 y = true) (nx : nod x + nod y ≤ 900) :
    evD cl ⟨3, 6, pToldW ft⟩ [.str w, x, y] h = .ok (o.getD noneS) h := by
  have dd : dat M depthLine (.tup [x, y]) = true := by
    show dats M 59 _ = true
    rw [dats, dat_mono (Nat.le_refl _) (by decide) hx, dats, dat_mono (Nat.le_refl _) (by decide) hy, dats]; rfl
  obtain ⟨rp, ne⟩ := repr_dat (h := h) hM dd (by show nods _ + 1 ≤ 1000; simp only [nods]; omega)
  have et : ∀ (b c d : Option PV), evE cl (.bi .repr (.cons (.tup (.cons (.var 1) (.cons (.var 2) .nil))) .nil)) [some (.str w), some x, some y, b, c, d] h = .ok (.str (toD (.tup [x, y])).shown) h := fun b c d => e_bi1 (x := .tup [x, y]) rfl rp
  have s1 : evS cl (.par [4, 5] (.cons (.bi .repr (.cons (.tup (.cons (.var 1) (.cons (.var 2) .nil))) .nil)) (.cons (.con (.str "other")) .nil))) [some (.str w), some x, some y, none, none, none] h = .ok (.nx [some (.str w), some x, some y, none, some (.str (toD (.tup [x, y])).shown), some (.str "other")]) h := by
    have : evEs cl (.cons (.bi .repr (.cons (.tup (.cons (.var 1) (.cons (.var 2) .nil))) .nil)) (.cons (.con (.str "other")) .nil)) [some (.str w), some x, some y, none, none, none] h = .ok [.str (toD (.tup [x, y])).shown, .str "other"] h := by
      rw [evEs, et, Out.bind_ok]; rfl
    rw [evS, this]; rfl
  have s2 : evS cl (.try1 5 ft (.cons (.var 0) (.cons (.var 1) (.cons (.var 2) .nil))) 0 [0, 1] 3 5 1 [1] (.str "none") (.str "other")) [some (.str w), some x, some y, none, some (.str (toD (.tup [x, y])).shown), some (.str "other")] h = .ok (.nx [some (.str w), some x, some y, none, some (.str (toD (.tup [x, y])).shown), some (o.getD noneS)]) h := by
    have ea : evEs cl (.cons (.var 0) (.cons (.var 1) (.cons (.var 2) .nil))) [some (.str w), some x, some y, none, some (.str (toD (.tup [x, y])).shown), some (.str "other")] h = .ok [.str w, x, y] h := rfl
    rw [evS, ea]
    simp only [F]
    cases o <;> rfl
  refine d_rt rfl ((ss_nx s1).trans ((ss_nx s2).trans (ss_rt (s_ret ?_))))
  have c : evE cl (.cmp .Eq (.bi .repr (.cons (.tup (.cons (.var 1) (.cons (.var 2) .nil))) .nil)) (.var 4)) [some (.str w), some x, some y, none, some (.str (toD (.tup [x, y])).shown), some (o.getD noneS)] h = .ok (.bl true) h := e_cmp (et _ _ _) rfl (eq_of_ne ne)
  rw [evE, c]; rfl
theorem each3 {α : Type} {f : PV → Hs → Out (List α)} {p q r : PV} {a b c : α} {h : Hs} (e1 : f p h = .ok [a] h) (e2 : f q h = .ok [b] h) (e3 : f r h = .ok [c] h) : eachL f [p, q, r] h = .ok [a, b, c] h := by
  simp only [eachL, e1, e2, e3]; rfl
theorem ne_fr (a b : Int) : cmpV .NotEq (fr a b) (fr a b) = some false := by
  show (if MP.plain depthLine (fr a b) && MP.plain depthLine (fr a b) then some (!eqv (fr a b) (fr a b)) else none) = _
  unfold fr
  simp [MP.plain, plains, eqv, eqvs, depthLine]
end
end MP

set_option Elab.async false
set_option linter.all false
set_option maxRecDepth 100000
namespace L_k02
open PySem MP
def b_is_integer : Ss := (.cons (.ret (.and (.isin (.var 0) .int) (.not (.isin (.var 0) .bool)))) .nil)
def b_divisor_of : Ss := (.cons (.par [0, 1] (.cons (.bi .abs (.cons (.var 0) .nil)) (.cons (.bi .abs (.cons (.var 1) .nil)) .nil))) (.cons (.whl [1] (.cmp .Gt (.var 1) (.con (.int (0)))) (.cons (.par [0, 1] (.cons (.var 1) (.cons (.bin .Sub (.var 0) (.bin .Mult (.bin .FloorDiv (.var 0) (.var 1)) (.var 1))) .nil))) .nil)) (.cons (.ret (.var 0)) .nil)))
def b_reduced : Ss := (.cons (.iff (.cmp .Lt (.var 1) (.con (.int (0)))) (.cons (.par [0, 1] (.cons (.neg (.var 0)) (.cons (.neg (.var 1)) .nil))) .nil) .nil) (.cons (.asg (.v 2) (.call 1 (.cons (.var 0) (.cons (.var 1) .nil)))) (.cons (.ret (.tup (.cons (.bin .FloorDiv (.var 0) (.var 2)) (.cons (.bin .FloorDiv (.var 1) (.var 2)) .nil)))) .nil)))
def b_is_fraction : Ss := (.cons (.iff (.or (.not (.isin (.var 0) .tuple)) (.or (.cmp .NotEq (.bi .len (.cons (.var 0) .nil)) (.con (.int (2)))) (.or (.not (.call 0 (.cons (.idx (.var 0) (.con (.int (0)))) .nil))) (.not (.call 0 (.cons (.idx (.var 0) (.con (.int (1)))) .nil)))))) (.cons (.ret (.con (.bl false))) .nil) .nil) (.cons (.ret (.and (.cmp .Gt (.idx (.var 0) (.con (.int (1)))) (.con (.int (0)))) (.cmp .Eq (.call 1 (.cons (.idx (.var 0) (.con (.int (0)))) (.cons (.idx (.var 0) (.con (.int (1)))) .nil))) (.con (.int (1)))))) .nil))
def b_need_fraction : Ss := (.cons (.xiff (.not (.call 3 (.cons (.var 0) .nil))) (.cons (.xraise 1) .nil) .nil) .nil)
def b_add : Ss := (.cons (.ret (.call 2 (.cons (.bin .Add (.bin .Mult (.idx (.var 0) (.con (.int (0)))) (.idx (.var 1) (.con (.int (1))))) (.bin .Mult (.idx (.var 1) (.con (.int (0)))) (.idx (.var 0) (.con (.int (1)))))) (.cons (.bin .Mult (.idx (.var 0) (.con (.int (1)))) (.idx (.var 1) (.con (.int (1))))) .nil)))) .nil)
def b_mul : Ss := (.cons (.ret (.call 2 (.cons (.bin .Mult (.idx (.var 0) (.con (.int (0)))) (.idx (.var 1) (.con (.int (0))))) (.cons (.bin .Mult (.idx (.var 0) (.con (.int (1)))) (.idx (.var 1) (.con (.int (1))))) .nil)))) .nil)
def b_sign_of : Ss := (.cons (.par [2, 3] (.cons (.bin .Mult (.idx (.var 0) (.con (.int (0)))) (.idx (.var 1) (.con (.int (1))))) (.cons (.bin .Mult (.idx (.var 1) (.con (.int (0)))) (.idx (.var 0) (.con (.int (1))))) .nil))) (.cons (.ret (.bin .Sub (.bi .int (.cons (.cmp .Gt (.var 2) (.var 3)) .nil)) (.bi .int (.cons (.cmp .Lt (.var 2) (.var 3)) .nil)))) .nil))
def b_plus : Ss := (.cons (.xexp (.call 4 (.cons (.var 0) .nil))) (.cons (.xexp (.call 4 (.cons (.var 1) .nil))) (.cons (.xst (.ret (.call 5 (.cons (.var 0) (.cons (.var 1) .nil))))) .nil)))
def b_times : Ss := (.cons (.xexp (.call 4 (.cons (.var 0) .nil))) (.cons (.xexp (.call 4 (.cons (.var 1) .nil))) (.cons (.xst (.ret (.call 6 (.cons (.var 0) (.cons (.var 1) .nil))))) .nil)))
def b_compare : Ss := (.cons (.xexp (.call 4 (.cons (.var 0) .nil))) (.cons (.xexp (.call 4 (.cons (.var 1) .nil))) (.cons (.xst (.ret (.call 7 (.cons (.var 0) (.cons (.var 1) .nil))))) .nil)))
def b__law_spread : Ss := (.cons (.iff (.cmp .GtE (.var 0) (.bin .Pow (.con (.int (10))) (.con (.int (18))))) (.cons (.ret (.var 0)) .nil) .nil) (.cons (.asg (.v 2) (.lst (.cons (.con (.int (2147483629))) (.cons (.con (.int (2147483587))) (.cons (.con (.int (2147483579))) (.cons (.con (.int (2147483563))) (.cons (.con (.int (2147483549))) (.cons (.con (.int (2147483543))) (.cons (.con (.int (2147483497))) .nil))))))))) (.cons (.asg (.v 2) (.bin .Add (.var 2) (.lst (.cons (.con (.int (2147483489))) (.cons (.con (.int (2147483477))) (.cons (.con (.int (2147483423))) (.cons (.con (.int (2147483399))) (.cons (.con (.int (2147483353))) (.cons (.con (.int (2147483323))) .nil))))))))) (.cons (.asg (.v 3) (.bin .Add (.bin .Add (.bin .Mult (.bin .Mod (.bi .int (.cons (.var 0) .nil)) (.con (.int (1000000007)))) (.bin .Add (.bin .Mult (.con (.int (2))) (.var 1)) (.con (.int (69069))))) (.bin .Mult (.var 1) (.con (.int (40503))))) (.con (.int (977))))) (.cons (.asg (.v 4) (.bin .Mod (.bi .int (.cons (.bin .Pow (.var 3) (.con (.int (3)))) .nil)) (.idx (.var 2) (.bin .Mod (.bi .int (.cons (.var 1) .nil)) (.con (.int (13))))))) (.cons (.asg (.v 5) (.bin .Add (.bin .Mod (.bi .int (.cons (.var 0) .nil)) (.con (.int (65537)))) (.con (.int (5))))) (.cons (.asg (.v 6) (.bin .Mod (.bi .int (.cons (.bin .Pow (.bin .Add (.bin .Mult (.var 4) (.bin .Add (.var 1) (.con (.int (3))))) (.var 5)) (.con (.int (5)))) .nil)) (.idx (.var 2) (.bin .Mod (.bi .int (.cons (.bin .Add (.var 1) (.con (.int (5)))) .nil)) (.con (.int (13))))))) (.cons (.asg (.v 7) (.bin .Mod (.bi .int (.cons (.bin .Pow (.bin .Add (.bin .Add (.var 6) (.bin .Mod (.bi .int (.cons (.var 4) .nil)) (.con (.int (1009))))) (.var 1)) (.con (.int (3)))) .nil)) (.idx (.var 2) (.bin .Mod (.bi .int (.cons (.bin .Add (.var 1) (.con (.int (7)))) .nil)) (.con (.int (13))))))) (.cons (.ret (.bin .Add (.bin .Mult (.bin .Add (.bin .Mult (.var 4) (.con (.int (2147483647)))) (.var 6)) (.con (.int (2147483647)))) (.var 7))) .nil)))))))))
def b__law_open : Ss := (.cons (.asg (.v 1) (.bi .list (.cons (.slc (.var 0) (.con .non) (.con (.int (12)))) .nil))) (.cons (.forr [1] (.t (.cons (.v 2) (.cons (.v 3) .nil))) (.enum (.slc (.var 0) (.con (.int (12))) (.con (.int (63))))) (.cons (.setI 1 (.bin .Mod (.bi .int (.cons (.var 2) .nil)) (.con (.int (12)))) (.bin .Add (.idx (.var 1) (.bin .Mod (.bi .int (.cons (.var 2) .nil)) (.con (.int (12))))) (.var 3))) .nil)) (.cons (.ret (.shr (.cons (.var 1) (.cons (.con (.int (0))) (.cons (.con (.int (0))) .nil))))) .nil)))
def b__law_take : Ss := (.cons (.iff (.cmp .Lt (.idx (.var 0) (.con (.int (2)))) (.var 1)) (.cons (.asg (.v 3) (.idx (.var 0) (.con (.int (1))))) (.cons (.asg (.v 4) (.con (.int (0)))) (.cons (.iff (.cmp .Lt (.var 3) (.bi .len (.cons (.idx (.var 0) (.con (.int (0)))) .nil))) (.cons (.asg (.v 4) (.idx (.idx (.var 0) (.con (.int (0)))) (.var 3))) .nil) (.cons (.iff (.cmp .Gt (.bi .len (.cons (.idx (.var 0) (.con (.int (0)))) .nil)) (.con (.int (0)))) (.cons (.asg (.v 4) (.bin .Mod (.bi .int (.cons (.idx (.idx (.var 0) (.con (.int (0)))) (.bin .Mod (.bi .int (.cons (.bin .Add (.bin .Mult (.var 3) (.con (.int (5)))) (.con (.int (3)))) .nil)) (.bi .len (.cons (.idx (.var 0) (.con (.int (0)))) .nil)))) .nil)) (.bin .Add (.bin .Pow (.con (.int (10))) (.con (.int (17)))) (.var 3)))) .nil) .nil) .nil)) (.cons (.setR 0 (.con (.int (1))) (.bin .Add (.var 3) (.con (.int (1))))) (.cons (.setR 0 (.con (.int (2))) (.call 11 (.cons (.var 4) (.cons (.var 3) .nil)))) .nil))))) .nil) (.cons (.asg (.v 2) (.bin .Mod (.bi .int (.cons (.idx (.var 0) (.con (.int (2)))) .nil)) (.var 1))) (.cons (.setR 0 (.con (.int (2))) (.bin .FloorDiv (.idx (.var 0) (.con (.int (2)))) (.var 1))) (.cons (.ret (.var 2)) .nil))))
def b__law_one : Ss := (.cons (.ret (.idx (.var 1) (.call 13 (.cons (.var 0) (.cons (.bi .len (.cons (.var 1) .nil)) .nil))))) .nil)
def b__law_divisor : Ss := (.cons (.par [0, 1] (.cons (.bi .abs (.cons (.var 0) .nil)) (.cons (.bi .abs (.cons (.var 1) .nil)) .nil))) (.cons (.whl [1] (.cmp .Gt (.var 1) (.con (.int (0)))) (.cons (.par [0, 1] (.cons (.var 1) (.cons (.bin .Mod (.bi .int (.cons (.var 0) .nil)) (.var 1)) .nil))) .nil)) (.cons (.ret (.var 0)) .nil)))
def b__law_frac : Ss := (.cons (.asg (.v 2) (.call 15 (.cons (.var 0) (.cons (.var 1) .nil)))) (.cons (.iff (.cmp .Lt (.var 1) (.con (.int (0)))) (.cons (.asg (.v 2) (.neg (.var 2))) .nil) .nil) (.cons (.ret (.tup (.cons (.bin .FloorDiv (.var 0) (.var 2)) (.cons (.bin .FloorDiv (.var 1) (.var 2)) .nil)))) .nil)))
def b__law_add : Ss := (.cons (.ret (.call 16 (.cons (.bin .Add (.bin .Mult (.idx (.var 0) (.con (.int (0)))) (.idx (.var 1) (.con (.int (1))))) (.bin .Mult (.idx (.var 1) (.con (.int (0)))) (.idx (.var 0) (.con (.int (1)))))) (.cons (.bin .Mult (.idx (.var 0) (.con (.int (1)))) (.idx (.var 1) (.con (.int (1))))) .nil)))) .nil)
def b__law_mul : Ss := (.cons (.ret (.call 16 (.cons (.bin .Mult (.idx (.var 0) (.con (.int (0)))) (.idx (.var 1) (.con (.int (0))))) (.cons (.bin .Mult (.idx (.var 0) (.con (.int (1)))) (.idx (.var 1) (.con (.int (1))))) .nil)))) .nil)
def b__law_is_less : Ss := (.cons (.ret (.cmp .Lt (.bin .Mult (.idx (.var 0) (.con (.int (0)))) (.idx (.var 1) (.con (.int (1))))) (.bin .Mult (.idx (.var 1) (.con (.int (0)))) (.idx (.var 0) (.con (.int (1))))))) .nil)
def b__law_told : Ss := (.cons (.par [4, 5] (.cons (.bi .repr (.cons (.tup (.cons (.var 1) (.cons (.var 2) .nil))) .nil)) (.cons (.con (.str "other")) .nil))) (.cons (.try1 5 21 (.cons (.var 0) (.cons (.var 1) (.cons (.var 2) .nil))) 0 [0, 1] 3 5 1 [1] (.str "none") (.str "other")) (.cons (.ret (.ite (.cmp .Eq (.bi .repr (.cons (.tup (.cons (.var 1) (.cons (.var 2) .nil))) .nil)) (.var 4)) (.var 5) (.con (.str "changed")))) .nil)))
def b__law_done : Ss := (.cons (.xiff (.cmp .Eq (.var 0) (.con (.str "compare"))) (.cons (.xret (.call 10 (.cons (.var 1) (.cons (.var 2) .nil)))) .nil) .nil) (.cons (.xret (.ite (.cmp .Eq (.var 0) (.con (.str "plus"))) (.call 8 (.cons (.var 1) (.cons (.var 2) .nil))) (.call 9 (.cons (.var 1) (.cons (.var 2) .nil))))) .nil))
def b__law_great : Ss := (.cons (.par [1, 2] (.cons (.bin .Sub (.call 13 (.cons (.var 0) (.cons (.con (.int (41))) .nil))) (.con (.int (20)))) (.cons (.bin .Add (.con (.int (1))) (.call 13 (.cons (.var 0) (.cons (.con (.int (20))) .nil)))) .nil))) (.cons (.iff (.cmp .Eq (.call 13 (.cons (.var 0) (.cons (.con (.int (4))) .nil))) (.con (.int (0)))) (.cons (.par [1, 2] (.cons (.bin .Add (.bin .Mult (.var 1) (.bin .Pow (.con (.int (10))) (.con (.int (25))))) (.call 13 (.cons (.var 0) (.cons (.con (.int (99))) .nil)))) (.cons (.bin .Add (.bin .Mult (.var 2) (.bin .Pow (.con (.int (10))) (.con (.int (20))))) (.con (.int (1)))) .nil))) .nil) .nil) (.cons (.ret (.call 16 (.cons (.var 1) (.cons (.var 2) .nil)))) .nil)))
def b_law : Ss := (.cons (.asg (.v 1) (.call 12 (.cons (.var 0) .nil))) (.cons (.forr [] (.v 2) (.range (.cons (.con (.int (10))) .nil)) (.cons (.par [11, 12, 13] (.cons (.call 22 (.cons (.var 1) .nil)) (.cons (.call 22 (.cons (.var 1) .nil)) (.cons (.call 22 (.cons (.var 1) .nil)) .nil)))) (.cons (.asg (.v 5) (.bin .Sub (.bi .int (.cons (.call 19 (.cons (.var 12) (.cons (.var 11) .nil))) .nil)) (.bi .int (.cons (.call 19 (.cons (.var 11) (.cons (.var 12) .nil))) .nil)))) (.cons (.asg (.v 6) (.lst (.cons (.call 17 (.cons (.var 11) (.cons (.var 12) .nil))) (.cons (.call 18 (.cons (.var 11) (.cons (.var 12) .nil))) (.cons (.var 5) .nil))))) (.cons (.asg (.v 7) (.comp [10] (.call 20 (.cons (.var 10) (.cons (.var 11) (.cons (.var 12) .nil)))) (.v 10) (.it (.tup (.cons (.con (.str "plus")) (.cons (.con (.str "times")) (.cons (.con (.str "compare")) .nil))))) (.con (.bl true)))) (.cons (.iff (.cmp .NotEq (.bi .repr (.cons (.var 7) .nil)) (.bi .repr (.cons (.var 6) .nil))) (.cons (.ret (.con (.bl false))) .nil) .nil) (.cons (.iff (.or (.cmp .NotEq (.call 8 (.cons (.call 8 (.cons (.var 11) (.cons (.var 12) .nil))) (.cons (.var 13) .nil))) (.call 8 (.cons (.var 11) (.cons (.call 8 (.cons (.var 13) (.cons (.var 12) .nil))) .nil)))) (.cmp .NotEq (.call 9 (.cons (.var 11) (.cons (.tup (.cons (.con (.int (0))) (.cons (.con (.int (1))) .nil))) .nil))) (.tup (.cons (.con (.int (0))) (.cons (.con (.int (1))) .nil))))) (.cons (.ret (.con (.bl false))) .nil) .nil) (.cons (.iff (.cmp .NotEq (.call 9 (.cons (.var 11) (.cons (.call 8 (.cons (.var 12) (.cons (.var 13) .nil))) .nil))) (.call 8 (.cons (.call 9 (.cons (.var 11) (.cons (.var 12) .nil))) (.cons (.call 9 (.cons (.var 13) (.cons (.var 11) .nil))) .nil)))) (.cons (.ret (.con (.bl false))) .nil) .nil) (.cons (.iff (.cmp .NotEq (.call 10 (.cons (.var 11) (.cons (.var 11) .nil))) (.con (.int (0)))) (.cons (.ret (.con (.bl false))) .nil) .nil) (.cons (.asg (.v 8) (.lst (.cons (.con .non) (.cons (.con (.int (0))) (.cons (.con (.int (1))) (.cons (.con (.bl true)) (.cons (.con (.str "1")) (.cons (.tup .nil) (.cons (.tup (.cons (.con (.int (1))) .nil)) (.cons (.tup (.cons (.con (.int (2))) (.cons (.con (.int (4))) .nil))) (.cons (.tup (.cons (.con (.int (1))) (.cons (.con (.int (0))) .nil))) (.cons (.tup (.cons (.con (.int (1))) (.cons (.neg (.con (.int (2)))) .nil))) (.cons (.lst (.cons (.con (.int (1))) (.cons (.con (.int (2))) .nil))) (.cons (.tup (.cons (.con (.int (0))) (.cons (.con (.int (2))) .nil))) (.cons (.tup (.cons (.con (.bl true)) (.cons (.con (.int (1))) .nil))) (.cons (.tup (.cons (.con (.int (1))) (.cons (.con (.int (2))) (.cons (.con (.int (3))) .nil)))) .nil)))))))))))))))) (.cons (.asg (.v 8) (.bin .Add (.var 8) (.lst (.cons (.tup (.cons (.con (.int (1))) (.cons (.con (.bl true)) .nil))) (.cons (.tup (.cons (.con (.int (1))) (.cons (.con .non) .nil))) (.cons (.tup (.cons (.con (.str "1")) (.cons (.con (.int (2))) .nil))) (.cons (.tup (.cons (.con .non) (.cons (.con (.int (1))) .nil))) (.cons (.tup (.cons (.con (.int (1))) (.cons (.con (.str "2")) .nil))) (.cons (.tup (.cons (.tup (.cons (.con (.int (1))) (.cons (.con (.int (2))) .nil))) (.cons (.con (.int (1))) .nil))) .nil))))))))) (.cons (.asg (.v 9) (.call 14 (.cons (.var 1) (.cons (.var 8) .nil)))) (.cons (.forr [7, 6] (.v 10) (.it (.tup (.cons (.con (.str "plus")) (.cons (.con (.str "times")) (.cons (.con (.str "compare")) .nil))))) (.cons (.asg (.v 7) (.comp [14, 15] (.call 20 (.cons (.var 10) (.cons (.var 14) (.cons (.var 15) .nil)))) (.t (.cons (.v 14) (.cons (.v 15) .nil))) (.it (.tup (.cons (.tup (.cons (.var 9) (.cons (.var 11) .nil))) (.cons (.tup (.cons (.var 11) (.cons (.var 9) .nil))) (.cons (.tup (.cons (.var 9) (.cons (.var 9) .nil))) .nil))))) (.con (.bl true)))) (.cons (.iff (.cmp .NotEq (.var 7) (.bin .Mult (.lst (.cons (.con (.str "none")) .nil)) (.con (.int (3))))) (.cons (.ret (.con (.bl false))) .nil) .nil) .nil))) .nil))))))))))))) (.cons (.asg (.v 3) (.bin .Mult (.bin .Mult (.bin .Pow (.con (.int (10))) (.con (.int (64)))) (.bin .Pow (.con (.int (10))) (.con (.int (64))))) (.bin .Pow (.con (.int (10))) (.con (.int (64)))))) (.cons (.asg (.v 4) (.tup (.cons (.con (.int (1))) (.cons (.var 3) .nil)))) (.cons (.iff (.cmp .NotEq (.lst (.cons (.call 10 (.cons (.tup (.cons (.con (.int (1))) (.cons (.bin .Add (.var 3) (.con (.int (1)))) .nil))) (.cons (.var 4) .nil))) (.cons (.call 10 (.cons (.tup (.cons (.con (.int (0))) (.cons (.con (.int (1))) .nil))) (.cons (.var 4) .nil))) (.cons (.call 10 (.cons (.var 4) (.cons (.var 4) .nil))) .nil)))) (.lst (.cons (.neg (.con (.int (1)))) (.cons (.neg (.con (.int (1)))) (.cons (.con (.int (0))) .nil))))) (.cons (.ret (.con (.bl false))) .nil) .nil) (.cons (.ret (.cmp .Eq (.lst (.cons (.call 10 (.cons (.tup (.cons (.con (.int (1))) (.cons (.con (.int (2))) .nil))) (.cons (.tup (.cons (.con (.int (2))) (.cons (.con (.int (3))) .nil))) .nil))) (.cons (.call 10 (.cons (.tup (.cons (.neg (.con (.int (1)))) (.cons (.con (.int (2))) .nil))) (.cons (.tup (.cons (.neg (.con (.int (2)))) (.cons (.con (.int (3))) .nil))) .nil))) (.cons (.call 8 (.cons (.tup (.cons (.con (.int (1))) (.cons (.con (.int (2))) .nil))) (.cons (.tup (.cons (.neg (.con (.int (1)))) (.cons (.con (.int (2))) .nil))) .nil))) .nil)))) (.lst (.cons (.neg (.con (.int (1)))) (.cons (.con (.int (1))) (.cons (.tup (.cons (.con (.int (0))) (.cons (.con (.int (1))) .nil))) .nil)))))) .nil))))))
def p_is_integer : Def := ⟨1, 1, b_is_integer⟩
def p_divisor_of : Def := ⟨2, 2, b_divisor_of⟩
def p_reduced : Def := ⟨2, 3, b_reduced⟩
def p_is_fraction : Def := ⟨1, 1, b_is_fraction⟩
def p_need_fraction : Def := ⟨1, 1, b_need_fraction⟩
def p_add : Def := ⟨2, 2, b_add⟩
def p_mul : Def := ⟨2, 2, b_mul⟩
def p_sign_of : Def := ⟨2, 4, b_sign_of⟩
def p_plus : Def := ⟨2, 2, b_plus⟩
def p_times : Def := ⟨2, 2, b_times⟩
def p_compare : Def := ⟨2, 2, b_compare⟩
def p__law_spread : Def := ⟨2, 8, b__law_spread⟩
def p__law_open : Def := ⟨1, 4, b__law_open⟩
def p__law_take : Def := ⟨2, 5, b__law_take⟩
def p__law_one : Def := ⟨2, 2, b__law_one⟩
def p__law_divisor : Def := ⟨2, 2, b__law_divisor⟩
def p__law_frac : Def := ⟨2, 3, b__law_frac⟩
def p__law_add : Def := ⟨2, 2, b__law_add⟩
def p__law_mul : Def := ⟨2, 2, b__law_mul⟩
def p__law_is_less : Def := ⟨2, 2, b__law_is_less⟩
def p__law_told : Def := ⟨3, 6, b__law_told⟩
def p__law_done : Def := ⟨3, 3, b__law_done⟩
def p__law_great : Def := ⟨1, 3, b__law_great⟩
def p_law : Def := ⟨1, 16, b_law⟩
def dl : List Def := [p_is_integer, p_divisor_of, p_reduced, p_is_fraction, p_need_fraction, p_add, p_mul, p_sign_of, p_plus, p_times, p_compare, p__law_spread, p__law_open, p__law_take, p__law_one, p__law_divisor, p__law_frac, p__law_add, p__law_mul, p__law_is_less, p__law_told, p__law_done, p__law_great, p_law]
/-- the defs by number -/
def pt (i : Nat) : Option Def := dl[i]?
end L_k02

set_option Elab.async false
set_option linter.all false
set_option maxRecDepth 100000
set_option exponentiation.threshold 300
namespace L_k02
open PySem MP
abbrev R (d : Nat) : Nat → List PV → Hs → Out PV := run pt d
abbrev Opv := Option PV
theorem cInt (d : Nat) : WholeC (R (d + 1)) 0 := fun M e v h hv => (run_at rfl).trans (whole_ok hv)
theorem cDiv (d : Nat) : DivC (R (d + 1)) 1 := fun a b h ha hb => (run_at rfl).trans (divisor_ok ha hb)
theorem cRed (d : Nat) : RedP (R (d + 2)) 2 := fun a b h ha hb b0 => (run_at rfl).trans (reduced_ok (cDiv d) ha hb b0).1
theorem cFrac (d : Nat) : FracG (R (d + 2)) 3 := fun M e v h hM hv => (run_at rfl).trans (fracG_ok (cInt d) (cDiv d) hM hv)
abbrev Mb : Nat := 10 ^ 57
theorem mb1 : Mb ≤ M50 := by decide +kernel
theorem mb2 : Mb ≤ Mx := by decide +kernel
theorem cNeed (d : Nat) {e : Nat} {v : PV} {h : Hs} (hv : dat Mb e v = true) : R (d + 3) 4 [v] h = outX (if fracB v then some .non else none) h := (run_at rfl).trans (need_ok (cFrac d Mb e v h mb2 hv))
theorem fb_dat {e : Nat} {v : PV} (hv : dat Mb e v = true) (f : fracB v = true) : FB 1 v := fb_frac (by omega) (fr_of_dat mb2 hv f)
theorem need2 (d : Nat) {e : Nat} {x y v : PV} {h : Hs} (hx : dat Mb e x = true) (hy : dat Mb e y = true) (hv : v = x ∨ v = y) : R (d + 3) 4 [v] h = outX (if fracB v then some .non else none) h := by
  rcases hv with rfl | rfl
  · exact cNeed d hx
  · exact cNeed d hy
theorem cPlus (d : Nat) {e : Nat} {x y : PV} {h : Hs} (hx : dat Mb e x = true) (hy : dat Mb e y = true) : R (d + 4) 8 [x, y] h = outX (binX addV x y) h :=
  (run_at rfl).trans (bin_ok (fun v hv => need2 d hx hy hv) fun fx fy => (run_at rfl).trans (addG_ok (cRed d) (by omega) (fb_dat hx fx) (fb_dat hy fy)))
theorem cTimes (d : Nat) {e : Nat} {x y : PV} {h : Hs} (hx : dat Mb e x = true) (hy : dat Mb e y = true) : R (d + 4) 9 [x, y] h = outX (binX mulV x y) h :=
  (run_at rfl).trans (bin_ok (fun v hv => need2 d hx hy hv) fun fx fy => (run_at rfl).trans (mulG_ok (cRed d) (fb_dat hx fx) (fb_dat hy fy)))
theorem cComp (d : Nat) {e : Nat} {x y : PV} {h : Hs} (hx : dat Mb e x = true) (hy : dat Mb e y = true) : R (d + 4) 10 [x, y] h = outX (binX sgnV x y) h :=
  (run_at rfl).trans (bin_ok (fun v hv => need2 d hx hy hv) fun fx fy => (run_at rfl).trans (sign_ok (fb_dat hx fx) (fb_dat hy fy)))
theorem cSpread (d : Nat) : SpreadC (R (d + 1)) 11 := fun c a h h0 h1 => by
  obtain ⟨r, e, r0⟩ := spread_ok (cl := R d) (c := c) (h := h) h0 h1
  exact ⟨r, (run_at rfl).trans e, r0⟩
theorem cOpen (d : Nat) {ns : List Int} {h : Hs} : ∃ cs : List Int, R (d + 1) 12 [.scr (ns.map .int)] h = .ok (.ref h.length) (h ++ [pen cs 0 0]) := by
  obtain ⟨cs, e⟩ := open_ok (cl := R d) (ns := ns) (h := h)
  exact ⟨cs, (run_at rfl).trans e⟩
theorem cTake (d : Nat) : TakeC (R (d + 2)) 13 := fun n B m h p hB m0 m1 => by
  obtain ⟨r, h', e, k⟩ := take_ok (cSpread d) p hB m0 m1
  exact ⟨r, h', (run_at rfl).trans e, k⟩
theorem cOne (d : Nat) : OneC (R (d + 3)) 14 := fun n B xs h p hB x0 x1 => by
  obtain ⟨v, h', hv, e, k⟩ := one_ok (cTake d) p hB x0 x1
  exact ⟨v, h', hv, (run_at rfl).trans e, k⟩
theorem cLDiv (d : Nat) : DivC (R (d + 1)) 15 := fun a b h ha hb => (run_at rfl).trans (ldivisor_ok ha hb)
theorem cLRed (d : Nat) : RedP (R (d + 2)) 16 := fun a b h ha hb b0 => (run_at rfl).trans (lfrac_ok (cLDiv d) ha hb b0)
theorem cLAdd (d : Nat) {x y : PV} {h : Hs} (hx : FB 1 x) (hy : FB 1 y) : R (d + 3) 17 [x, y] h = .ok (addV x y) h := (run_at rfl).trans (addG_ok (cLRed d) (by omega) hx hy)
theorem cLMul (d : Nat) {x y : PV} {h : Hs} (hx : FB 1 x) (hy : FB 1 y) : R (d + 3) 18 [x, y] h = .ok (mulV x y) h := (run_at rfl).trans (mulG_ok (cLRed d) hx hy)
theorem cLess (d : Nat) {x y : PV} {h : Hs} (hx : FB 1 x) (hy : FB 1 y) : R (d + 1) 19 [x, y] h = .ok (.bl (lessB x y)) h := (run_at rfl).trans (less_ok hx hy)
theorem cDone (d : Nat) {e : Nat} {x y : PV} {h : Hs} (hx : dat Mb e x = true) (hy : dat Mb e y = true) {w : Str} (hw : w = "plus" ∨ w = "times" ∨ w = "compare") : R (d + 5) 21 [.str w, x, y] h = outX (binX (fnOf w) x y) h :=
  (run_at rfl).trans (done_ok (cComp d hx hy) (cPlus d hx hy) (cTimes d hx hy) hw)
theorem cTold (d : Nat) {x y : PV} {h : Hs} (hx : dat Mb 50 x = true) (hy : dat Mb 50 y = true) (nx : nod x + nod y ≤ 900) {w : Str} (hw : w = "plus" ∨ w = "times" ∨ w = "compare") : R (d + 6) 20 [.str w, x, y] h = .ok ((binX (fnOf w) x y).getD noneS) h :=
  (run_at rfl).trans (toldW_ok mb1 (cDone d hx hy hw) hx hy nx)
/-! ### fractions drawn -/
structure Fq (x : PV) (a b : Int) : Prop where
  e : x = fr a b
  pos : 0 < b
  na : a.natAbs ≤ 1000000000000000000000000000
  nb : b.natAbs ≤ 10000000000000000000000
def gS : S := (.par [1, 2] (.cons (.bin .Add (.bin .Mult (.var 1) (.bin .Pow (.con (.int (10))) (.con (.int (25))))) (.call 13 (.cons (.var 0) (.cons (.con (.int (99))) .nil)))) (.cons (.bin .Add (.bin .Mult (.var 2) (.bin .Pow (.con (.int (10))) (.con (.int (20))))) (.con (.int (1)))) .nil)))
theorem cGreat (d : Nat) {n : Nat} {B : Int} {h : Hs} (p : PenOk n B h) (hB : B + 10 ≤ 1000000) : ∃ (x : PV) (a b : Int) (h' : Hs), R (d + 3) 22 [.ref n] h = .ok x h' ∧ PenOk n (B + 4) h' ∧ Fq x a b := by
  obtain ⟨r1, h1, e1, r10, r11, p1, _⟩ := cTake d n B 41 h p (by omega) (by omega) (by omega)
  obtain ⟨r2, h2, e2, r20, r21, p2, _⟩ := cTake d n (B + 1) 20 h1 p1 (by omega) (by omega) (by omega)
  obtain ⟨r3, h3, e3, r30, r31, p3, _⟩ := cTake d n (B + 1 + 1) 4 h2 p2 (by omega) (by omega) (by omega)
  have sb : ∀ i : Int, binV .Sub (.int i) (.int 20) = some (.int (i - 20)) := fun _ => rfl
  have ad : ∀ i : Int, binV .Add (.int 1) (.int i) = some (.int (1 + i)) := fun _ => rfl
  have s0 : evS (R (d + 2)) (.par [1, 2] (.cons (.bin .Sub (.call 13 (.cons (.var 0) (.cons (.con (.int (41))) .nil))) (.con (.int (20)))) (.cons (.bin .Add (.con (.int (1))) (.call 13 (.cons (.var 0) (.cons (.con (.int (20))) .nil)))) .nil))) [some (.ref n), none, none] h = .ok (.nx [some (.ref n), some (.int (r1 - 20)), some (.int (1 + r2))]) h2 := by
    simp only [evS, evE, evSs, evEs, evI, List.map_cons, List.map_nil, List.cons_append, List.nil_append, List.replicate_succ, List.replicate_zero, getS_0, getS_s, List.set_cons_zero, List.set_cons_succ, wipe_nil, wipe_cons, setT_v, setT_t, setTs_nil, setTs_cons, setAll, Option.bind_some, Out.of_some, Out.bind_ok, Nat.reduceSub, show R (d + 2) 13 [.ref n, .int 41] h = _ from e1, show R (d + 2) 13 [.ref n, .int 20] h1 = _ from e2, sb, ad]
  have B0 : ∀ i : Int, i.natAbs < 2 ^ 90 → i.natAbs < Big := fun i hi => Nat.lt_trans hi (Nat.pow_lt_pow_right (by omega) (by omega))
  have cnd : evE (R (d + 2)) (.cmp .Eq (.call 13 (.cons (.var 0) (.cons (.con (.int (4))) .nil))) (.con (.int (0)))) [some (.ref n), some (.int (r1 - 20)), some (.int (1 + r2))] h2 = .ok (.bl (r3 == 0)) h3 := e_cmp (e_call2 rfl rfl e3) rfl eq_int
  cases q : (r3 == 0) with
  | false =>
    rw [q] at cnd
    refine ⟨_, r1 - 20, 1 + r2, h3, (run_at rfl).trans (d_rt rfl ((ss_nx s0).trans ((ss_nx ((s_iff cnd).trans rfl)).trans (ss_rt (s_ret (e_call2 rfl rfl (cLRed d (r1 - 20) (1 + r2) h3 (B0 _ (by omega)) (B0 _ (by omega)) (by omega)))))))), p3.mono (by omega), ⟨rfl, by omega, by omega, by omega⟩⟩
  | true =>
    rw [q] at cnd
    obtain ⟨r4, h4, e4, r40, r41, p4, _⟩ := cTake d n (B + 1 + 1 + 1) 99 h3 p3 (by omega) (by omega) (by omega)
    have t25 : binV .Pow (.int 10) (.int 25) = some (.int 10000000000000000000000000) := by kernel_rfl
    have t20 : binV .Pow (.int 10) (.int 20) = some (.int 100000000000000000000) := by kernel_rfl
    have m1 := mul_ok (i := r1 - 20) (j := 10000000000000000000000000) (B0 _ (by omega)) (B0 _ (by omega))
    have m2 := mul_ok (i := 1 + r2) (j := 100000000000000000000) (B0 _ (by omega)) (B0 _ (by omega))
    have a1 : ∀ i j : Int, binV .Add (.int i) (.int j) = some (.int (i + j)) := fun _ _ => rfl
    have s1 : evS (R (d + 2)) gS [some (.ref n), some (.int (r1 - 20)), some (.int (1 + r2))] h3 =
        .ok (.nx [some (.ref n), some (.int ((r1 - 20) * 10000000000000000000000000 + r4)), some (.int ((1 + r2) * 100000000000000000000 + 1))]) h4 := by
      unfold gS
      simp only [evS, evE, evSs, evEs, evI, List.map_cons, List.map_nil, List.cons_append, List.nil_append, List.replicate_succ, List.replicate_zero, getS_0, getS_s, List.set_cons_zero, List.set_cons_succ, wipe_nil, wipe_cons, setT_v, setT_t, setTs_nil, setTs_cons, setAll, Option.bind_some, Out.of_some, Out.bind_ok, Nat.reduceSub, t25, t20, m1, m2, show R (d + 2) 13 [.ref n, .int 99] h3 = _ from e4, a1]
    have s2 := s_iff (cl := R (d + 2)) (a := .cons gS .nil) (b := .nil) cnd
    rw [if_pos rfl, ss_nx s1, evSs] at s2
    refine ⟨_, _, _, h4, (run_at rfl).trans (d_rt rfl ((ss_nx s0).trans ((ss_nx s2).trans (ss_rt (s_ret (e_call2 rfl rfl (cLRed d ((r1 - 20) * 10000000000000000000000000 + r4) ((1 + r2) * 100000000000000000000 + 1) h4 (B0 _ (by omega)) (B0 _ (by omega)) (by omega)))))))), p4.mono (by omega), ⟨rfl, by omega, by omega, by omega⟩⟩
/-- a fraction of parts that may be asked -/
structure Ask (x : PV) : Prop where
  fb : FB 1 x
  d : dat Mb 50 x = true
  n : nod x = 3
  f : fracB x = true
theorem ask_fr {a b : Int} (hb : 0 < b) (h1 : a.natAbs < 10 ^ 57) (h2 : b.natAbs < 10 ^ 57) : Ask (fr a b) := ⟨fb_fr hb h1 h2, (fr_dat (d := 49) hb h1 h2).1, (fr_dat (M := Mb) (d := 49) hb h1 h2).2, fracB_fr hb⟩
theorem p57 : (10 : Nat) ^ 57 = 1000000000000000000000000000000000000000000000000000000000 := by decide +kernel
theorem Fq.ask {x : PV} {a b : Int} (q : Fq x a b) : Ask x := by
  have := q.na
  have := q.nb
  rw [q.e]; exact ask_fr q.pos (by rw [p57]; omega) (by rw [p57]; omega)
theorem bounds {a b c d : Int} (h1 : a.natAbs ≤ 1000000000000000000000000000) (h2 : b.natAbs ≤ 10000000000000000000000) (h3 : c.natAbs ≤ 1000000000000000000000000000) (h4 : d.natAbs ≤ 10000000000000000000000) :
    (a * d + c * b).natAbs < 10 ^ 57 ∧ (b * d).natAbs < 10 ^ 57 ∧ (a * c).natAbs < 10 ^ 57 := by
  have x1 := mul_abs h1 h4
  have x2 := mul_abs h3 h2
  have x3 := mul_abs h2 h4
  have x4 := mul_abs h1 h3
  rw [p57]
  refine ⟨by omega, by omega, by omega⟩
theorem Fq.add {x y : PV} {a b c d : Int} (q : Fq x a b) (r : Fq y c d) : addV x y = fr (a * d + c * b) (b * d) ∧ Ask (addV x y) := by
  have e : addV x y = fr (a * d + c * b) (b * d) := by rw [q.e, r.e]; exact addV_fr q.pos r.pos
  obtain ⟨b1, b2, _⟩ := bounds q.na q.nb r.na r.nb
  exact ⟨e, by rw [e]; exact ask_fr (Int.mul_pos q.pos r.pos) b1 b2⟩
theorem Fq.mul {x y : PV} {a b c d : Int} (q : Fq x a b) (r : Fq y c d) : mulV x y = fr (a * c) (b * d) ∧ Ask (mulV x y) := by
  have e : mulV x y = fr (a * c) (b * d) := by rw [q.e, r.e]; exact mulV_fr q.pos r.pos
  obtain ⟨_, b2, b3⟩ := bounds q.na q.nb r.na r.nb
  exact ⟨e, by rw [e]; exact ask_fr (Int.mul_pos q.pos r.pos) b3 b2⟩
theorem oX {g : PV → PV → PV} {x y : PV} (hx : Ask x) (hy : Ask y) : binX g x y = some (g x y) := by unfold binX; rw [hx.f, hy.f]; rfl
theorem qPlus {x y : PV} {h : Hs} (hx : Ask x) (hy : Ask y) : R 6 8 [x, y] h = .ok (addV x y) h := by
  have := cPlus 2 (h := h) hx.d hy.d
  rw [oX hx hy] at this; exact this
theorem qTimes {x y : PV} {h : Hs} (hx : Ask x) (hy : Ask y) : R 6 9 [x, y] h = .ok (mulV x y) h := by
  have := cTimes 2 (h := h) hx.d hy.d
  rw [oX hx hy] at this; exact this
theorem qComp {x y : PV} {h : Hs} (hx : Ask x) (hy : Ask y) : R 6 10 [x, y] h = .ok (sgnV x y) h := by
  have := cComp 2 (h := h) hx.d hy.d
  rw [oX hx hy] at this; exact this
theorem qTold {x y : PV} {h : Hs} (hx : Ask x) (hy : Ask y) {w : Str} (hw : w = "plus" ∨ w = "times" ∨ w = "compare") : R 6 20 [.str w, x, y] h = .ok (fnOf w x y) h := by
  have := cTold 0 (h := h) hx.d hy.d (by rw [hx.n, hy.n]; omega) hw
  rw [oX hx hy] at this; exact this
def some1 : List PV := [.non, .int 0, .int 1, .bl true, .str "1", .tup [], .tup [.int 1], .tup [.int 2, .int 4], .tup [.int 1, .int 0], .tup [.int 1, .int (-2)], .lst [.int 1, .int 2], .tup [.int 0, .int 2], .tup [.bl true, .int 1], .tup [.int 1, .int 2, .int 3]]
def odd : List PV := [.non, .int 0, .int 1, .bl true, .str "1", .tup [], .tup [.int 1], .tup [.int 2, .int 4], .tup [.int 1, .int 0], .tup [.int 1, .int (-2)], .lst [.int 1, .int 2], .tup [.int 0, .int 2], .tup [.bl true, .int 1], .tup [.int 1, .int 2, .int 3], .tup [.int 1, .bl true], .tup [.int 1, .non], .tup [.str "1", .int 2], .tup [.non, .int 1], .tup [.int 1, .str "2"], .tup [.tup [.int 1, .int 2], .int 1]]
structure Odd (x : PV) : Prop where
  d : dat Mb 50 x = true
  n : nod x ≤ 50
  f : fracB x = false
theorem odd_good : ∀ x ∈ odd, Odd x := by
  intro x hx
  have a : (odd.all fun x => dat Mb 50 x && decide (nod x ≤ 50) && !fracB x) = true := by decide +kernel
  have := List.all_eq_true.mp a x hx
  simp only [Bool.and_eq_true, decide_eq_true_eq, Bool.not_eq_true'] at this
  exact ⟨this.1.1, this.1.2, this.2⟩
theorem tOdd {x y : PV} {h : Hs} (hx : dat Mb 50 x = true) (hy : dat Mb 50 y = true) (nn : nod x + nod y ≤ 900) (f : fracB x = false ∨ fracB y = false) {w : Str} (hw : w = "plus" ∨ w = "times" ∨ w = "compare") : R 6 20 [.str w, x, y] h = .ok noneS h := by
  have := cTold 0 (h := h) hx hy nn hw
  have o : binX (fnOf w) x y = none := by
    unfold binX
    rcases f with f | f
    · rw [f]; rfl
    · rw [f, Bool.and_false]; rfl
  rw [o] at this; exact this
/-! ### the law -/
def t0 : S := (.par [11, 12, 13] (.cons (.call 22 (.cons (.var 1) .nil)) (.cons (.call 22 (.cons (.var 1) .nil)) (.cons (.call 22 (.cons (.var 1) .nil)) .nil))))
def t1 : S := (.asg (.v 5) (.bin .Sub (.bi .int (.cons (.call 19 (.cons (.var 12) (.cons (.var 11) .nil))) .nil)) (.bi .int (.cons (.call 19 (.cons (.var 11) (.cons (.var 12) .nil))) .nil))))
def t2 : S := (.asg (.v 6) (.lst (.cons (.call 17 (.cons (.var 11) (.cons (.var 12) .nil))) (.cons (.call 18 (.cons (.var 11) (.cons (.var 12) .nil))) (.cons (.var 5) .nil)))))
def t3 : S := (.asg (.v 7) (.comp [10] (.call 20 (.cons (.var 10) (.cons (.var 11) (.cons (.var 12) .nil)))) (.v 10) (.it (.tup (.cons (.con (.str "plus")) (.cons (.con (.str "times")) (.cons (.con (.str "compare")) .nil))))) (.con (.bl true))))
def t4 : S := (.iff (.cmp .NotEq (.bi .repr (.cons (.var 7) .nil)) (.bi .repr (.cons (.var 6) .nil))) (.cons (.ret (.con (.bl false))) .nil) .nil)
def t5 : S := (.iff (.or (.cmp .NotEq (.call 8 (.cons (.call 8 (.cons (.var 11) (.cons (.var 12) .nil))) (.cons (.var 13) .nil))) (.call 8 (.cons (.var 11) (.cons (.call 8 (.cons (.var 13) (.cons (.var 12) .nil))) .nil)))) (.cmp .NotEq (.call 9 (.cons (.var 11) (.cons (.tup (.cons (.con (.int (0))) (.cons (.con (.int (1))) .nil))) .nil))) (.tup (.cons (.con (.int (0))) (.cons (.con (.int (1))) .nil))))) (.cons (.ret (.con (.bl false))) .nil) .nil)
def t6 : S := (.iff (.cmp .NotEq (.call 9 (.cons (.var 11) (.cons (.call 8 (.cons (.var 12) (.cons (.var 13) .nil))) .nil))) (.call 8 (.cons (.call 9 (.cons (.var 11) (.cons (.var 12) .nil))) (.cons (.call 9 (.cons (.var 13) (.cons (.var 11) .nil))) .nil)))) (.cons (.ret (.con (.bl false))) .nil) .nil)
def t7 : S := (.iff (.cmp .NotEq (.call 10 (.cons (.var 11) (.cons (.var 11) .nil))) (.con (.int (0)))) (.cons (.ret (.con (.bl false))) .nil) .nil)
def t8 : S := (.asg (.v 8) (.lst (.cons (.con .non) (.cons (.con (.int (0))) (.cons (.con (.int (1))) (.cons (.con (.bl true)) (.cons (.con (.str "1")) (.cons (.tup .nil) (.cons (.tup (.cons (.con (.int (1))) .nil)) (.cons (.tup (.cons (.con (.int (2))) (.cons (.con (.int (4))) .nil))) (.cons (.tup (.cons (.con (.int (1))) (.cons (.con (.int (0))) .nil))) (.cons (.tup (.cons (.con (.int (1))) (.cons (.neg (.con (.int (2)))) .nil))) (.cons (.lst (.cons (.con (.int (1))) (.cons (.con (.int (2))) .nil))) (.cons (.tup (.cons (.con (.int (0))) (.cons (.con (.int (2))) .nil))) (.cons (.tup (.cons (.con (.bl true)) (.cons (.con (.int (1))) .nil))) (.cons (.tup (.cons (.con (.int (1))) (.cons (.con (.int (2))) (.cons (.con (.int (3))) .nil)))) .nil))))))))))))))))
def t9 : S := (.asg (.v 8) (.bin .Add (.var 8) (.lst (.cons (.tup (.cons (.con (.int (1))) (.cons (.con (.bl true)) .nil))) (.cons (.tup (.cons (.con (.int (1))) (.cons (.con .non) .nil))) (.cons (.tup (.cons (.con (.str "1")) (.cons (.con (.int (2))) .nil))) (.cons (.tup (.cons (.con .non) (.cons (.con (.int (1))) .nil))) (.cons (.tup (.cons (.con (.int (1))) (.cons (.con (.str "2")) .nil))) (.cons (.tup (.cons (.tup (.cons (.con (.int (1))) (.cons (.con (.int (2))) .nil))) (.cons (.con (.int (1))) .nil))) .nil)))))))))
def t10 : S := (.asg (.v 9) (.call 14 (.cons (.var 1) (.cons (.var 8) .nil))))
def t11 : S := (.forr [7, 6] (.v 10) (.it (.tup (.cons (.con (.str "plus")) (.cons (.con (.str "times")) (.cons (.con (.str "compare")) .nil))))) (.cons (.asg (.v 7) (.comp [14, 15] (.call 20 (.cons (.var 10) (.cons (.var 14) (.cons (.var 15) .nil)))) (.t (.cons (.v 14) (.cons (.v 15) .nil))) (.it (.tup (.cons (.tup (.cons (.var 9) (.cons (.var 11) .nil))) (.cons (.tup (.cons (.var 11) (.cons (.var 9) .nil))) (.cons (.tup (.cons (.var 9) (.cons (.var 9) .nil))) .nil))))) (.con (.bl true)))) (.cons (.iff (.cmp .NotEq (.var 7) (.bin .Mult (.lst (.cons (.con (.str "none")) .nil)) (.con (.int (3))))) (.cons (.ret (.con (.bl false))) .nil) .nil) .nil)))
def bTurn : Ss := (.cons t0 (.cons t1 (.cons t2 (.cons t3 (.cons t4 (.cons t5 (.cons t6 (.cons t7 (.cons t8 (.cons t9 (.cons t10 (.cons t11 .nil))))))))))))
def lastS : Ss := (.cons (.asg (.v 3) (.bin .Mult (.bin .Mult (.bin .Pow (.con (.int (10))) (.con (.int (64)))) (.bin .Pow (.con (.int (10))) (.con (.int (64))))) (.bin .Pow (.con (.int (10))) (.con (.int (64)))))) (.cons (.asg (.v 4) (.tup (.cons (.con (.int (1))) (.cons (.var 3) .nil)))) (.cons (.iff (.cmp .NotEq (.lst (.cons (.call 10 (.cons (.tup (.cons (.con (.int (1))) (.cons (.bin .Add (.var 3) (.con (.int (1)))) .nil))) (.cons (.var 4) .nil))) (.cons (.call 10 (.cons (.tup (.cons (.con (.int (0))) (.cons (.con (.int (1))) .nil))) (.cons (.var 4) .nil))) (.cons (.call 10 (.cons (.var 4) (.cons (.var 4) .nil))) .nil)))) (.lst (.cons (.neg (.con (.int (1)))) (.cons (.neg (.con (.int (1)))) (.cons (.con (.int (0))) .nil))))) (.cons (.ret (.con (.bl false))) .nil) .nil) (.cons (.ret (.cmp .Eq (.lst (.cons (.call 10 (.cons (.tup (.cons (.con (.int (1))) (.cons (.con (.int (2))) .nil))) (.cons (.tup (.cons (.con (.int (2))) (.cons (.con (.int (3))) .nil))) .nil))) (.cons (.call 10 (.cons (.tup (.cons (.neg (.con (.int (1)))) (.cons (.con (.int (2))) .nil))) (.cons (.tup (.cons (.neg (.con (.int (2)))) (.cons (.con (.int (3))) .nil))) .nil))) (.cons (.call 8 (.cons (.tup (.cons (.con (.int (1))) (.cons (.con (.int (2))) .nil))) (.cons (.tup (.cons (.neg (.con (.int (1)))) (.cons (.con (.int (2))) .nil))) .nil))) .nil)))) (.lst (.cons (.neg (.con (.int (1)))) (.cons (.con (.int (1))) (.cons (.tup (.cons (.con (.int (0))) (.cons (.con (.int (1))) .nil))) .nil)))))) .nil))))
theorem law_is : b_law = .cons (.asg (.v 1) (.call 12 (.cons (.var 0) .nil))) (.cons (.forr [] (.v 2) (.range (.cons (.con (.int (10))) .nil)) bTurn) lastS) := rfl
theorem last_ok {a b c y5 y6 y7 y8 y9 y10 y11 y12 y13 y14 y15 : Opv} {h : Hs} : evSs (R 6) lastS [a, b, c, none, none, y5, y6, y7, y8, y9, y10, y11, y12, y13, y14, y15] h = .ok (.rt (.bl true)) h := by
  kernel_rfl
theorem fPlus : fnOf "plus" = addV := by unfold fnOf; rw [if_neg (by decide +kernel), if_pos rfl]
theorem fTimes : fnOf "times" = mulV := by unfold fnOf; rw [if_neg (by decide +kernel), if_neg (by decide +kernel)]
theorem fComp : fnOf "compare" = sgnV := by unfold fnOf; rw [if_pos rfl]
theorem dat_int_of {i : Int} {d : Nat} (h : i.natAbs < Mb) : dat Mb d (.int i) = true := by cases d <;> exact decide_eq_true h
section
variable {h : Hs} {a y2 y3 y4 y5 y6 y7 y8 y9 y10 y14 y15 : Opv} {n : Nat} {x y z : PV}
theorem st1 (X : Ask x) (Y : Ask y) : evS (R 6) t1 [a, some (.ref n), y2, y3, y4, y5, y6, y7, y8, y9, y10, some x, some y, some z, y14, y15] h = .ok (.nx [a, some (.ref n), y2, y3, y4, some (sgnV x y), y6, y7, y8, y9, y10, some x, some y, some z, y14, y15]) h := by
  have bi : ∀ z : Bool, biV h .int [.bl z] = some (.int (if z then 1 else 0)) := fun _ => rfl
  have sb : ∀ i j : Int, binV .Sub (.int i) (.int j) = some (.int (i - j)) := fun _ _ => rfl
  unfold t1
  simp only [evS, evE, evSs, evEs, evI, List.map_cons, List.map_nil, List.cons_append, List.nil_append, List.replicate_succ, List.replicate_zero, getS_0, getS_s, List.set_cons_zero, List.set_cons_succ, wipe_nil, wipe_cons, setT_v, setT_t, setTs_nil, setTs_cons, setAll, Option.bind_some, Out.of_some, Out.bind_ok, Nat.reduceSub, cLess 5 Y.fb X.fb, cLess 5 X.fb Y.fb, bi, sb]
  rfl
theorem st2 (X : Ask x) (Y : Ask y) : evS (R 6) t2 [a, some (.ref n), y2, y3, y4, some (sgnV x y), y6, y7, y8, y9, y10, some x, some y, some z, y14, y15] h = .ok (.nx [a, some (.ref n), y2, y3, y4, some (sgnV x y), some (.lst [addV x y, mulV x y, sgnV x y]), y7, y8, y9, y10, some x, some y, some z, y14, y15]) h := by
  have z3 : szOk 3 = true := rfl
  unfold t2
  simp only [evS, evE, evSs, evEs, evI, List.map_cons, List.map_nil, List.cons_append, List.nil_append, List.replicate_succ, List.replicate_zero, getS_0, getS_s, List.set_cons_zero, List.set_cons_succ, wipe_nil, wipe_cons, setT_v, setT_t, setTs_nil, setTs_cons, setAll, Option.bind_some, Out.of_some, Out.bind_ok, Nat.reduceSub, cLAdd 3 X.fb Y.fb, cLMul 3 X.fb Y.fb, List.length_cons, List.length_nil, Nat.reduceAdd, z3, if_true]
theorem words {w : Str} (hw : w = "plus" ∨ w = "times" ∨ w = "compare") : True := trivial
theorem st3 (X : Ask x) (Y : Ask y) : evS (R 6) t3 [a, some (.ref n), y2, y3, y4, y5, y6, y7, y8, y9, y10, some x, some y, some z, y14, y15] h = .ok (.nx [a, some (.ref n), y2, y3, y4, y5, y6, some (.lst [addV x y, mulV x y, sgnV x y]), y8, y9, y10, some x, some y, some z, y14, y15]) h := by
  have it : ∀ {w : Str}, (w = "plus" ∨ w = "times" ∨ w = "compare") → compF (R 6) [10] (.call 20 (.cons (.var 10) (.cons (.var 11) (.cons (.var 12) .nil)))) (.v 10) (.con (.bl true)) [a, some (.ref n), y2, y3, y4, y5, y6, y7, y8, y9, y10, some x, some y, some z, y14, y15] (.str w) h = .ok [fnOf w x y] h := by
    intro w hw
    unfold compF
    simp only [evS, evE, evSs, evEs, evI, List.map_cons, List.map_nil, List.cons_append, List.nil_append, List.replicate_succ, List.replicate_zero, getS_0, getS_s, List.set_cons_zero, List.set_cons_succ, wipe_nil, wipe_cons, setT_v, setT_t, setTs_nil, setTs_cons, setAll, Option.bind_some, Out.of_some, Out.bind_ok, Nat.reduceSub, qTold (h := h) X Y hw]
  have e3 := each3 (it (w := "plus") (.inl rfl)) (it (w := "times") (.inr (.inl rfl))) (it (w := "compare") (.inr (.inr rfl)))
  rw [fPlus, fTimes, fComp] at e3
  exact s_asg (comp_run (xs := [.str "plus", .str "times", .str "compare"]) (by rw [i_it (x := .tup [.str "plus", .str "times", .str "compare"]) (by rfl) rfl]) e3 (by show 3 ≤ 16000000; omega))
theorem st4 (X : Ask x) (Y : Ask y) (P : Ask (addV x y)) (Q : Ask (mulV x y)) : evS (R 6) t4 [a, some (.ref n), y2, y3, y4, y5, some (.lst [addV x y, mulV x y, sgnV x y]), some (.lst [addV x y, mulV x y, sgnV x y]), y8, y9, y10, some x, some y, some z, y14, y15] h = .ok (.nx [a, some (.ref n), y2, y3, y4, y5, some (.lst [addV x y, mulV x y, sgnV x y]), some (.lst [addV x y, mulV x y, sgnV x y]), y8, y9, y10, some x, some y, some z, y14, y15]) h := by
  have ds : dat Mb 50 (sgnV x y) = true := by
    unfold sgnV
    refine dat_int_of ?_
    have : (5 : Nat) < Mb := by decide +kernel
    split <;> split <;> omega
  have ns : nod (sgnV x y) = 1 := rfl
  obtain ⟨r, rn⟩ := repr_dat (h := h) (v := .lst [addV x y, mulV x y, sgnV x y]) mb1 (by
    show dats Mb 59 _ = true
    rw [dats, dat_mono (Nat.le_refl _) (by decide) P.d, dats, dat_mono (Nat.le_refl _) (by decide) Q.d, dats, dat_mono (Nat.le_refl _) (by decide) ds, dats]; rfl) (by show nods _ + 1 ≤ 1000; simp only [nods, P.n, Q.n, ns]; omega)
  exact (s_iff (e_cmp (e_bi1 rfl r) (e_bi1 rfl r) rn)).trans rfl
theorem cr1 {a b c d e f : Int} (hb : 0 < b) (hd : 0 < d) (hf : 0 < f) : fr ((a * d + c * b) * f + e * (b * d)) (b * d * f) = fr (a * (f * d) + (e * d + c * f) * b) (b * (f * d)) := by
  refine fr_cross (Int.mul_pos (Int.mul_pos hb hd) hf) (Int.mul_pos hb (Int.mul_pos hf hd)) ?_
  grind
theorem cr2 {a b c d e f : Int} (hb : 0 < b) (hd : 0 < d) (hf : 0 < f) : fr (a * (c * f + e * d)) (b * (d * f)) = fr (a * c * (f * b) + e * a * (b * d)) (b * d * (f * b)) := by
  refine fr_cross (Int.mul_pos hb (Int.mul_pos hd hf)) (Int.mul_pos (Int.mul_pos hb hd) (Int.mul_pos hf hb)) ?_
  grind
theorem zfr : (PV.tup [.int 0, .int 1]) = fr 0 1 := rfl
theorem zask : Ask (PV.tup [.int 0, .int 1]) := by rw [zfr]; exact ask_fr (by omega) (by decide +kernel) (by decide +kernel)
theorem mul0 {p q : Int} (hq : 0 < q) : mulV (fr p q) (.tup [.int 0, .int 1]) = .tup [.int 0, .int 1] := by
  rw [zfr, mulV_fr hq (by omega), Int.mul_zero, Int.mul_one]
  have := fr_scale (a := 0) (b := 1) (k := q) hq
  rw [Int.zero_mul, Int.one_mul] at this
  exact this
theorem st5 {p q r s t u : Int} (X : Fq x p q) (Y : Fq y r s) (Z : Fq z t u) : evS (R 6) t5 [a, some (.ref n), y2, y3, y4, y5, y6, y7, y8, y9, y10, some x, some y, some z, y14, y15] h = .ok (.nx [a, some (.ref n), y2, y3, y4, y5, y6, y7, y8, y9, y10, some x, some y, some z, y14, y15]) h := by
  obtain ⟨exy, axy⟩ := X.add Y
  obtain ⟨ezy, azy⟩ := Z.add Y
  have v1 : addV (addV x y) z = addV x (addV z y) := by
    rw [exy, ezy, X.e, Z.e, addV_fr (Int.mul_pos X.pos Y.pos) Z.pos, addV_fr X.pos (Int.mul_pos Z.pos Y.pos)]
    exact cr1 X.pos Y.pos Z.pos
  have k1 := qPlus (h := h) X.ask Y.ask
  have k2 := qPlus (h := h) axy Z.ask
  have k3 := qPlus (h := h) Z.ask Y.ask
  have k4 := qPlus (h := h) X.ask azy
  have k5 := qTimes (h := h) X.ask zask
  rw [X.e, mul0 X.pos, ← X.e] at k5
  rw [v1] at k2
  have nf : cmpV .NotEq (addV x (addV z y)) (addV x (addV z y)) = some false := by
    rw [ezy, X.e, addV_fr X.pos (Int.mul_pos Z.pos Y.pos)]; exact ne_fr _ _
  have nz : cmpV .NotEq (.tup [.int 0, .int 1]) (.tup [.int 0, .int 1]) = some false := ne_fr 0 1
  have z2 : szOk 2 = true := rfl
  have c0 : evE (R 6) (.tup (.cons (.con (.int (0))) (.cons (.con (.int (1))) .nil))) [a, some (.ref n), y2, y3, y4, y5, y6, y7, y8, y9, y10, some x, some y, some z, y14, y15] h = .ok (.tup [.int 0, .int 1]) h := rfl
  exact (s_iff (e_or_ff (e_cmp (e_call2 (e_call2 (a := .var 11) (b := .var 12) rfl rfl k1) (b := .var 13) rfl k2) (e_call2 (a := .var 11) rfl (e_call2 (a := .var 13) (b := .var 12) rfl rfl k3) k4) nf) (e_cmp (e_call2 (a := .var 11) rfl c0 k5) c0 nz))).trans rfl
theorem st6 {p q r s t u : Int} (X : Fq x p q) (Y : Fq y r s) (Z : Fq z t u) : evS (R 6) t6 [a, some (.ref n), y2, y3, y4, y5, y6, y7, y8, y9, y10, some x, some y, some z, y14, y15] h = .ok (.nx [a, some (.ref n), y2, y3, y4, y5, y6, y7, y8, y9, y10, some x, some y, some z, y14, y15]) h := by
  obtain ⟨eyz, ayz⟩ := Y.add Z
  obtain ⟨mxy, axy⟩ := X.mul Y
  obtain ⟨mzx, azx⟩ := Z.mul X
  have v1 : mulV x (addV y z) = addV (mulV x y) (mulV z x) := by
    rw [eyz, mxy, mzx, X.e, mulV_fr X.pos (Int.mul_pos Y.pos Z.pos), addV_fr (Int.mul_pos X.pos Y.pos) (Int.mul_pos Z.pos X.pos)]
    exact cr2 X.pos Y.pos Z.pos
  have k1 := qPlus (h := h) Y.ask Z.ask
  have k2 := qTimes (h := h) X.ask ayz
  have k3 := qTimes (h := h) X.ask Y.ask
  have k4 := qTimes (h := h) Z.ask X.ask
  have k5 := qPlus (h := h) axy azx
  rw [v1] at k2
  have nf : cmpV .NotEq (addV (mulV x y) (mulV z x)) (addV (mulV x y) (mulV z x)) = some false := by
    rw [mxy, mzx, addV_fr (Int.mul_pos X.pos Y.pos) (Int.mul_pos Z.pos X.pos)]; exact ne_fr _ _
  exact (s_iff (e_cmp (e_call2 (a := .var 11) rfl (e_call2 (a := .var 12) (b := .var 13) rfl rfl k1) k2) (e_call2 (e_call2 (a := .var 11) (b := .var 12) rfl rfl k3) (e_call2 (a := .var 13) (b := .var 11) rfl rfl k4) k5) nf)).trans rfl
theorem st7 (X : Ask x) : evS (R 6) t7 [a, some (.ref n), y2, y3, y4, y5, y6, y7, y8, y9, y10, some x, some y, some z, y14, y15] h = .ok (.nx [a, some (.ref n), y2, y3, y4, y5, y6, y7, y8, y9, y10, some x, some y, some z, y14, y15]) h := by
  have k := qComp (h := h) X X
  rw [sgnV_self] at k
  exact (s_iff (e_cmp (e_call2 (a := .var 11) (b := .var 11) rfl rfl k) (y := .int 0) rfl ne_int)).trans rfl
theorem st8 : evS (R 6) t8 [a, some (.ref n), y2, y3, y4, y5, y6, y7, y8, y9, y10, some x, some y, some z, y14, y15] h = .ok (.nx [a, some (.ref n), y2, y3, y4, y5, y6, y7, some (.lst some1), y9, y10, some x, some y, some z, y14, y15]) h := by kernel_rfl
theorem st9 : evS (R 6) t9 [a, some (.ref n), y2, y3, y4, y5, y6, y7, some (.lst some1), y9, y10, some x, some y, some z, y14, y15] h = .ok (.nx [a, some (.ref n), y2, y3, y4, y5, y6, y7, some (.lst odd), y9, y10, some x, some y, some z, y14, y15]) h := by kernel_rfl
def bIn : Ss := (.cons (.asg (.v 7) (.comp [14, 15] (.call 20 (.cons (.var 10) (.cons (.var 14) (.cons (.var 15) .nil)))) (.t (.cons (.v 14) (.cons (.v 15) .nil))) (.it (.tup (.cons (.tup (.cons (.var 9) (.cons (.var 11) .nil))) (.cons (.tup (.cons (.var 11) (.cons (.var 9) .nil))) (.cons (.tup (.cons (.var 9) (.cons (.var 9) .nil))) .nil))))) (.con (.bl true)))) (.cons (.iff (.cmp .NotEq (.var 7) (.bin .Mult (.lst (.cons (.con (.str "none")) .nil)) (.con (.int (3))))) (.cons (.ret (.con (.bl false))) .nil) .nil) .nil))
theorem in_turn {v : PV} {w : Str} (hw : w = "plus" ∨ w = "times" ∨ w = "compare") (X : Ask x) (V : Odd v) :
    evSs (R 6) bIn [a, some (.ref n), y2, y3, y4, y5, y6, y7, y8, some v, some (.str w), some x, some y, some z, y14, y15] h = .ok (.nx [a, some (.ref n), y2, y3, y4, y5, y6, some (.lst [noneS, noneS, noneS]), y8, some v, some (.str w), some x, some y, some z, y14, y15]) h := by
  have k1 := tOdd (h := h) V.d X.d (by have := V.n; rw [X.n]; omega) (.inl V.f) hw
  have k2 := tOdd (h := h) X.d V.d (by have := V.n; rw [X.n]; omega) (.inr V.f) hw
  have k3 := tOdd (h := h) V.d V.d (by have := V.n; omega) (.inl V.f) hw
  have it : ∀ {p q : PV}, R 6 20 [.str w, p, q] h = .ok noneS h → compF (R 6) [14, 15] (.call 20 (.cons (.var 10) (.cons (.var 14) (.cons (.var 15) .nil)))) (.t (.cons (.v 14) (.cons (.v 15) .nil))) (.con (.bl true)) [a, some (.ref n), y2, y3, y4, y5, y6, y7, y8, some v, some (.str w), some x, some y, some z, y14, y15] (.tup [p, q]) h = .ok [noneS] h := by
    intro p q e
    unfold compF
    simp only [evS, evE, evSs, evEs, evI, List.map_cons, List.map_nil, List.cons_append, List.nil_append, List.replicate_succ, List.replicate_zero, getS_0, getS_s, List.set_cons_zero, List.set_cons_succ, wipe_nil, wipe_cons, setT_v, setT_t, setTs_nil, setTs_cons, setAll, Option.bind_some, Out.of_some, Out.bind_ok, Nat.reduceSub, e]
  have e3 := each3 (it k1) (it k2) (it k3)
  have z2 : szOk 2 = true := rfl
  have z3 : szOk 3 = true := rfl
  have l : evI (R 6) (.it (.tup (.cons (.tup (.cons (.var 9) (.cons (.var 11) .nil))) (.cons (.tup (.cons (.var 11) (.cons (.var 9) .nil))) (.cons (.tup (.cons (.var 9) (.cons (.var 9) .nil))) .nil))))) [a, some (.ref n), y2, y3, y4, y5, y6, y7, y8, some v, some (.str w), some x, some y, some z, y14, y15] h = .ok [.tup [v, x], .tup [x, v], .tup [v, v]] h := by
    refine i_it (x := .tup [.tup [v, x], .tup [x, v], .tup [v, v]]) ?_ rfl
    simp only [evS, evE, evSs, evEs, evI, List.map_cons, List.map_nil, List.cons_append, List.nil_append, List.replicate_succ, List.replicate_zero, getS_0, getS_s, List.set_cons_zero, List.set_cons_succ, wipe_nil, wipe_cons, setT_v, setT_t, setTs_nil, setTs_cons, setAll, Option.bind_some, Out.of_some, Out.bind_ok, Nat.reduceSub, List.length_cons, List.length_nil, Nat.reduceAdd, z2, z3, if_true]
  refine (ss_nx (s_asg (comp_run l e3 (by decide)))).trans ((ss_nx ?_).trans rfl)
  have cc : cmpV .NotEq (.lst [noneS, noneS, noneS]) (.lst [noneS, noneS, noneS]) = some false := by kernel_rfl
  exact (s_iff (e_cmp (y := .lst [noneS, noneS, noneS]) rfl rfl cc)).trans rfl
theorem t11_is : t11 = .forr [7, 6] (.v 10) (.it (.tup (.cons (.con (.str "plus")) (.cons (.con (.str "times")) (.cons (.con (.str "compare")) .nil))))) bIn := rfl
theorem st11 {v : PV} (X : Ask x) (V : Odd v) : ∃ z7 z10, evS (R 6) t11 [a, some (.ref n), y2, y3, y4, y5, y6, y7, y8, some v, y10, some x, some y, some z, y14, y15] h = .ok (.nx [a, some (.ref n), y2, y3, y4, y5, y6, z7, y8, some v, z10, some x, some y, some z, y14, y15]) h := by
  have lp := for_rule (t := .v 10) (b := evSs (R 6) bIn)
    (fun rest σ h' => h' = h ∧ (∀ w ∈ rest, ∃ s : Str, w = .str s ∧ (s = "plus" ∨ s = "times" ∨ s = "compare")) ∧ ∃ y7 y10, σ = [a, some (.ref n), y2, y3, y4, y5, y6, y7, y8, some v, y10, some x, some y, some z, y14, y15])
    (by
      rintro w ws σ h' ⟨rfl, g, y7, y10, rfl⟩
      obtain ⟨s, rfl, hs⟩ := g w List.mem_cons_self
      exact ⟨_, _, h', rfl, .inl (in_turn hs X V), rfl, fun z hz => g z (List.mem_cons_of_mem _ hz), _, _, rfl⟩)
  obtain ⟨σ', h', e8, rfl, _, z7, z10, rfl⟩ := lp [.str "plus", .str "times", .str "compare"] [a, some (.ref n), y2, y3, y4, y5, y6, y7, y8, some v, y10, some x, some y, some z, y14, y15] h ⟨rfl, fun w hw => by
    simp only [List.mem_cons, List.not_mem_nil, or_false] at hw
    rcases hw with rfl | rfl | rfl
    · exact ⟨_, rfl, .inl rfl⟩
    · exact ⟨_, rfl, .inr (.inl rfl)⟩
    · exact ⟨_, rfl, .inr (.inr rfl)⟩, _, _, rfl⟩
  refine ⟨z7, z10, ?_⟩
  rw [t11_is, evS, i_it (x := .tup [.str "plus", .str "times", .str "compare"]) (by rfl) rfl]
  exact e8
end
theorem turn_ok {n : Nat} {B : Int} {h : Hs} {a y2 y3 y4 y5 y6 y7 y8 y9 y10 y11 y12 y13 y14 y15 : Opv} (p : PenOk n B h) (hB : B + 1000 ≤ 1000000) :
    ∃ (z5 z6 z7 z8 z9 z10 z11 z12 z13 : Opv) (h' : Hs), evSs (R 6) bTurn [a, some (.ref n), y2, y3, y4, y5, y6, y7, y8, y9, y10, y11, y12, y13, y14, y15] h = .ok (.nx [a, some (.ref n), y2, y3, y4, z5, z6, z7, z8, z9, z10, z11, z12, z13, y14, y15]) h' ∧ PenOk n (B + 13) h' := by
  obtain ⟨x, p1, q1, h1, e1, k1, X⟩ := cGreat 3 p (by omega)
  obtain ⟨y, r1, s1, h2, e2, k2, Y⟩ := cGreat 3 k1 (by omega)
  obtain ⟨z, u1, w1, h3, e3, k3, Z⟩ := cGreat 3 k2 (by omega)
  obtain ⟨v, h4, hv, e4, k4, _⟩ := cOne 3 n (B + 4 + 4 + 4) odd h3 k3 (by omega) (by simp [odd]) (by simp [odd])
  have V := odd_good v hv
  have s0 : evS (R 6) t0 [a, some (.ref n), y2, y3, y4, y5, y6, y7, y8, y9, y10, y11, y12, y13, y14, y15] h = .ok (.nx [a, some (.ref n), y2, y3, y4, y5, y6, y7, y8, y9, y10, some x, some y, some z, y14, y15]) h3 := by
    unfold t0
    simp only [evS, evE, evSs, evEs, evI, List.map_cons, List.map_nil, List.cons_append, List.nil_append, List.replicate_succ, List.replicate_zero, getS_0, getS_s, List.set_cons_zero, List.set_cons_succ, wipe_nil, wipe_cons, setT_v, setT_t, setTs_nil, setTs_cons, setAll, Option.bind_some, Out.of_some, Out.bind_ok, Nat.reduceSub, show R 6 22 [.ref n] h = _ from e1, show R 6 22 [.ref n] h1 = _ from e2, show R 6 22 [.ref n] h2 = _ from e3]
  obtain ⟨_, axy⟩ := X.add Y
  obtain ⟨_, mxy⟩ := X.mul Y
  obtain ⟨z7, z10, e11⟩ := st11 (h := h4) (a := a) (n := n) (y2 := y2) (y3 := y3) (y4 := y4) (y5 := some (sgnV x y)) (y6 := some (.lst [addV x y, mulV x y, sgnV x y])) (y7 := some (.lst [addV x y, mulV x y, sgnV x y])) (y8 := some (.lst odd)) (y10 := y10) (y14 := y14) (y15 := y15) (x := x) (y := y) (z := z) X.ask V
  refine ⟨some (sgnV x y), some (.lst [addV x y, mulV x y, sgnV x y]), z7, some (.lst odd), some v, z10, some x, some y, some z, h4, ?_, k4.mono (by omega)⟩
  unfold bTurn
  refine (ss_nx s0).trans ((ss_nx (st1 X.ask Y.ask)).trans ((ss_nx (st2 X.ask Y.ask)).trans ((ss_nx (st3 X.ask Y.ask)).trans ((ss_nx (st4 X.ask Y.ask axy mxy)).trans ((ss_nx (st5 X Y Z)).trans ((ss_nx (st6 X Y Z)).trans ((ss_nx (st7 X.ask)).trans ((ss_nx st8).trans ((ss_nx st9).trans ?_)))))))))
  exact (ss_nx (s_asg (e_call2 (a := .var 1) (b := .var 8) rfl rfl e4))).trans ((ss_nx e11).trans rfl)
theorem plain (ns : List Int) (_ : ns.length ≤ 63) : ∃ h, run pt 7 23 [.scr (ns.map .int)] [] = .ok (.bl true) h := by
  obtain ⟨cs, e1⟩ := cOpen 5 (ns := ns) (h := [])
  have p0 : PenOk 0 0 [pen cs 0 0] := ⟨cs, 0, 0, rfl, by omega, by omega, by omega⟩
  have lp := for_rule (t := .v 2) (b := evSs (R 6) bTurn)
    (fun rest σ h' => ∃ (y2 y5 y6 y7 y8 y9 y10 y11 y12 y13 : Opv), rest.length ≤ 10 ∧ PenOk 0 (13 * (10 - rest.length : Int)) h' ∧ σ = [some (.scr (ns.map .int)), some (.ref 0), y2, none, none, y5, y6, y7, y8, y9, y10, y11, y12, y13, none, none])
    (by
      rintro q qs σ h' ⟨y2, y5, y6, y7, y8, y9, y10, y11, y12, y13, l, p, rfl⟩
      simp only [List.length_cons] at l p
      obtain ⟨z5, z6, z7, z8, z9, z10, z11, z12, z13, h2, e, p2⟩ := turn_ok (a := some (.scr (ns.map .int))) (y2 := some q) (y3 := none) (y4 := none) (y5 := y5) (y6 := y6) (y7 := y7) (y8 := y8) (y9 := y9) (y10 := y10) (y11 := y11) (y12 := y12) (y13 := y13) (y14 := none) (y15 := none) p (by omega)
      exact ⟨_, _, h2, rfl, .inl e, some q, z5, z6, z7, z8, z9, z10, z11, z12, z13, by omega, p2.mono (by omega), rfl⟩)
  obtain ⟨σ', h', e2, y2, y5, y6, y7, y8, y9, y10, y11, y12, y13, _, _, rfl⟩ := lp (rangeL 0 10) [some (.scr (ns.map .int)), some (.ref 0), none, none, none, none, none, none, none, none, none, none, none, none, none, none] [pen cs 0 0] ⟨none, none, none, none, none, none, none, none, none, none, by decide, p0.mono (by decide), rfl⟩
  refine ⟨h', (run_at rfl).trans (d_rt rfl ?_)⟩
  show evSs (R 6) b_law _ _ = _
  rw [law_is]
  refine (ss_nx (s_asg (e_call1 rfl e1))).trans ((ss_nx (σ' := [some (.scr (ns.map .int)), some (.ref 0), y2, none, none, y5, y6, y7, y8, y9, y10, y11, y12, y13, none, none]) (h' := h') ?_).trans last_ok)
  rw [evS, i_range (m := 10) rfl (by omega) (by omega)]
  exact e2
end L_k02

set_option Elab.async false
set_option linter.all false
set_option maxRecDepth 100000
set_option maxHeartbeats 0
namespace L_k02
open PySem PyProof.Rows L2 MP
def top (i : Nat) : Stmt := PySem.Challenge.pw_nextwork_k02_sums_products_and_order.main.body.getD i (.Pass ⟨0, 0, 0, 0⟩)
def gl : List (Str × GV) := [(("is_integer" : Str), GV.fn 0), (("divisor_of" : Str), GV.fn 1), (("reduced" : Str), GV.fn 2), (("is_fraction" : Str), GV.fn 3), (("need_fraction" : Str), GV.fn 4), (("add" : Str), GV.fn 5), (("mul" : Str), GV.fn 6), (("sign_of" : Str), GV.fn 7), (("plus" : Str), GV.fn 8), (("times" : Str), GV.fn 9), (("compare" : Str), GV.fn 10), (("_law_spread" : Str), GV.fn 11), (("_law_open" : Str), GV.fn 12), (("_law_take" : Str), GV.fn 13), (("_law_one" : Str), GV.fn 14), (("_law_divisor" : Str), GV.fn 15), (("_law_frac" : Str), GV.fn 16), (("_law_add" : Str), GV.fn 17), (("_law_mul" : Str), GV.fn 18), (("_law_is_less" : Str), GV.fn 19), (("_law_told" : Str), GV.fn 20), (("_law_done" : Str), GV.fn 21), (("_law_great" : Str), GV.fn 22), (("law" : Str), GV.fn 23), (("WorkError" : Str), GV.cls 0 [0]), (("NoFraction" : Str), GV.cls 1 [1, 0])]
def d_is_integer : DD := ⟨"is_integer", "is_integer", defArgs (top 4), defBody (top 4), defScope (top 4), ["value"], ["value"], p_is_integer, false, false⟩
def d_divisor_of : DD := ⟨"divisor_of", "divisor_of", defArgs (top 5), defBody (top 5), defScope (top 5), ["one", "other"], ["one", "other"], p_divisor_of, false, false⟩
def d_reduced : DD := ⟨"reduced", "reduced", defArgs (top 6), defBody (top 6), defScope (top 6), ["top", "bottom", "most"], ["top", "bottom"], p_reduced, false, false⟩
def d_is_fraction : DD := ⟨"is_fraction", "is_fraction", defArgs (top 7), defBody (top 7), defScope (top 7), ["value"], ["value"], p_is_fraction, false, false⟩
def d_need_fraction : DD := ⟨"need_fraction", "need_fraction", defArgs (top 8), defBody (top 8), defScope (top 8), ["value"], ["value"], p_need_fraction, false, true⟩
def d_add : DD := ⟨"add", "add", defArgs (top 9), defBody (top 9), defScope (top 9), ["one", "other"], ["one", "other"], p_add, false, false⟩
def d_mul : DD := ⟨"mul", "mul", defArgs (top 10), defBody (top 10), defScope (top 10), ["one", "other"], ["one", "other"], p_mul, false, false⟩
def d_sign_of : DD := ⟨"sign_of", "sign_of", defArgs (top 11), defBody (top 11), defScope (top 11), ["one", "other", "low", "high"], ["one", "other"], p_sign_of, true, false⟩
def d_plus : DD := ⟨"plus", "plus", defArgs (top 12), defBody (top 12), defScope (top 12), ["one", "other"], ["one", "other"], p_plus, false, true⟩
def d_times : DD := ⟨"times", "times", defArgs (top 13), defBody (top 13), defScope (top 13), ["one", "other"], ["one", "other"], p_times, false, true⟩
def d_compare : DD := ⟨"compare", "compare", defArgs (top 14), defBody (top 14), defScope (top 14), ["one", "other"], ["one", "other"], p_compare, false, true⟩
def d__law_spread : DD := ⟨"_law_spread", "_law_spread", defArgs (top 16), defBody (top 16), defScope (top 16), ["cell", "at", "primes", "mixed", "one", "rest", "two", "three"], ["cell", "at"], p__law_spread, false, false⟩
def d__law_open : DD := ⟨"_law_open", "_law_open", defArgs (top 17), defBody (top 17), defScope (top 17), ["script", "cells", "k", "cell"], ["script"], p__law_open, false, false⟩
def d__law_take : DD := ⟨"_law_take", "_law_take", defArgs (top 18), defBody (top 18), defScope (top 18), ["pen", "many", "found", "at", "cell"], ["pen", "many"], p__law_take, true, false⟩
def d__law_one : DD := ⟨"_law_one", "_law_one", defArgs (top 19), defBody (top 19), defScope (top 19), ["pen", "some"], ["pen", "some"], p__law_one, false, false⟩
def d__law_divisor : DD := ⟨"_law_divisor", "_law_divisor", defArgs (top 20), defBody (top 20), defScope (top 20), ["one", "other"], ["one", "other"], p__law_divisor, false, false⟩
def d__law_frac : DD := ⟨"_law_frac", "_law_frac", defArgs (top 21), defBody (top 21), defScope (top 21), ["top", "bottom", "most"], ["top", "bottom"], p__law_frac, false, false⟩
def d__law_add : DD := ⟨"_law_add", "_law_add", defArgs (top 22), defBody (top 22), defScope (top 22), ["one", "other"], ["one", "other"], p__law_add, false, false⟩
def d__law_mul : DD := ⟨"_law_mul", "_law_mul", defArgs (top 23), defBody (top 23), defScope (top 23), ["one", "other"], ["one", "other"], p__law_mul, false, false⟩
def d__law_is_less : DD := ⟨"_law_is_less", "_law_is_less", defArgs (top 24), defBody (top 24), defScope (top 24), ["one", "other"], ["one", "other"], p__law_is_less, false, false⟩
def d__law_told : DD := ⟨"_law_told", "_law_told", defArgs (top 25), defBody (top 25), defScope (top 25), ["word", "one", "other", "e", "kept", "found"], ["word", "one", "other"], p__law_told, false, false⟩
def d__law_done : DD := ⟨"_law_done", "_law_done", defArgs (top 26), defBody (top 26), defScope (top 26), ["word", "one", "other"], ["word", "one", "other"], p__law_done, false, true⟩
def d__law_great : DD := ⟨"_law_great", "_law_great", defArgs (top 27), defBody (top 27), defScope (top 27), ["pen", "top", "bottom"], ["pen"], p__law_great, false, false⟩
def d_law : DD := ⟨"law", "law", defArgs (top 28), defBody (top 28), defScope (top 28), ["script", "pen", "turn", "great", "tiny", "order", "due", "told", "some", "odd", "word", "one", "other", "third", "first", "second"], ["script"], p_law, false, false⟩
def tb : List DD := [d_is_integer, d_divisor_of, d_reduced, d_is_fraction, d_need_fraction, d_add, d_mul, d_sign_of, d_plus, d_times, d_compare, d__law_spread, d__law_open, d__law_take, d__law_one, d__law_divisor, d__law_frac, d__law_add, d__law_mul, d__law_is_less, d__law_told, d__law_done, d__law_great, d_law]
theorem tb_pt (i : Nat) : ptT tb i = pt i := by
  show (tb[i]?).map (·.d) = dl[i]?
  rw [← List.getElem?_map]
  rfl
theorem names : tabB tb gl = true := by decide +kernel
theorem scs : (tb.all fun D => scB D.N D.ps D.scope) = true := by decide +kernel
theorem ok_is_integer : d_is_integer.ok gl (frT tb) (npT tb) (xsT tb) = true := by decide +kernel
theorem ok_divisor_of : d_divisor_of.ok gl (frT tb) (npT tb) (xsT tb) = true := by decide +kernel
theorem ok_reduced : d_reduced.ok gl (frT tb) (npT tb) (xsT tb) = true := by decide +kernel
theorem ok_is_fraction : d_is_fraction.ok gl (frT tb) (npT tb) (xsT tb) = true := by decide +kernel
theorem ok_need_fraction : d_need_fraction.ok gl (frT tb) (npT tb) (xsT tb) = true := by decide +kernel
theorem ok_add : d_add.ok gl (frT tb) (npT tb) (xsT tb) = true := by decide +kernel
theorem ok_mul : d_mul.ok gl (frT tb) (npT tb) (xsT tb) = true := by decide +kernel
theorem ok_sign_of : d_sign_of.ok gl (frT tb) (npT tb) (xsT tb) = true := by decide +kernel
theorem ok_plus : d_plus.ok gl (frT tb) (npT tb) (xsT tb) = true := by decide +kernel
theorem ok_times : d_times.ok gl (frT tb) (npT tb) (xsT tb) = true := by decide +kernel
theorem ok_compare : d_compare.ok gl (frT tb) (npT tb) (xsT tb) = true := by decide +kernel
theorem ok__law_spread : d__law_spread.ok gl (frT tb) (npT tb) (xsT tb) = true := by decide +kernel
theorem ok__law_open : d__law_open.ok gl (frT tb) (npT tb) (xsT tb) = true := by decide +kernel
theorem ok__law_take : d__law_take.ok gl (frT tb) (npT tb) (xsT tb) = true := by decide +kernel
theorem ok__law_one : d__law_one.ok gl (frT tb) (npT tb) (xsT tb) = true := by decide +kernel
theorem ok__law_divisor : d__law_divisor.ok gl (frT tb) (npT tb) (xsT tb) = true := by decide +kernel
theorem ok__law_frac : d__law_frac.ok gl (frT tb) (npT tb) (xsT tb) = true := by decide +kernel
theorem ok__law_add : d__law_add.ok gl (frT tb) (npT tb) (xsT tb) = true := by decide +kernel
theorem ok__law_mul : d__law_mul.ok gl (frT tb) (npT tb) (xsT tb) = true := by decide +kernel
theorem ok__law_is_less : d__law_is_less.ok gl (frT tb) (npT tb) (xsT tb) = true := by decide +kernel
theorem ok__law_told : d__law_told.ok gl (frT tb) (npT tb) (xsT tb) = true := by decide +kernel
theorem ok__law_done : d__law_done.ok gl (frT tb) (npT tb) (xsT tb) = true := by decide +kernel
theorem ok__law_great : d__law_great.ok gl (frT tb) (npT tb) (xsT tb) = true := by decide +kernel
theorem ok_law : d_law.ok gl (frT tb) (npT tb) (xsT tb) = true := by decide +kernel
theorem allB {f : DD → Bool} {D : DD} {r : List DD} (h : f D = true) (h2 : r.all f = true) : (D :: r).all f = true := by rw [List.all_cons, h, h2]; rfl
theorem oks : (tb.all fun D => D.ok gl (frT tb) (npT tb) (xsT tb)) = true := (allB ok_is_integer (allB ok_divisor_of (allB ok_reduced (allB ok_is_fraction (allB ok_need_fraction (allB ok_add (allB ok_mul (allB ok_sign_of (allB ok_plus (allB ok_times (allB ok_compare (allB ok__law_spread (allB ok__law_open (allB ok__law_take (allB ok__law_one (allB ok__law_divisor (allB ok__law_frac (allB ok__law_add (allB ok__law_mul (allB ok__law_is_less (allB ok__law_told (allB ok__law_done (allB ok__law_great (allB ok_law rfl))))))))))))))))))))))))
def Bnd (D : DD) : Prop := ∀ (kV doc pm : Value) (an : Option Addr) (cdv ct : Value) (us : List Value), us.length = D.ps.length → bindArgs (PySem.W.fnOf D.name D.qual D.params D.body D.scope .none kV doc pm an cdv ct) ⟨us, []⟩ = pure (D.ps.zip us)
theorem bd_is_integer : Bnd d_is_integer := fun _ _ _ _ _ _ us hl => match us, hl with | [_], _ => rfl
theorem bd_divisor_of : Bnd d_divisor_of := fun _ _ _ _ _ _ us hl => match us, hl with | [_, _], _ => rfl
theorem bd_reduced : Bnd d_reduced := fun _ _ _ _ _ _ us hl => match us, hl with | [_, _], _ => rfl
theorem bd_is_fraction : Bnd d_is_fraction := fun _ _ _ _ _ _ us hl => match us, hl with | [_], _ => rfl
theorem bd_need_fraction : Bnd d_need_fraction := fun _ _ _ _ _ _ us hl => match us, hl with | [_], _ => rfl
theorem bd_add : Bnd d_add := fun _ _ _ _ _ _ us hl => match us, hl with | [_, _], _ => rfl
theorem bd_mul : Bnd d_mul := fun _ _ _ _ _ _ us hl => match us, hl with | [_, _], _ => rfl
theorem bd_sign_of : Bnd d_sign_of := fun _ _ _ _ _ _ us hl => match us, hl with | [_, _], _ => rfl
theorem bd_plus : Bnd d_plus := fun _ _ _ _ _ _ us hl => match us, hl with | [_, _], _ => rfl
theorem bd_times : Bnd d_times := fun _ _ _ _ _ _ us hl => match us, hl with | [_, _], _ => rfl
theorem bd_compare : Bnd d_compare := fun _ _ _ _ _ _ us hl => match us, hl with | [_, _], _ => rfl
theorem bd__law_spread : Bnd d__law_spread := fun _ _ _ _ _ _ us hl => match us, hl with | [_, _], _ => rfl
theorem bd__law_open : Bnd d__law_open := fun _ _ _ _ _ _ us hl => match us, hl with | [_], _ => rfl
theorem bd__law_take : Bnd d__law_take := fun _ _ _ _ _ _ us hl => match us, hl with | [_, _], _ => rfl
theorem bd__law_one : Bnd d__law_one := fun _ _ _ _ _ _ us hl => match us, hl with | [_, _], _ => rfl
theorem bd__law_divisor : Bnd d__law_divisor := fun _ _ _ _ _ _ us hl => match us, hl with | [_, _], _ => rfl
theorem bd__law_frac : Bnd d__law_frac := fun _ _ _ _ _ _ us hl => match us, hl with | [_, _], _ => rfl
theorem bd__law_add : Bnd d__law_add := fun _ _ _ _ _ _ us hl => match us, hl with | [_, _], _ => rfl
theorem bd__law_mul : Bnd d__law_mul := fun _ _ _ _ _ _ us hl => match us, hl with | [_, _], _ => rfl
theorem bd__law_is_less : Bnd d__law_is_less := fun _ _ _ _ _ _ us hl => match us, hl with | [_, _], _ => rfl
theorem bd__law_told : Bnd d__law_told := fun _ _ _ _ _ _ us hl => match us, hl with | [_, _, _], _ => rfl
theorem bd__law_done : Bnd d__law_done := fun _ _ _ _ _ _ us hl => match us, hl with | [_, _, _], _ => rfl
theorem bd__law_great : Bnd d__law_great := fun _ _ _ _ _ _ us hl => match us, hl with | [_], _ => rfl
theorem bd_law : Bnd d_law := fun _ _ _ _ _ _ us hl => match us, hl with | [_], _ => rfl
theorem allP {f : DD → Prop} {D : DD} {r : List DD} (h : f D) (h2 : ∀ E ∈ r, f E) : ∀ E ∈ D :: r, f E := fun E m => by
  rcases List.mem_cons.mp m with e | m
  · rw [e]; exact h
  · exact h2 E m
theorem bnd : ∀ D ∈ tb, Bnd D := (allP bd_is_integer (allP bd_divisor_of (allP bd_reduced (allP bd_is_fraction (allP bd_need_fraction (allP bd_add (allP bd_mul (allP bd_sign_of (allP bd_plus (allP bd_times (allP bd_compare (allP bd__law_spread (allP bd__law_open (allP bd__law_take (allP bd__law_one (allP bd__law_divisor (allP bd__law_frac (allP bd__law_add (allP bd__law_mul (allP bd__law_is_less (allP bd__law_told (allP bd__law_done (allP bd__law_great (allP bd_law (fun _ m => nomatch m)))))))))))))))))))))))))
def loose : List Str := (["WorkError", "NoFraction", "is_integer", "divisor_of", "reduced", "is_fraction", "need_fraction", "add", "mul", "sign_of", "plus", "times", "compare", "_law_spread", "_law_open", "_law_take", "_law_one", "_law_divisor", "_law_frac", "_law_add", "_law_mul", "_law_is_less", "_law_told", "_law_done", "_law_great"] : List Str)
abbrev Rw : PySem.W.OpenRow := PySem.W.OpenLaw.row PySem.Challenge.rw_nextwork_k02_sums_products_and_order
def fa : List He.Fa := faOf tb gl
def fn : List He.DefD := tb.map dOf
abbrev hk : PySem.W.Hook := hookM 4 fa fn (fun Z => glB Z gl && clsB Z gl)
def ob (s : PySem.W.SharedT) : He.AlD × Bool := obM 4 fa fn (fun Z => glB Z gl && clsB Z gl) s
theorem run (w : World) : HandSHeadRun.RunEq Rw (PySem.W.view Rw.prog [28]) hk ob 4000 loose w := by
  intro os
  kernel_rfl
end L_k02
open PySem PySem.W PySem.Calls PyProof.Rows
theorem k02_of (plain : ∀ ns : List Int, ns.length ≤ 63 → ∃ h, MP.run L_k02.pt 7 23 [.scr (ns.map .int)] [] = .ok (.bl true) h) : PySem.Challenge.rw_nextwork_k02_sums_products_and_order.Holds := by
  w_on; o_law
  refine HandSHeadRun.head_any (r := OpenLaw.row PySem.Challenge.rw_nextwork_k02_sums_products_and_order) (q := view (OpenLaw.row PySem.Challenge.rw_nextwork_k02_sums_products_and_order).prog [28]) (H := L_k02.hk) (ob := L_k02.ob) (M := 4000) (loose := L_k02.loose) (d := HandSHeadRun.topDef (OpenLaw.row PySem.Challenge.rw_nextwork_k02_sums_products_and_order).prog 28) (kwd := []) MP.obM_eq
    (by kernel_rfl) (fun s => by kernel_rfl) L_k02.run (by kernel_rfl) (by kernel_rfl) (by kernel_rfl) (by rfl) (by first | assumption | decide +kernel) (by decide +kernel) ⟨rfl, rfl, rfl, rfl, rfl, by decide +kernel⟩ ?hw ?hc
  case hw => w_witness2
  case hc =>
    refine MP.walk_ofG (l := PySem.Challenge.rw_nextwork_k02_sums_products_and_order) (n := 63) (k := 7) (x := "script") rfl (by decide) (by kernel_rfl) ⟨rfl, by decide, by decide⟩ ?F
    intro w mg fa h Y G hmg
    obtain ⟨Z, inZ, says, ex⟩ := Y
    have hmg2 : mg L_k02.d_law.name = some (.ref fa) := by
      have e : (HandSHeadRun.topDef (OpenLaw.row PySem.Challenge.rw_nextwork_k02_sums_products_and_order).prog 28).name = L_k02.d_law.name := by kernel_rfl
      rw [← e]
      exact hmg
    have e : MP.ptT L_k02.tb = L_k02.pt := funext L_k02.tb_pt
    obtain ⟨fd, sp, h1, h2, h3⟩ := MP.law_facts (P := (PySem.Challenge.rw_nextwork_k02_sums_products_and_order).prog) (w := w) (tb := L_k02.tb) (gl := L_k02.gl) (k := 7) (g := 23) (n := 63) (D := L_k02.d_law) (x := "script") inZ G says ex L_k02.names L_k02.scs L_k02.oks L_k02.bnd rfl rfl hmg2 (by rw [e]; exact plain)
    exact ⟨Z, fd, sp, inZ, h1, h2, h3⟩

theorem PySem.Challenge.cw_nextwork_k02_sums_products_and_order_holds : PySem.Challenge.rw_nextwork_k02_sums_products_and_order.Holds := by
  exact k02_of L_k02.plain
