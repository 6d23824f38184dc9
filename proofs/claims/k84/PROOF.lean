import PyProof.Rows.All
import Wide.All
import OpenK.AllK
import Wide.FinOn
import HandS.ForMost
import HandS.Text
import KE.DataMinMax
import KE.SortData
import HandS.ForExc
import HandS.CallSlots
import HandS.Flow
import HandS.Style
import HandS.Strs
import HandS.TupAny
import HandS.TupLe
import HandS.Deep
import HandS.IsInst
import HandS.Zip
import HandS.SortInts
import HandS.RevTup
import HandS.Lambda
import HandS.HeadHook4
import HandS.SetFor
import HandS.Conv
import KE.GoesMore
import KE.GoesEnum
import HandS.TryOnly
import HandS.Comp
import HandS.ExcOwn
import HandS.HotCalls
import HandS.ExcIs
import HandS.ExcField
import KE.KExcIs
import HandS.Dict
import HandS.ExcInit
import HandS.HeadWalk
import KE.KStateDown
import Lean
import HandS.Ends
import HandS.More
import HandS.Words
import HandS.WordsExc
import HandS.Defaults
import HandS.Head0
import HandS.Head1
import HandS.Head2
import HandS.HeadEnd
import HandS.HeadHook1
import HandS.HeadHook2
import PySem.Challenge.RW_twosetsums_k84_called_by_their_names
set_option Elab.async false
set_option linter.all false
set_option maxRecDepth 100000
namespace Tw
open PySem

abbrev D := PyData

/-- what a variable holds: data (never changed), a list of its own, a list lent by the caller -/
inductive Ent where
  | dat (d : D) | own (xs : List D) | par (xs : List D)
abbrev Rho := List (Option Ent)

structure Exc where
  cls : Nat
  flds : List D

inductive Res (α : Type) where
  | ok (a : α) (ρ : Rho)
  | exc (x : Exc) (ρ : Rho)
  | stuck
def Res.bind {α β : Type} : Res α → (α → Rho → Res β) → Res β
  | .ok a ρ, f => f a ρ
  | .exc x ρ, _ => .exc x ρ
  | .stuck, _ => .stuck
@[simp] theorem Res.bind_ok {α β : Type} (a : α) (ρ : Rho) (f : α → Rho → Res β) : (Res.ok a ρ).bind f = f a ρ := rfl
def Res.opt {α : Type} : Option α → Rho → Res α
  | some a, ρ => .ok a ρ
  | none, _ => .stuck
@[simp] theorem Res.opt_some {α : Type} (a : α) (ρ : Rho) : Res.opt (some a) ρ = .ok a ρ := rfl

inductive Arg where
  | val (d : D) | mut (xs : List D)
inductive CRes where
  | ok (d : D) (fr : Bool) (outs : List (List D))
  | exc (x : Exc) (outs : List (List D))
  | stuck
abbrev CallT := Nat → List Arg → CRes

inductive BOp | add | sub | mul | fdiv | mod | pow
inductive COp | eq | ne | lt | le | gt | ge | isin | notin | isis | isnot
/-- built-in functions of values -/
inductive Bt | len | int | tuple | list | sorted | min | max | sum | all | repr | divmod | str
def isRepr : Bt → Bool
  | .repr => true
  | _ => false
inductive Ty | int | bool | tuple | list | str
inductive Tg | name (i : Nat) | tup (is : List Nat)

mutual
inductive CE where
  | con (d : D) | var (i : Nat) | glo (x : Str) (d : D)
  | bin (o : BOp) (a b : CE) | neg (a : CE)
  | cmp (o : COp) (a b : CE) | cmp2 (o p : COp) (a b e : CE)
  | and (es : CEs) | or (es : CEs) | not (a : CE)
  | ite (t a b : CE)
  | tup (es : CEs) | lst (es : CEs)
  | idx (a i : CE) | slc (a : CE) (lo hi : CO) | rev (a : CE)
  | comp (own : List (Str × Nat)) (elt : CE) (tg : Tg) (it : CI) (cond : CO)
  | call (f : Nat) (ms : List Bool) (es : CEs)
  | callT (f g : Nat) (ms : List Bool) (es : CEs) (k : Int)
  | blt (b : Bt) (es : CEs)
  | isi (ty : Ty) (a : CE)
  | sset (a : CE) | lset (a : CE)
  | join (a b : CE) | split (a b : CE)
  | index (a b : CE) | count (a b : CE) | tupR (a : CE) | tupR3 (a b s : CE)
  | dct | fnv (id : Nat) (x : Str) | callv (al : List (Nat × Str)) (i : Nat) (es : CEs) | said (e : CE)
inductive CEs where
  | nil | cons (e : CE) (es : CEs)
inductive CO where
  | none | some (e : CE)
inductive CI where
  | seq (e : CE) | range (es : CEs) | enum (e : CE) | zip (a b : CE)
end

mutual
inductive CS where
  | asg (tg : Tg) (e : CE) | box (i : Nat) (e : CE) | expr (e : CE)
  | app (i : Nat) (e : CE) | ext (i : Nat) (e : CE) | seti (i : Nat) (ix e : CE)
  | ret (e : CE) | pass | brk
  | iff (t : CE) (a b : CSs) | forr (tg : Tg) (it : CI) (body : CSs) | whil (t : CE) (body : CSs)
  | rais (cls : Nat) (es : CEs)
  | boxes (is js : List Nat)
  | appT (e : CE) (k : Int)
inductive CSs where
  | nil | cons (s : CS) (r : CSs)
end
def CEs.ofL : List CE → CEs
  | [] => .nil
  | e :: es => .cons e (ofL es)
def CSs.ofL : List CS → CSs
  | [] => .nil
  | e :: es => .cons e (ofL es)

abbrev SL : Nat := 16777216
/-- truth -/
def truB : D → Option Bool
  | .none => some false
  | .bool b => some b
  | .int i => some (!decide (i = 0))
  | .str x => if x.length ≤ SL then some (!decide (x.length = 0)) else none
  | .list xs => some (!xs.isEmpty)
  | .tuple xs => some (!xs.isEmpty)
  | .dict _ => none
def truR (d : D) (ρ : Rho) : Res Bool := .opt (truB d) ρ
def smallI (i : Int) : Bool := decide (-(2 ^ 64) < i) && decide (i < 2 ^ 64)
def addD : D → D → Option D
  | .int i, .int j => some (.int (i + j))
  | .list xs, .list ys => if xs.length + ys.length ≤ SL then some (.list (xs ++ ys)) else none
  | .tuple xs, .tuple ys => if xs.length + ys.length ≤ SL then some (.tuple (xs ++ ys)) else none
  | .str x, .str y => if x.length + y.length ≤ SL then some (.str (x ++ y)) else none
  | _, _ => none
def repD (xs : List D) (n : Nat) : List D := (List.replicate n xs).flatten
def mulD : D → D → Option D
  | .int i, .int j => if (smallI i || smallI j) = true then some (.int (i * j)) else none
  | .list xs, .int n => if xs.length * n.toNat ≤ SL ∧ -(2 ^ 60) < n ∧ n < 2 ^ 60 then some (.list (repD xs n.toNat)) else none
  | _, _ => none
def binD : BOp → D → D → Option D
  | .add, a, b => addD a b
  | .sub, .int i, .int j => some (.int (i - j))
  | .mul, a, b => mulD a b
  | .fdiv, .int i, .int j => if 0 < j ∧ j < 1073741824 then some (.int (i / j)) else none
  | .mod, .int i, .int j => if 0 < j then some (.int (i % j)) else none
  | .pow, .int i, .int j => if 0 ≤ j ∧ j ≤ 1000 ∧ i.natAbs < 2 ^ 64 then some (.int (i ^ j.toNat)) else none
  | _, _, _ => none
def shp (d : D) : Bool := SeqAt.shaped d
def inD (d : D) : D → Option Bool
  | .list xs => if (shp d && shp (.list xs)) = true then some (xs.any fun z => PyData.eqv z d) else none
  | .tuple xs => if (shp d && shp (.tuple xs)) = true then some (xs.any fun z => PyData.eqv z d) else none
  | .str b => match d with
    | .str a => some (!(Builtin.Str.occurrences b a 0 b.length 1).isEmpty)
    | _ => none
  | _ => none
def isNone : D → Bool
  | .none => true
  | _ => false
def isD : D → D → Option Bool
  | a, .none => some (isNone a)
  | .bool a, .bool b => some (a == b)
  | _, _ => none
/-- tuples of whole numbers, as they rise -/
def intsOf : List D → Option (List Int)
  | [] => some []
  | .int i :: r => (intsOf r).map (i :: ·)
  | _ :: _ => none
def ltT (xs ys : List D) : Option Bool := match intsOf xs, intsOf ys with
  | some is, some js => if PySem.W.alike (.tuple xs) (.tuple ys) = true then some (decide (is < js)) else none
  | _, _ => none
def cmpD : COp → D → D → Option Bool
  | .eq, a, b => if (shp a && shp b) = true then some (PyData.eqv a b) else none
  | .ne, a, b => if (shp a && shp b) = true then some (!PyData.eqv a b) else none
  | .lt, .int i, .int j => some (decide (i < j))
  | .lt, .tuple xs, .tuple ys => ltT xs ys
  | .le, .int i, .int j => some (decide (i ≤ j))
  | .gt, .int i, .int j => some (decide (j < i))
  | .ge, .int i, .int j => some (decide (j ≤ i))
  | .isin, a, b => inD a b
  | .notin, a, b => (inD a b).map (!·)
  | .isis, a, b => isD a b
  | .isnot, a, b => (isD a b).map (!·)
  | _, _, _ => none
def idxD : D → D → Option D
  | .list xs, .int i => L2.atI xs i
  | .tuple xs, .int i => L2.atI xs i
  | .str z, .int i => if z.length ≤ SL then (L2.atI z.cps.toList i).map fun c => .str ⟨#[c]⟩ else none
  | _, _ => none
/-- the items of a slice -/
def cut {α : Type} (xs : List α) (lo hi : Option Int) : List α :=
  (xs.drop (HT.sIx xs.length 0 lo)).take (HT.sIx xs.length xs.length hi - HT.sIx xs.length 0 lo)
def slcD : D → Option Int → Option Int → Option D
  | .list xs, lo, hi => some (.list (cut xs lo hi))
  | .tuple xs, lo, hi => some (.tuple (cut xs lo hi))
  | .str z, lo, hi => if z.length ≤ SL then some (.str ⟨(cut z.cps.toList lo hi).toArray⟩) else none
  | _, _, _ => none
def revD : D → Option D
  | .list xs => some (.list xs.reverse)
  | .tuple xs => some (.tuple xs.reverse)
  | _ => none
def boolsOf : List D → Option (List Bool)
  | [] => some []
  | .bool i :: r => (boolsOf r).map (i :: ·)
  | _ :: _ => none
def seqD : D → Option (List D)
  | .list xs => some xs
  | .tuple xs => some xs
  | _ => none
/-- the signs of a text -/
def charsD (x : Str) : List D := x.cps.toList.map fun c => .str ⟨#[c]⟩
def iterD : D → Option (List D)
  | .list xs => some xs
  | .tuple xs => some xs
  | .str x => if x.length ≤ SL then some (charsD x) else none
  | _ => none
def strsOf : List D → Option (List Str)
  | [] => some []
  | .str i :: r => (strsOf r).map (i :: ·)
  | _ :: _ => none
def isStrD : D → Bool
  | .str _ => true
  | _ => false
def joinD : D → D → Option D
  | .str a, .list xs => (strsOf xs).bind fun ys => if (ys.map (·.length)).sum + ys.length * a.length ≤ SL then some (.str (Txt.join a ys)) else none
  | _, _ => none
def splitD : D → D → Option D
  | .str a, .str b => if (b.length == 0) = false ∧ a.length + 2 ≤ SL then some (.list ((Txt.split a b).map .str)) else none
  | _, _ => none
def insI (x : Int) : List Int → List Int
  | [] => [x]
  | y :: r => if x ≤ y then x :: y :: r else y :: insI x r
def sortI : List Int → List Int
  | [] => []
  | x :: r => insI x (sortI r)
/-- without what comes again (in a rising list) -/
def insU (x : Int) : List Int → List Int
  | [] => [x]
  | y :: r => if x < y then x :: y :: r else if x = y then y :: r else y :: insU x r
def sortU : List Int → List Int
  | [] => []
  | x :: r => insU x (sortU r)
def minI : List Int → Option Int
  | [] => none
  | x :: r => some (r.foldl (fun a b => if b < a then b else a) x)
def maxI : List Int → Option Int
  | [] => none
  | x :: r => some (r.foldl (fun a b => if a < b then b else a) x)
def isDctD : D → Bool
  | .dict [(.none, .none)] => true
  | _ => false
/-- the text of the one dict -/
def dctT : Str := (PyData.dict [(.str "a", .int 1)]).shown
def reprD (d : D) : Option D := if isDctD d = true then some (.str dctT) else if d.showable = true ∧ d.hasDict = false ∧ d.depth ≤ 64 ∧ d.shown.length ≤ SL then some (.str d.shown) else none
/-- the least of alike tuples -/
def isTupD : D → Bool
  | .tuple _ => true
  | _ => false
def alikeB (xs : List D) : Bool := (xs.all fun x => xs.all fun y => PySem.W.alike x y) && xs.all fun x => isTupD x && decide (x.depth ≤ 60)
def minDt : List D → Option D
  | [] => none
  | d :: ds => if alikeB (d :: ds) = true then some (PySem.W.minD d ds) else none
/-- tuples with an item at least, alike, in their order -/
def fullT : D → Bool
  | .tuple (_ :: _) => true
  | _ => false
/-- () is the first one -/
def headE : List D → Bool
  | .tuple [] :: _ => true
  | _ => false
def sortDt (xs : List D) : Option D := if (alikeB xs && (xs.all fullT || headE xs)) = true then some (.list (xs.mergeSort (PySem.W.dataLe false id))) else none
def btD : Bt → List D → Option D
  | .len, [.list xs] => some (.int xs.length)
  | .len, [.tuple xs] => some (.int xs.length)
  | .len, [.str x] => if x.length ≤ SL then some (.int x.length) else none
  | .int, [.int i] => some (.int i)
  | .int, [.bool b] => some (.int (if b then 1 else 0))
  | .int, [.str x] => if x.length ≤ 640 then (PySem.intText? x).map .int else none
  | .str, [.int i] => if i.natAbs.log2 < 1920 then some (.str (toString i)) else none
  | .tuple, [.list xs] => some (.tuple xs)
  | .tuple, [.tuple xs] => some (.tuple xs)
  | .list, [.list xs] => some (.list xs)
  | .list, [.tuple xs] => some (.list xs)
  | .sorted, [.list xs] => match intsOf xs with
    | some is => some (.list ((sortI is).map .int))
    | none => sortDt xs
  | .sorted, [.tuple xs] => (intsOf xs).map fun is => .list ((sortI is).map .int)
  | .min, [.list xs] => match intsOf xs with
    | some is => (minI is).map .int
    | none => minDt xs
  | .max, [.list xs] => (intsOf xs).bind fun is => (maxI is).map .int
  | .min, [.int i, .int j] => some (.int (if j < i then j else i))
  | .max, [.int i, .int j] => some (.int (if j > i then j else i))
  | .sum, [.list xs] => (intsOf xs).bind fun is => some (.int is.sum)
  | .sum, [.tuple xs] => (intsOf xs).bind fun is => some (.int is.sum)
  | .all, [.list xs] => (boolsOf xs).map fun bs => .bool (bs.all id)
  | .repr, [d] => reprD d
  | .divmod, [.int i, .int j] => if 0 < j ∧ j < 1073741824 then some (.tuple [.int (i / j), .int (i % j)]) else none
  | _, _ => none
/-- things that are only handed on: a dict, a function of the module -/
def dctD : D := .dict [(.none, .none)]
def fnD (id : Nat) (x : Str) : D := .dict [(.none, .int id), (.str x, .none)]
def isFn : D → Bool
  | .dict (_ :: _ :: _) => true
  | _ => false
def fnOf : D → Option (Nat × Str)
  | .dict [(.none, .int i), (.str x, .none)] => some (i.toNat, x)
  | _ => none
def isiD : Ty → D → Bool
  | .int, .int _ => true
  | .int, .bool _ => true
  | .bool, .bool _ => true
  | .tuple, .tuple _ => true
  | .list, .list _ => true
  | .str, .str _ => true
  | _, _ => false
def ssetD (d : D) : Option D := (seqD d).bind fun xs => (intsOf xs).bind fun is => if is.length < 4000 ∧ (sortU is).length < 64 then some (.list ((sortU is).map .int)) else none
def lsetD (d : D) : Option D := (seqD d).bind fun xs => (intsOf xs).bind fun is => if is.length < 4000 then some (.int (sortU is).length) else none
/-- the first place of an equal one -/
def indexD : D → D → Option D
  | .list xs, d => if (shp d && shp (.list xs)) = true then (xs.findIdx? fun z => PyData.eqv z d).map fun (j : Nat) => PyData.int (j : Int) else none
  | _, _ => none
def isLst : Option D → Bool
  | some (.list _) => true
  | _ => false
def isTup' : Option D → Bool
  | some (.tuple _) => true
  | _ => false
/-- how often a whole number is in a tuple of whole numbers -/
def countD : D → D → Option D
  | .tuple xs, .int k => (intsOf xs).map fun is => .int ((is.count k : Nat) : Int)
  | _, _ => none
def rangeL (lo : Int) (n : Nat) : List D := (List.range n).map fun (k : Nat) => .int (lo + (k : Int))
/-- how many, with a step -/
def rangeN (a b c : Int) : Nat := if a < b then ((b - a - 1) / c + 1).toNat else 0
def rangeC (a c : Int) (n : Nat) : List D := (List.range n).map fun (k : Nat) => .int (a + (k : Int) * c)
def rangeD : List D → Option (List D)
  | [.int n] => if -(2 ^ 60) ≤ n ∧ n ≤ SL then some (rangeL 0 n.toNat) else none
  | [.int a, .int b] => if -(2 ^ 60) ≤ a ∧ a ≤ 2 ^ 60 ∧ -(2 ^ 60) ≤ b ∧ b ≤ 2 ^ 60 ∧ b - a ≤ SL then some (rangeL a (b - a).toNat) else none
  | [.int a, .int b, .int c] => if -(2 ^ 60) ≤ a ∧ a ≤ 2 ^ 60 ∧ -(2 ^ 60) ≤ b ∧ b ≤ 2 ^ 60 ∧ b - a ≤ SL ∧ 0 < c ∧ c < 1073741824 then some (rangeC a c (rangeN a b c)) else none
  | _ => none
def tupRD : D → Option D
  | .int n => if -(2 ^ 60) ≤ n ∧ n ≤ SL then some (.tuple (rangeL 0 n.toNat)) else none
  | _ => none
def enumFrom (k : Nat) : List D → List D
  | [] => []
  | d :: r => .tuple [.int k, d] :: enumFrom (k + 1) r
def enumD : D → Option (List D)
  | .list xs => some (enumFrom 0 xs)
  | .tuple xs => some (enumFrom 0 xs)
  | _ => none
def zipL : List D → List D → List D
  | a :: r, b :: s => .tuple [a, b] :: zipL r s
  | _, _ => []
def zipD : D → D → Option (List D)
  | .list xs, .list ys => some (zipL xs ys)
  | .tuple xs, .tuple ys => some (zipL xs ys)
  | .tuple xs, .list ys => some (zipL xs ys)
  | _, _ => none

/-- reading: a list of one's own that is read as a value is data from then on -/
def rd (ρ : Rho) (i : Nat) : Res D :=
  match ρ[i]? with
  | some (some (.dat d)) => .ok d ρ
  | some (some (.own xs)) => .ok (.list xs) (ρ.set i (some (.dat (.list xs))))
  | _ => .stuck
/-- looking: for a use that keeps no hold -/
def pk (ρ : Rho) (i : Nat) : Option D :=
  match ρ[i]? with
  | some (some (.dat d)) => some d
  | some (some (.own xs)) => some (.list xs)
  | some (some (.par xs)) => some (.list xs)
  | _ => none
def isPar : Option (Option Ent) → Bool
  | some (some (.par _)) => true
  | _ => false
def isMut : Option (Option Ent) → Bool
  | some (some (.par _)) => true
  | some (some (.own _)) => true
  | _ => false
def put (ρ : Rho) (i : Nat) (d : D) : Option Rho := if i < ρ.length ∧ isPar ρ[i]? = false then some (ρ.set i (some (.dat d))) else none
def puts : Rho → List Nat → List D → Option Rho
  | ρ, [], [] => some ρ
  | ρ, i :: is, d :: ds => (put ρ i d).bind fun ρ' => puts ρ' is ds
  | _, _, _ => none
def setTg (ρ : Rho) : Tg → D → Option Rho
  | .name i, d => put ρ i d
  | .tup is, .tuple ds => puts ρ is ds
  | .tup is, .list ds => puts ρ is ds
  | _, _ => none
def wipeR (ρ : Rho) : List Nat → Rho
  | [] => ρ
  | v :: vs => (wipeR ρ vs).set v none
def restR (ρ ρ0 : Rho) : List Nat → Rho
  | [] => ρ
  | v :: vs => (restR ρ ρ0 vs).set v ((ρ0[v]?).getD none)
def noMut (ρ : Rho) (vs : List Nat) : Bool := vs.all fun v => !isMut ρ[v]?

/-- items of a comprehension, one behind the other; the own names' slots are empty between two turns -/
def compLoop (vs : List Nat) (tg : Tg) (cond : Rho → Res Bool) (elt : Rho → Res D) : List D → Rho → Res (List D)
  | [], ρ => .ok [] ρ
  | d :: ds, ρ => match setTg ρ tg d with
    | none => .stuck
    | some ρ1 => match cond ρ1 with
      | .ok true ρ2 => (match elt ρ2 with
        | .ok x ρ3 => (compLoop vs tg cond elt ds (wipeR ρ3 vs)).bind fun r ρ4 => .ok (x :: r) ρ4
        | _ => .stuck)
      | .ok false ρ2 => compLoop vs tg cond elt ds (wipeR ρ2 vs)
      | _ => .stuck

/-- an operand: a value, or a variable that is looked at when the operation runs -/
inductive PArg where
  | val (d : D) | slot (i : Nat)
def pq (e : CE) (m : Rho → Res D) (ρ : Rho) : Res PArg :=
  match e with
  | .var i => match pk ρ i with
    | some _ => .ok (.slot i) ρ
    | none => .stuck
  | _ => (m ρ).bind fun d ρ1 => .ok (.val d) ρ1
def look (ρ : Rho) : PArg → Option D
  | .val d => some d
  | .slot i => pk ρ i
def looks (ρ : Rho) : List PArg → Option (List D)
  | [] => some []
  | p :: r => (look ρ p).bind fun d => (looks ρ r).map (d :: ·)
/-- the arguments of a call: lent ones (by ms), the others as values -/
def lend : List Bool → List PArg → Rho → Res (List Arg)
  | [], [], ρ => .ok [] ρ
  | false :: ms, .val d :: ps, ρ => (lend ms ps ρ).bind fun as ρ1 => .ok (.val d :: as) ρ1
  | false :: ms, .slot i :: ps, ρ => (rd ρ i).bind fun d ρ0 => (lend ms ps ρ0).bind fun as ρ1 => .ok (.val d :: as) ρ1
  | true :: ms, .slot i :: ps, ρ => (lend ms ps ρ).bind fun as ρ1 => match ρ1[i]? with
    | some (some (.own xs)) => .ok (.mut xs :: as) ρ1
    | some (some (.par xs)) => .ok (.mut xs :: as) ρ1
    | _ => .stuck
  | _, _, _ => .stuck
/-- the variables that are lent -/
def lent : List Bool → List PArg → List Nat
  | true :: ms, .slot i :: ps => i :: lent ms ps
  | _ :: ms, _ :: ps => lent ms ps
  | _, _ => []
def reSet : Option (Option Ent) → List D → Option Ent
  | some (some (.par _)), xs => some (.par xs)
  | _, xs => some (.own xs)
/-- what was lent comes back -/
def back : Rho → List Nat → List (List D) → Option Rho
  | ρ, [], [] => some ρ
  | ρ, i :: is, xs :: r => back (ρ.set i (reSet ρ[i]? xs)) is r
  | _, _, _ => none
def dup : List Nat → Bool
  | [] => false
  | i :: r => r.contains i || dup r
/-- the callee's end -/
def callEnd (ρ : Rho) (is : List Nat) : CRes → Res (D × Bool)
  | .ok d fr outs => match back ρ is outs with
    | some ρ' => .ok (d, fr) ρ'
    | none => .stuck
  | .exc x outs => match back ρ is outs with
    | some ρ' => .exc x ρ'
    | none => .stuck
  | .stuck => .stuck
def callP (c : CallT) (f : Nat) (ms : List Bool) (ps : List PArg) (ρ : Rho) : Res (D × Bool) :=
  if dup (lent ms ps) = true then .stuck else (lend ms ps ρ).bind fun as ρ1 => callEnd ρ1 (lent ms ps) (c f as)
/-- what is said of a refusal -/
def kinds10 : List Str := ["ring", "prime", "set", "number", "trades", "apart", "row", "list", "text", "great"]
def saidX (x : Exc) : Option D := if x.cls < 7 then (kinds10[x.cls]?).map fun w => .tuple [.str w] else match x.cls, x.flds with
  | 7, [.int i] => some (.tuple [.str "list", .int i])
  | 8, [.int i] => some (.tuple [.str "text", .int i])
  | 9, [.int i, .int j] => some (.tuple [.str "great", .int i, .int j])
  | _, _ => none
/-- the fields fit the class -/
def okX (x : Exc) : Bool := if x.cls < 7 then true else match x.cls, x.flds with
  | 7, [.int _] => true
  | 8, [.int _] => true
  | 9, [.int _, .int _] => true
  | _, _ => false
def saidR : Res D → Res D
  | .ok d ρ => .ok (.tuple [.str "told", d]) ρ
  | .exc x ρ => .opt (saidX x) ρ
  | .stuck => .stuck
/-- a new list is lent to a function that is handed a number beside it -/
def lendT (cf : List Arg → CRes) (k : Int) (r : D × Bool) (ρ : Rho) : Res D := match r with
  | (.list xs, true) => match cf [.mut xs, .val (.int k)] with
    | .ok d _ _ => .ok d ρ
    | _ => .stuck
  | _ => .stuck
mutual
def evE (c : CallT) : CE → Rho → Res D
  | .con d, ρ => .ok d ρ
  | .glo _ d, ρ => .ok d ρ
  | .var i, ρ => rd ρ i
  | .bin o a b, ρ => (evE c a ρ).bind fun x ρ1 => (evE c b ρ1).bind fun y ρ2 => .opt (binD o x y) ρ2
  | .neg a, ρ => (evE c a ρ).bind fun x ρ1 => match x with
    | .int i => .ok (.int (-i)) ρ1
    | _ => .stuck
  | .cmp o a b, ρ => (pq a (evE c a) ρ).bind fun p ρ1 => (pq b (evE c b) ρ1).bind fun q ρ2 =>
      .opt ((look ρ2 p).bind fun x => (look ρ2 q).bind fun y => (cmpD o x y).map .bool) ρ2
  | .cmp2 o p a b e, ρ => (evE c a ρ).bind fun x ρ1 => (evE c b ρ1).bind fun y ρ2 => (Res.opt (cmpD o x y) ρ2).bind fun t ρ3 =>
      if t = true then (evE c e ρ3).bind fun z ρ4 => .opt ((cmpD p y z).map .bool) ρ4 else .ok (.bool false) ρ3
  | .and es, ρ => evAnd c es ρ
  | .or es, ρ => evOr c es ρ
  | .not a, ρ => (evE c a ρ).bind fun x ρ1 => (truR x ρ1).bind fun t ρ2 => .ok (.bool (!t)) ρ2
  | .ite t a b, ρ => (evE c t ρ).bind fun x ρ1 => (truR x ρ1).bind fun k ρ2 => if k = true then evE c a ρ2 else evE c b ρ2
  | .tup es, ρ => (evEs c es ρ).bind fun xs ρ1 => .ok (.tuple xs) ρ1
  | .lst es, ρ => (evEs c es ρ).bind fun xs ρ1 => .ok (.list xs) ρ1
  | .idx a i, ρ => (pq a (evE c a) ρ).bind fun p ρ1 => (evE c i ρ1).bind fun y ρ2 => .opt ((look ρ2 p).bind fun x => idxD x y) ρ2
  | .slc a lo hi, ρ => (pq a (evE c a) ρ).bind fun p ρ1 => (evO c lo ρ1).bind fun l ρ2 => (evO c hi ρ2).bind fun h ρ3 =>
      .opt ((look ρ3 p).bind fun x => slcD x l h) ρ3
  | .rev a, ρ => (pq a (evE c a) ρ).bind fun p ρ1 => .opt ((look ρ1 p).bind revD) ρ1
  | .comp own elt tg it cond, ρ => (evI c it ρ).bind fun ds ρ1 =>
      if noMut ρ1 (own.map (·.2)) = true then
        (compLoop (own.map (·.2)) tg (fun r => evC c cond r) (fun r => evE c elt r) ds (wipeR ρ1 (own.map (·.2)))).bind fun xs ρ2 => .ok (.list xs) (restR ρ2 ρ1 (own.map (·.2)))
      else .stuck
  | .call f ms es, ρ => (evQs c es ρ).bind fun ps ρ1 => (callP c f ms ps ρ1).bind fun r ρ2 => .ok r.1 ρ2
  | .callT f g ms es k, ρ => (evQs c es ρ).bind fun ps ρ1 => (callP c g ms ps ρ1).bind fun r ρ2 => lendT (c f) k r ρ2
  | .blt b es, ρ => (evQs c es ρ).bind fun ps ρ1 => .opt ((looks ρ1 ps).bind (btD b)) ρ1
  | .isi ty a, ρ => (pq a (evE c a) ρ).bind fun p ρ1 => .opt ((look ρ1 p).bind fun x => if isFn x = true then none else some (.bool (isiD ty x))) ρ1
  | .sset a, ρ => (pq a (evE c a) ρ).bind fun p ρ1 => .opt ((look ρ1 p).bind ssetD) ρ1
  | .lset a, ρ => (pq a (evE c a) ρ).bind fun p ρ1 => .opt ((look ρ1 p).bind lsetD) ρ1
  | .index a b, ρ => (pq a (evE c a) ρ).bind fun p ρ1 => if isLst (look ρ1 p) = true then (evE c b ρ1).bind fun y ρ2 => .opt ((look ρ2 p).bind fun x => indexD x y) ρ2 else .stuck
  | .join a b, ρ => (evE c a ρ).bind fun x ρ1 => if isStrD x = true then (evE c b ρ1).bind fun y ρ2 => .opt (joinD x y) ρ2 else .stuck
  | .split a b, ρ => (evE c a ρ).bind fun x ρ1 => if isStrD x = true then (evE c b ρ1).bind fun y ρ2 => .opt (splitD x y) ρ2 else .stuck
  | .tupR a, ρ => (evE c a ρ).bind fun x ρ1 => .opt (tupRD x) ρ1
  | .tupR3 a b s, ρ => (evE c a ρ).bind fun x ρ1 => (evE c b ρ1).bind fun y ρ2 => (evE c s ρ2).bind fun z ρ3 => .opt ((rangeD [x, y, z]).map .tuple) ρ3
  | .count a b, ρ => (pq a (evE c a) ρ).bind fun p ρ1 => if isTup' (look ρ1 p) = true then (evE c b ρ1).bind fun y ρ2 => .opt ((look ρ2 p).bind fun x => countD x y) ρ2 else .stuck
  | .dct, ρ => .ok dctD ρ
  | .fnv id x, ρ => .ok (fnD id x) ρ
  | .callv al i es, ρ => match (pk ρ i).bind fnOf with
    | some q => if al.contains q = true then (evQs c es ρ).bind fun ps ρ1 => (callP c q.1 (ps.map fun _ => false) ps ρ1).bind fun r ρ2 => .ok r.1 ρ2 else .stuck
    | none => .stuck
  | .said e, ρ => saidR (evE c e ρ)
def evEs (c : CallT) : CEs → Rho → Res (List D)
  | .nil, ρ => .ok [] ρ
  | .cons e es, ρ => (evE c e ρ).bind fun x ρ1 => (evEs c es ρ1).bind fun xs ρ2 => .ok (x :: xs) ρ2
def evQs (c : CallT) : CEs → Rho → Res (List PArg)
  | .nil, ρ => .ok [] ρ
  | .cons e es, ρ => (pq e (evE c e) ρ).bind fun x ρ1 => (evQs c es ρ1).bind fun xs ρ2 => .ok (x :: xs) ρ2
def evAnd (c : CallT) : CEs → Rho → Res D
  | .nil, _ => .stuck
  | .cons e .nil, ρ => evE c e ρ
  | .cons e es, ρ => (evE c e ρ).bind fun x ρ1 => (truR x ρ1).bind fun k ρ2 => if k = true then evAnd c es ρ2 else .ok x ρ2
def evOr (c : CallT) : CEs → Rho → Res D
  | .nil, _ => .stuck
  | .cons e .nil, ρ => evE c e ρ
  | .cons e es, ρ => (evE c e ρ).bind fun x ρ1 => (truR x ρ1).bind fun k ρ2 => if k = true then .ok x ρ2 else evOr c es ρ2
def evO (c : CallT) : CO → Rho → Res (Option Int)
  | .none, ρ => .ok none ρ
  | .some e, ρ => (evE c e ρ).bind fun x ρ1 => match x with
    | .int i => .ok (some i) ρ1
    | _ => .stuck
def evC (c : CallT) : CO → Rho → Res Bool
  | .none, ρ => .ok true ρ
  | .some e, ρ => (evE c e ρ).bind truR
def evI (c : CallT) : CI → Rho → Res (List D)
  | .seq e, ρ => (evE c e ρ).bind fun x ρ1 => .opt (iterD x) ρ1
  | .range es, ρ => (evEs c es ρ).bind fun xs ρ1 => .opt (rangeD xs) ρ1
  | .enum e, ρ => (evE c e ρ).bind fun x ρ1 => .opt (enumD x) ρ1
  | .zip a b, ρ => (evE c a ρ).bind fun x ρ1 => (evE c b ρ1).bind fun y ρ2 => .opt (zipD x y) ρ2
end

/-- forms whose list is new -/
def isNew : CE → Bool
  | .lst _ => true
  | .comp .. => true
  | .bin .. => true
  | .slc .. => true
  | .rev _ => true
  | .sset _ => true
  | .blt .list _ => true
  | .blt .sorted _ => true
  | _ => false
def newForm (e : CE) : D → Bool
  | .list _ => isNew e
  | _ => false
/-- a value, and whether it is a list that nobody else holds -/
def evR (c : CallT) (e : CE) (ρ : Rho) : Res (D × Bool) :=
  match e with
  | .var i => match ρ[i]? with
    | some (some (.own xs)) => .ok (.list xs, true) (ρ.set i none)
    | some (some (.dat d)) => .ok (d, false) ρ
    | _ => .stuck
  | .call f ms es => (evQs c es ρ).bind fun ps ρ1 => callP c f ms ps ρ1
  | e => (evE c e ρ).bind fun d ρ1 => .ok (d, newForm e d) ρ1

inductive SRes where
  | next (ρ : Rho) | ret (d : D) (fr : Bool) (ρ : Rho) | brk (ρ : Rho) | exc (x : Exc) (ρ : Rho) | stuck
def Res.thn {α : Type} : Res α → (α → Rho → SRes) → SRes
  | .ok a ρ, f => f a ρ
  | .exc x ρ, _ => .exc x ρ
  | .stuck, _ => .stuck
@[simp] theorem Res.thn_ok {α : Type} (a : α) (ρ : Rho) (f : α → Rho → SRes) : (Res.ok a ρ).thn f = f a ρ := rfl
def SRes.seq : SRes → (Rho → SRes) → SRes
  | .next ρ, f => f ρ
  | r, _ => r
@[simp] theorem SRes.seq_next (ρ : Rho) (f : Rho → SRes) : (SRes.next ρ).seq f = f ρ := rfl
def nextO : Option Rho → SRes
  | some ρ => .next ρ
  | none => .stuck
@[simp] theorem nextO_some (ρ : Rho) : nextO (some ρ) = .next ρ := rfl
/-- a list of one's own is changed -/
def chg (ρ : Rho) (i : Nat) (f : List D → Option (List D)) : Option Rho :=
  match ρ[i]? with
  | some (some (.own xs)) => (f xs).map fun ys => ρ.set i (some (.own ys))
  | some (some (.par xs)) => (f xs).map fun ys => ρ.set i (some (.par ys))
  | _ => none
/-- new lists, one for each name -/
def boxs : Rho → List Nat → Option Rho
  | ρ, [] => some ρ
  | ρ, i :: is => if i < ρ.length ∧ isPar ρ[i]? = false then boxs (ρ.set i (some (.own []))) is else none
/-- lists of one's own that are data from then on -/
def thaw : Rho → List Nat → Option Rho
  | ρ, [] => some ρ
  | ρ, j :: js => match rd ρ j with
    | .ok _ ρ' => thaw ρ' js
    | _ => none
def forLoop (tg : Tg) (body : Rho → SRes) : List D → Rho → SRes
  | [], ρ => .next ρ
  | d :: ds, ρ => match setTg ρ tg d with
    | none => .stuck
    | some ρ1 => match body ρ1 with
      | .next ρ2 => forLoop tg body ds ρ2
      | .brk ρ2 => .next ρ2
      | r => r
def whileLoop (test : Rho → Res Bool) (body : Rho → SRes) : Nat → Rho → SRes
  | 0, _ => .stuck
  | n + 1, ρ => (test ρ).thn fun b ρ1 => if b = true then (match body ρ1 with
      | .next ρ2 => whileLoop test body n ρ2
      | .brk ρ2 => .next ρ2
      | r => r) else .next ρ1
def fuel : Nat := 1000
mutual
def evS (c : CallT) : CS → Rho → SRes
  | .asg tg e, ρ => (evE c e ρ).thn fun d ρ1 => nextO (setTg ρ1 tg d)
  | .box i e, ρ => (evR c e ρ).thn fun r ρ1 => match r with
    | (.list xs, true) => if i < ρ1.length ∧ isPar ρ1[i]? = false then .next (ρ1.set i (some (.own xs))) else .stuck
    | _ => .stuck
  | .expr e, ρ => (evE c e ρ).thn fun _ ρ1 => .next ρ1
  | .app i e, ρ => if isMut ρ[i]? = true then (evE c e ρ).thn fun d ρ1 => nextO (chg ρ1 i fun xs => if xs.length < SL then some (xs ++ [d]) else none) else .stuck
  | .ext i e, ρ => if isMut ρ[i]? = true then (evE c e ρ).thn fun d ρ1 => match d with
    | .list ys => nextO (chg ρ1 i fun xs => if xs.length + ys.length ≤ SL then some (xs ++ ys) else none)
    | _ => .stuck else .stuck
  | .seti i ix e, ρ => (evE c e ρ).thn fun d ρ1 => if isMut ρ1[i]? = true then (evE c ix ρ1).thn fun k ρ2 => match k with
    | .int j => nextO (chg ρ2 i fun xs => (L2.ixN xs.length j).map fun m => xs.set m d)
    | _ => .stuck else .stuck
  | .ret e, ρ => (evR c e ρ).thn fun r ρ1 => .ret r.1 r.2 ρ1
  | .pass, ρ => .next ρ
  | .brk, ρ => .brk ρ
  | .iff t a b, ρ => ((evE c t ρ).bind truR).thn fun k ρ1 => if k = true then evSs c a ρ1 else evSs c b ρ1
  | .forr tg it body, ρ => (evI c it ρ).thn fun ds ρ1 => forLoop tg (fun r => evSs c body r) ds ρ1
  | .whil t body, ρ => whileLoop (fun r => (evE c t r).bind truR) (fun r => evSs c body r) fuel ρ
  | .rais x es, ρ => (evEs c es ρ).thn fun xs ρ1 => if okX ⟨x, xs⟩ = true then .exc ⟨x, xs⟩ ρ1 else .stuck
  | .boxes is js, ρ => nextO ((boxs ρ is).bind fun ρ1 => thaw ρ1 js)
  | .appT e _, ρ => (evR c e ρ).thn fun r ρ1 => match r with
    | (.list xs, true) => if xs.length < SL then .next ρ1 else .stuck
    | _ => .stuck
def evSs (c : CallT) : CSs → Rho → SRes
  | .nil, ρ => .next ρ
  | .cons s r, ρ => (evS c s ρ).seq fun ρ1 => evSs c r ρ1
end

structure FnDef where
  slots : Nat
  params : Nat
  body : CSs
def Arg.ent : Arg → Option Ent
  | .val d => some (.dat d)
  | .mut xs => some (.par xs)
def outsOf : List Arg → Rho → Option (List (List D))
  | [], _ => some []
  | .val _ :: as, _ :: ρ => outsOf as ρ
  | .mut _ :: as, some (.par xs) :: ρ => (outsOf as ρ).map (xs :: ·)
  | _, _ => none
def fnEnd (as : List Arg) : SRes → CRes
  | .ret d fr ρ => match outsOf as ρ with
    | some o => .ok d fr o
    | none => .stuck
  | .next ρ => match outsOf as ρ with
    | some o => .ok .none false o
    | none => .stuck
  | .exc x ρ => match outsOf as ρ with
    | some o => .exc x o
    | none => .stuck
  | _ => .stuck
def runFn (c : CallT) (f : FnDef) (as : List Arg) : CRes :=
  if as.length = f.params ∧ f.params ≤ f.slots then fnEnd as (evSs c f.body (as.map Arg.ent ++ List.replicate (f.slots - f.params) none)) else .stuck
/-- the functions below n may be called -/
def callF (tab : Nat → FnDef) : Nat → CallT
  | 0 => fun _ _ => .stuck
  | n + 1 => fun g as => if g = n then runFn (callF tab n) (tab n) as else callF tab n g as
def run (tab : Nat → FnDef) (g : Nat) (as : List Arg) : CRes := callF tab (g + 1) g as
theorem callF_run {tab : Nat → FnDef} {g : Nat} : ∀ {n : Nat} {as : List Arg}, g < n → callF tab n g as = run tab g as
  | 0, _, h => absurd h (Nat.not_lt_zero _)
  | n + 1, as, h => by
    by_cases e : g = n
    · subst e; rfl
    · show (if g = n then _ else callF tab n g as) = _
      rw [if_neg e, callF_run (by omega)]
theorem run_eq (tab : Nat → FnDef) (g : Nat) (as : List Arg) : run tab g as = runFn (callF tab g) (tab g) as := by
  show (if g = g then _ else _) = _
  rw [if_pos rfl]
end Tw

set_option Elab.async false
set_option linter.all false
set_option maxRecDepth 100000
set_option maxHeartbeats 1000000
namespace Tw
open PySem PySem.Spec PyProof.Rows L2

mutual
/-- the data d as the value v; B: the lists that may change (d holds none of them) -/
inductive Rp (K : PySem.W.Frag) (H : Hp) (B : Addr → Prop) : D → V → Prop
  | non : Rp K H B .none .non
  | bl (b : Bool) : Rp K H B (.bool b) (.bl b)
  | int (i : Int) : Rp K H B (.int i) (.int i)
  | str (x : Str) : Rp K H B (.str x) (.str x)
  | lst {a : Addr} {vs : List V} {ds : List D} : Rd H a (.lst vs) → ¬ B a → vs.length ≤ sizeLine → RpA K H B ds vs → Rp K H B (.list ds) (.ref a)
  | tup {a : Addr} {vs : List V} {ds : List D} : SqT K H a vs → vs.length ≤ sizeLine → RpA K H B ds vs → Rp K H B (.tuple ds) (.ref a)
  | dct {a : Addr} : H a = some (.dK [(Sum.inr "a", .int 1)]) → Rp K H B dctD (.ref a)
  | fn (id : Nat) (x : Str) : Rp K H B (fnD id x) (.ref (He.ga K x))
inductive RpA (K : PySem.W.Frag) (H : Hp) (B : Addr → Prop) : List D → List V → Prop
  | nil : RpA K H B [] []
  | cons {d : D} {v : V} {ds : List D} {vs : List V} : Rp K H B d v → RpA K H B ds vs → RpA K H B (d :: ds) (v :: vs)
end

/-- the functions in which lambdas are made -/
def lamNames : List Str := ["law", "_law_right", "_law_words", "_law_list_words", "_law_set_words", "_law_ring_right", "_law_lists_right", "_law_sizes_right", "_law_texts_right", "_law_desk_right", "_law_told_row", "_law_all_right"]
def tabAt (K : PySem.W.Frag) (x : Str) : Option (Addr × Str) := match K.lookup (He.ga K x) with
  | some ⟨_, _, .func _, _⟩ => some (He.tabOf K (He.codeOf K (x, none)), x ++ ".<locals>." ++ "<lambda>")
  | _ => none
def tabsOf (K : PySem.W.Frag) : List (Addr × Str) := lamNames.filterMap (tabAt K)
def isTbl : HO → Bool
  | .tbl _ => true
  | _ => false
def isL : HO → Bool
  | .lst _ => true
  | _ => false
theorem tabs_but {T : List (Addr × Str)} {H H' : Hp} (t : LamX.Tabs T H) (e : ∀ b o, H b = some o → isL o = false → H' b = some o) : LamX.Tabs T H' := fun p hp => by
  obtain ⟨ps, h1, h2, h3⟩ := t p hp
  exact ⟨ps, e _ _ h1 rfl, h2, fun pos cv hc => by obtain ⟨c, e1, e2⟩ := h3 pos cv hc; exact ⟨c, e1, e _ _ e2 rfl⟩⟩
/-- all but the lists in O, and the tables, is as it was -/
def Fr (O : Addr → Prop) (H H' : Hp) : Prop := ∀ a o, H a = some o → ¬ O a → isTbl o = false → H' a = some o
theorem Fr.of {O : Addr → Prop} {H H' : Hp} (h : ∀ a o, H a = some o → ¬ O a → H' a = some o) : Fr O H H' := fun a o e n _ => h a o e n
theorem Fr.refl {O : Addr → Prop} {H : Hp} : Fr O H H := Fr.of fun _ _ h _ => h
theorem Fr.at {O : Addr → Prop} {H H' : Hp} (f : Fr O H H') {a : Addr} {o : HO} (e : H a = some o) (n : ¬ O a) (t : isTbl o = false) : H' a = some o := f a o e n t
theorem Fr.trans {O O1 : Addr → Prop} {H H1 H2 : Hp} (f : Fr O H H1) (g : Fr O1 H1 H2) (h : ∀ a o, H a = some o → ¬ O a → isTbl o = false → ¬ O1 a) : Fr O H H2 := fun a o e n t => g a o (f a o e n t) (h a o e n t) t
/-- nothing but a table, if anything -/
def Nw (H : Hp) (a : Addr) : Prop := ∀ o, H a = some o → isTbl o = true
theorem Nw.of {H : Hp} {a : Addr} (h : H a = none) : Nw H a := fun o e => by rw [h] at e; cases e
theorem Nw.no {H : Hp} {a : Addr} {o : HO} (h : Nw H a) (e : H a = some o) (t : isTbl o = false) : False := by rw [h o e] at t; cases t
theorem Fr.nw {O : Addr → Prop} {H H' : Hp} (f : Fr O H H') {a : Addr} (h : Nw H' a) (n : ¬ O a) : Nw H a := fun o e => by
  cases t : isTbl o with
  | true => rfl
  | false => exact absurd (h o (f a o e n t)) (by rw [t]; exact Bool.false_ne_true)
def Lsts (O : Addr → Prop) (H : Hp) : Prop := ∀ a, O a → ∃ vs, H a = some (.lst vs)

section
variable {K : PySem.W.Frag} {H H' : Hp} {B B' O : Addr → Prop}
theorem rd_fr {a : Addr} {u : HO} (r : Rd H a u) (f : Fr O H H') (n : ¬ O a) (t : isTbl u = false) : Rd H' a u := by
  rcases r with r | ⟨o, r⟩
  · exact .inl (f.at r n t)
  · exact .inr ⟨o, f.at r n rfl⟩
theorem sqT_fr {a : Addr} {vs : List V} (r : SqT K H a vs) (f : Fr O H H') (l : Lsts O H) : SqT K H' a vs := by
  rcases r with r | r
  · refine .inl (rd_fr r f (fun n => ?_) rfl)
    obtain ⟨ws, e⟩ := l a n
    rcases r with r | ⟨o, r⟩
    · rw [e] at r; cases r
    · rw [e] at r; cases r
  · exact .inr r
mutual
theorem Rp.mono (f : Fr O H H') (ob : ∀ a, O a → B a) (l : Lsts O H) (hb : ∀ a, B' a → B a ∨ Nw H a) : ∀ {d : D} {v : V}, Rp K H B d v → Rp K H' B' d v
  | _, _, .non => .non
  | _, _, .bl b => .bl b
  | _, _, .int i => .int i
  | _, _, .str x => .str x
  | _, _, .dct e => .dct (f.at e (fun o => by obtain ⟨ws, q⟩ := l _ o; rw [e] at q; cases q) rfl)
  | _, _, .fn id x => .fn id x
  | _, _, .lst r n z h => .lst (rd_fr r f (fun o => n (ob _ o)) rfl) (fun b => by
      rcases hb _ b with q | q
      · exact n q
      · rcases r with r | ⟨_, r⟩
        · exact q.no r rfl
        · exact q.no r rfl) z (RpA.mono f ob l hb h)
  | _, _, .tup r z h => .tup (sqT_fr r f l) z (RpA.mono f ob l hb h)
theorem RpA.mono (f : Fr O H H') (ob : ∀ a, O a → B a) (l : Lsts O H) (hb : ∀ a, B' a → B a ∨ Nw H a) : ∀ {ds : List D} {vs : List V}, RpA K H B ds vs → RpA K H' B' ds vs
  | _, _, .nil => .nil
  | _, _, .cons h t => .cons (Rp.mono f ob l hb h) (RpA.mono f ob l hb t)
end
/-- nothing has changed but new things -/
def Grw (H H' : Hp) : Prop := ∀ a o, H a = some o → ¬ False → H' a = some o
theorem Grw.refl : Grw H H := fun _ _ h _ => h
theorem Grw.fr {O : Addr → Prop} (g : Grw H H') : Fr O H H' := Fr.of fun a o e _ => g a o e id
theorem Grw.new {p : Addr} {o : HO} (h : H p = none) : Grw H (upd H p o) := fun b x e _ => by
  rw [upd_ne (ne_of_none e h)]; exact e
theorem Rp.grw (g : Grw H H') {d : D} {v : V} (h : Rp K H B d v) : Rp K H' B d v := h.mono (O := fun _ => False) g.fr (fun _ z => z.elim) (fun _ z => z.elim) fun _ b => .inl b
theorem RpA.grw (g : Grw H H') {d : List D} {v : List V} (h : RpA K H B d v) : RpA K H' B d v := h.mono (O := fun _ => False) g.fr (fun _ z => z.elim) (fun _ z => z.elim) fun _ b => .inl b
theorem Rp.less (hb : ∀ a, B' a → B a) {d : D} {v : V} (h : Rp K H B d v) : Rp K H B' d v := h.mono (O := fun _ => False) Fr.refl (fun _ z => z.elim) (fun _ z => z.elim) fun a b => .inl (hb a b)
theorem RpA.less (hb : ∀ a, B' a → B a) {d : List D} {v : List V} (h : RpA K H B d v) : RpA K H B' d v := h.mono (O := fun _ => False) Fr.refl (fun _ z => z.elim) (fun _ z => z.elim) fun a b => .inl (hb a b)
theorem Grw.trans {H1 H2 H3 : Hp} (a : Grw H1 H2) (b : Grw H2 H3) : Grw H1 H3 := fun c o e n => b c o (a c o e n) n
theorem RpA.length : ∀ {ds : List D} {vs : List V}, RpA K H B ds vs → ds.length = vs.length
  | _, _, .nil => rfl
  | _, _, .cons _ t => by simp [RpA.length t]
theorem RpA.get : ∀ {ds : List D} {vs : List V} {i : Nat} {d : D}, RpA K H B ds vs → ds[i]? = some d → ∃ v, vs[i]? = some v ∧ Rp K H B d v
  | _, _, _, _, .nil, e => by simp at e
  | _, _, 0, _, .cons h _, e => by simp at e; subst e; exact ⟨_, rfl, h⟩
  | _, _, i + 1, d, .cons _ t, e => by
    obtain ⟨v, h1, h2⟩ := RpA.get (i := i) (d := d) t (by simpa using e)
    exact ⟨v, by simpa using h1, h2⟩
theorem RpA.getV : ∀ {ds : List D} {vs : List V} {i : Nat} {v : V}, RpA K H B ds vs → vs[i]? = some v → ∃ d, ds[i]? = some d ∧ Rp K H B d v
  | _, _, _, _, .nil, e => by simp at e
  | _, _, 0, _, .cons h _, e => by simp at e; subst e; exact ⟨_, rfl, h⟩
  | _, _, i + 1, d, .cons _ t, e => by
    obtain ⟨v, h1, h2⟩ := RpA.getV (i := i) (v := d) t (by simpa using e)
    exact ⟨v, by simpa using h1, h2⟩
theorem RpA.append : ∀ {ds es : List D} {vs ws : List V}, RpA K H B ds vs → RpA K H B es ws → RpA K H B (ds ++ es) (vs ++ ws)
  | _, _, _, _, .nil, s => s
  | _, _, _, _, .cons h t, s => .cons h (RpA.append t s)
theorem RpA.take : ∀ {ds : List D} {vs : List V} (n : Nat), RpA K H B ds vs → RpA K H B (ds.take n) (vs.take n)
  | _, _, 0, _ => .nil
  | _, _, _ + 1, .nil => .nil
  | _, _, n + 1, .cons h t => .cons h (RpA.take n t)
theorem RpA.drop : ∀ {ds : List D} {vs : List V} (n : Nat), RpA K H B ds vs → RpA K H B (ds.drop n) (vs.drop n)
  | _, _, 0, h => h
  | _, _, _ + 1, .nil => .nil
  | _, _, n + 1, .cons _ t => RpA.drop n t
theorem RpA.set {x : D} {y : V} (r : Rp K H B x y) : ∀ {ds : List D} {vs : List V} (i : Nat), RpA K H B ds vs → RpA K H B (ds.set i x) (vs.set i y)
  | _, _, _, .nil => .nil
  | _, _, 0, .cons _ t => .cons r t
  | _, _, i + 1, .cons q t => .cons q (RpA.set r i t)
theorem RpA.reverse {ds : List D} {vs : List V} (h : RpA K H B ds vs) : RpA K H B ds.reverse vs.reverse := by
  induction h using RpA.rec (motive_1 := fun _ _ _ => True) with
  | non => trivial
  | bl => trivial
  | int => trivial
  | str => trivial
  | lst => trivial
  | tup => trivial
  | dct => trivial
  | fn => trivial
  | nil => exact .nil
  | cons h t _ ih =>
    rw [List.reverse_cons, List.reverse_cons]
    exact ih.append (.cons h .nil)
theorem RpA.ofInts : ∀ (is : List Int), RpA K H B (is.map .int) (is.map .int)
  | [] => .nil
  | i :: r => .cons (.int i) (RpA.ofInts r)
theorem RpA.toInts : ∀ {ds : List D} {vs : List V} {is : List Int}, RpA K H B ds vs → intsOf ds = some is → vs = is.map .int ∧ ds = is.map .int
  | _, _, is, .nil, e => by cases e; exact ⟨rfl, rfl⟩
  | d :: ds, v :: vs, is, .cons h t, e => by
    cases h with
    | int i =>
      have e' : (intsOf ds).map (i :: ·) = some is := e
      obtain ⟨r, hr, rfl⟩ := Option.map_eq_some_iff.mp e'
      obtain ⟨h1, h2⟩ := RpA.toInts t hr
      exact ⟨by rw [h1]; rfl, by rw [h2]; rfl⟩
    | _ => cases e
theorem RpA.toBools : ∀ {ds : List D} {vs : List V} {is : List Bool}, RpA K H B ds vs → boolsOf ds = some is → vs = is.map .bl
  | _, _, is, .nil, e => by cases e; rfl
  | d :: ds, v :: vs, is, .cons h t, e => by
    cases h with
    | bl i =>
      have e' : (boolsOf ds).map (i :: ·) = some is := e
      obtain ⟨r, hr, rfl⟩ := Option.map_eq_some_iff.mp e'
      rw [RpA.toBools t hr]; rfl
    | _ => cases e
theorem RpA.toStrs : ∀ {ds : List D} {vs : List V} {is : List Str}, RpA K H B ds vs → strsOf ds = some is → vs = is.map .str
  | _, _, is, .nil, e => by cases e; rfl
  | d :: ds, v :: vs, is, .cons h t, e => by
    cases h with
    | str i =>
      have e' : (strsOf ds).map (i :: ·) = some is := e
      obtain ⟨r, hr, rfl⟩ := Option.map_eq_some_iff.mp e'
      rw [RpA.toStrs t hr]; rfl
    | _ => cases e
mutual
/-- no dict within -/
def nod : D → Bool
  | .list xs => nodA xs
  | .tuple xs => nodA xs
  | .dict _ => false
  | _ => true
def nodA : List D → Bool
  | [] => true
  | d :: ds => nod d && nodA ds
end
mutual
theorem nod_lay : ∀ d : D, d.canLay0 = true → nod d = true
  | .none, _ => rfl
  | .bool _, _ => rfl
  | .int _, _ => rfl
  | .str _, _ => rfl
  | .list xs, h => nodA_lay xs (by simpa [PyData.canLay0] using h)
  | .tuple xs, h => nodA_lay xs (by simpa [PyData.canLay0] using h)
  | .dict _, h => by simp [PyData.canLay0] at h
theorem nodA_lay : ∀ ds : List D, PyData.canLayAll0 ds = true → nodA ds = true
  | [], _ => rfl
  | d :: ds, h => by
    have h' : (d.canLay0 && PyData.canLayAll0 ds) = true := by simpa [PyData.canLayAll0] using h
    show (nod d && nodA ds) = true
    rw [nod_lay d (Bool.and_eq_true_iff.mp h').1, nodA_lay ds (Bool.and_eq_true_iff.mp h').2]; rfl
end
mutual
theorem nod_has : ∀ d : D, d.hasDict = false → nod d = true
  | .none, _ => rfl
  | .bool _, _ => rfl
  | .int _, _ => rfl
  | .str _, _ => rfl
  | .list xs, h => nodA_has xs (by simpa [PyData.hasDict] using h)
  | .tuple xs, h => nodA_has xs (by simpa [PyData.hasDict] using h)
  | .dict _, h => by simp [PyData.hasDict] at h
theorem nodA_has : ∀ ds : List D, PyData.hasDictAll ds = false → nodA ds = true
  | [], _ => rfl
  | d :: ds, h => by
    have h' : (d.hasDict || PyData.hasDictAll ds) = false := by simpa [PyData.hasDictAll] using h
    rw [Bool.or_eq_false_iff] at h'
    show (nod d && nodA ds) = true
    rw [nod_has d h'.1, nodA_has ds h'.2]; rfl
end
mutual
theorem nod_alike : ∀ d : D, PySem.W.alike d d = true → nod d = true
  | .none, _ => rfl
  | .bool _, _ => rfl
  | .int _, _ => rfl
  | .str _, _ => rfl
  | .list xs, h => nodA_alike xs (by simpa [PySem.W.alike] using h)
  | .tuple xs, h => nodA_alike xs (by simpa [PySem.W.alike] using h)
  | .dict _, h => by simp [PySem.W.alike] at h
theorem nodA_alike : ∀ ds : List D, PySem.W.alikeAll ds ds = true → nodA ds = true
  | [], _ => rfl
  | d :: ds, h => by
    have h' : (PySem.W.alike d d && PySem.W.alikeAll ds ds) = true := by simpa [PySem.W.alikeAll] using h
    rw [Bool.and_eq_true] at h'
    show (nod d && nodA ds) = true
    rw [nod_alike d h'.1, nodA_alike ds h'.2]; rfl
end
theorem nodA_of : ∀ ds : List D, (∀ d ∈ ds, nod d = true) → nodA ds = true
  | [], _ => rfl
  | d :: ds, h => by
    show (nod d && nodA ds) = true
    rw [h d List.mem_cons_self, nodA_of ds fun x hx => h x (List.mem_cons_of_mem _ hx)]; rfl
theorem nod_shp {d : D} (h : shp d = true) : nod d = true := nod_lay d (SeqAt.canLay_of_shaped h)
mutual
theorem Rp.dp0 : ∀ {d : D} {v : V}, nod d = true → Rp K H B d v → Dp K H v d
  | _, _, _, .non => .non
  | _, _, _, .bl b => .bl b
  | _, _, _, .int i => .int i
  | _, _, _, .str x => .str x
  | _, _, n, .lst r _ _ h => .lst (.inl r) (RpA.dp0 n h)
  | _, _, n, .tup r _ h => .tup r (RpA.dp0 n h)
  | _, _, n, .dct _ => by cases n
  | _, _, n, .fn _ _ => by cases n
theorem RpA.dp0 : ∀ {d : List D} {v : List V}, nodA d = true → RpA K H B d v → DpAll K H v d
  | _, _, _, .nil => .nil
  | _, _, n, .cons h t => .cons (Rp.dp0 (Bool.and_eq_true_iff.mp n).1 h) (RpA.dp0 (Bool.and_eq_true_iff.mp n).2 t)
end
theorem Rp.dp {d : D} {v : V} (h : Rp K H B d v) (n : nod d = true) : Dp K H v d := Rp.dp0 n h
theorem RpA.dp {d : List D} {v : List V} (h : RpA K H B d v) (n : nodA d = true) : DpAll K H v d := RpA.dp0 n h
end

inductive Ro (K : PySem.W.Frag) (H : Hp) (B : Addr → Prop) : D → V → Prop
  | non : Ro K H B .none .non
  | bl (b : Bool) : Ro K H B (.bool b) (.bl b)
  | int (i : Int) : Ro K H B (.int i) (.int i)
  | str (x : Str) : Ro K H B (.str x) (.str x)
  | lst {a : Addr} {vs : List V} {ds : List D} : Rd H a (.lst vs) → vs.length ≤ sizeLine → RpA K H B ds vs → Ro K H B (.list ds) (.ref a)
  | tup {a : Addr} {vs : List V} {ds : List D} : SqT K H a vs → vs.length ≤ sizeLine → RpA K H B ds vs → Ro K H B (.tuple ds) (.ref a)
  | dct {a : Addr} : H a = some (.dK [(Sum.inr "a", .int 1)]) → Ro K H B dctD (.ref a)
  | fn (id : Nat) (x : Str) : Ro K H B (fnD id x) (.ref (He.ga K x))
inductive RoA (K : PySem.W.Frag) (H : Hp) (B : Addr → Prop) : List D → List V → Prop
  | nil : RoA K H B [] []
  | cons {d : D} {v : V} {ds : List D} {vs : List V} : Ro K H B d v → RoA K H B ds vs → RoA K H B (d :: ds) (v :: vs)
section
variable {K : PySem.W.Frag} {H : Hp} {B : Addr → Prop}
theorem Rp.ro {d : D} {v : V} : Rp K H B d v → Ro K H B d v
  | .non => .non
  | .bl b => .bl b
  | .int i => .int i
  | .str x => .str x
  | .lst r _ z a => .lst r z a
  | .tup r z a => .tup r z a
  | .dct e => .dct e
  | .fn id x => .fn id x
theorem RpA.ro : ∀ {ds : List D} {vs : List V}, RpA K H B ds vs → RoA K H B ds vs
  | _, _, .nil => .nil
  | _, _, .cons h t => .cons h.ro (RpA.ro t)
theorem Ro.dp0 {d : D} {v : V} : nod d = true → Ro K H B d v → Dp K H v d
  | _, .non => .non
  | _, .bl b => .bl b
  | _, .int i => .int i
  | _, .str x => .str x
  | n, .lst r _ h => .lst (.inl r) (RpA.dp0 n h)
  | n, .tup r _ h => .tup r (RpA.dp0 n h)
  | n, .dct _ => by cases n
  | n, .fn _ _ => by cases n
theorem Ro.dp {d : D} {v : V} (h : Ro K H B d v) (n : nod d = true) : Dp K H v d := Ro.dp0 n h
end

def mutAt (ρ : Rho) (i : Nat) (xs : List D) : Prop := ρ[i]? = some (some (.own xs)) ∨ ρ[i]? = some (some (.par xs))
/-- the lists of the frame's own, and those lent to it -/
def Own (ρ : Rho) (σ : L2.St) (a : Addr) : Prop := ∃ (i : Nat) (xs : List D), mutAt ρ i xs ∧ σ[i]? = some (some (.ref a))
def Bs (B0 : Addr → Prop) (ρ : Rho) (σ : L2.St) (a : Addr) : Prop := B0 a ∨ Own ρ σ a
structure Rl (K : PySem.W.Frag) (B0 : Addr → Prop) (ρ : Rho) (σ : L2.St) (H : Hp) : Prop where
  len : ρ.length = σ.length
  dat : ∀ (i : Nat) (d : D), ρ[i]? = some (some (Ent.dat d)) → ∃ v, σ[i]? = some (some v) ∧ Rp K H (Bs B0 ρ σ) d v
  mu : ∀ (i : Nat) (xs : List D), mutAt ρ i xs → ∃ a vs, σ[i]? = some (some (.ref a)) ∧ H a = some (.lst vs) ∧ vs.length ≤ sizeLine ∧ RpA K H (Bs B0 ρ σ) xs vs ∧ ¬ B0 a
  inj : ∀ (i j : Nat) (xs ys : List D) (a : Addr), mutAt ρ i xs → mutAt ρ j ys → σ[i]? = some (some (.ref a)) → σ[j]? = some (some (.ref a)) → i = j
  amb : Lsts B0 H
  tab : LamX.Tabs (tabsOf K) H
section
variable {K : PySem.W.Frag} {H H' H1 H2 : Hp} {B0 : Addr → Prop} {ρ ρ' ρ1 ρ2 : Rho} {σ : L2.St}
theorem Rl.own_lst (r : Rl K B0 ρ σ H) : Lsts (Own ρ σ) H := fun a ⟨i, xs, m, e⟩ => by
  obtain ⟨b, vs, e1, e2, _⟩ := r.mu i xs m
  rw [e] at e1; cases e1
  exact ⟨vs, e2⟩
theorem Rl.bs_lst (r : Rl K B0 ρ σ H) : Lsts (Bs B0 ρ σ) H := fun a h => h.elim (r.amb a) (r.own_lst a)
theorem mutAt.len {i : Nat} {xs : List D} (m : mutAt ρ i xs) : i < ρ.length := by
  rcases m with m | m <;> exact (List.getElem?_eq_some_iff.mp m).1
/-- a step that leaves the slots as they are -/
structure Stp (ρ : Rho) (H : Hp) (ρ' : Rho) (H' : Hp) (σ : L2.St) : Prop where
  fr : Fr (Own ρ σ) H H'
  ow : ∀ a, Own ρ' σ a → Own ρ σ a
  pa : ∀ (i : Nat), isPar ρ'[i]? = isPar ρ[i]?
theorem Stp.refl : Stp ρ H ρ H σ := ⟨Fr.refl, fun _ h => h, fun _ => rfl⟩
theorem Stp.trans (a : Stp ρ H ρ1 H1 σ) (b : Stp ρ1 H1 ρ2 H2 σ) : Stp ρ H ρ2 H2 σ :=
  ⟨a.fr.trans b.fr fun c o e n _ z => n (a.ow c z), fun c z => a.ow c (b.ow c z), fun i => (b.pa i).trans (a.pa i)⟩
theorem Stp.grw (g : Grw H H') : Stp ρ H ρ H' σ := ⟨g.fr, fun _ h => h, fun _ => rfl⟩
theorem Stp.bs (a : Stp ρ H ρ' H' σ) : ∀ x, Bs B0 ρ' σ x → Bs B0 ρ σ x := fun x h => h.imp id (a.ow x)
/-- a value that was there stays -/
theorem Rl.keep (r : Rl K B0 ρ σ H) (s : Stp ρ H ρ' H' σ) {d : D} {v : V} (h : Rp K H (Bs B0 ρ σ) d v) : Rp K H' (Bs B0 ρ' σ) d v :=
  h.mono s.fr (fun _ z => .inr z) r.own_lst fun a b => .inl (s.bs a b)
theorem Rl.keepA (r : Rl K B0 ρ σ H) (s : Stp ρ H ρ' H' σ) {d : List D} {v : List V} (h : RpA K H (Bs B0 ρ σ) d v) : RpA K H' (Bs B0 ρ' σ) d v :=
  h.mono s.fr (fun _ z => .inr z) r.own_lst fun a b => .inl (s.bs a b)
/-- new things -/
theorem Rl.grw (r : Rl K B0 ρ σ H) (g : Grw H H') : Rl K B0 ρ σ H' where
  len := r.len
  dat := fun i d e => by obtain ⟨v, e1, h⟩ := r.dat i d e; exact ⟨v, e1, h.grw g⟩
  mu := fun i xs m => by obtain ⟨a, vs, e1, e2, z, h, n⟩ := r.mu i xs m; exact ⟨a, vs, e1, g _ _ e2 id, z, h.grw g, n⟩
  inj := r.inj
  amb := fun a b => by obtain ⟨vs, e⟩ := r.amb a b; exact ⟨vs, g _ _ e id⟩
  tab := r.tab.ext fun b o e => g b o e id
/-- a further list that may not be touched, new -/
theorem Rl.more (r : Rl K B0 ρ σ H) {p : Addr} (hp : H p = none) {vs : List V} : Rl K (fun a => B0 a ∨ a = p) ρ σ (upd H p (.lst vs)) := by
  have g : Grw H (upd H p (.lst vs)) := Grw.new hp
  have hb : ∀ a, Bs (fun a => B0 a ∨ a = p) ρ σ a → Bs B0 ρ σ a ∨ Nw H a := fun a h => by
    rcases h with (h | h) | h
    · exact .inl (.inl h)
    · exact .inr (Nw.of (h ▸ hp))
    · exact .inl (.inr h)
  refine ⟨r.len, fun i d e => ?_, fun i xs m => ?_, r.inj, fun a b => ?_, r.tab.ext fun b o e => g b o e id⟩
  · obtain ⟨v, e1, h⟩ := r.dat i d e
    exact ⟨v, e1, h.mono (O := fun _ => False) g.fr (fun _ z => z.elim) (fun _ z => z.elim) hb⟩
  · obtain ⟨a, vs, e1, e2, z, h, n⟩ := r.mu i xs m
    refine ⟨a, vs, e1, g _ _ e2 id, z, h.mono (O := fun _ => False) g.fr (fun _ z => z.elim) (fun _ z => z.elim) hb, fun b => ?_⟩
    rcases b with b | b
    · exact n b
    · rw [b, hp] at e2; cases e2
  · rcases b with b | b
    · obtain ⟨vs, e⟩ := r.amb a b; exact ⟨vs, g _ _ e id⟩
    · exact ⟨vs, by rw [b, upd_same]⟩
/-- fewer that may not be touched -/
theorem Rl.amb_less {B1 : Addr → Prop} (r : Rl K B0 ρ σ H) (h : ∀ a, B1 a → B0 a) : Rl K B1 ρ σ H := by
  have hb : ∀ a, Bs B1 ρ σ a → Bs B0 ρ σ a := fun a z => z.imp (h a) id
  refine ⟨r.len, fun i d e => ?_, fun i xs m => ?_, r.inj, fun a b => r.amb a (h a b), r.tab⟩
  · obtain ⟨v, e1, q⟩ := r.dat i d e
    exact ⟨v, e1, q.less hb⟩
  · obtain ⟨a, vs, e1, e2, z, q, n⟩ := r.mu i xs m
    exact ⟨a, vs, e1, e2, z, q.less hb, fun b => n (h a b)⟩
end
end Tw

set_option Elab.async false
set_option linter.all false
set_option maxRecDepth 100000
set_option maxHeartbeats 1000000
namespace Tw
open PySem PySem.Spec PyProof.Rows L2

/-- what an operation gives: flat or old data, or a new list, or a new tuple -/
inductive Out (K : PySem.W.Frag) (H : Hp) (B : Addr → Prop) : D → V → Hp → Prop
  | same {d : D} {v : V} : (∀ xs, d ≠ .list xs) → Rp K H B d v → Out K H B d v H
  | lst {p : Addr} {us : List V} {xs : List D} : H p = none → us.length ≤ sizeLine → RpA K H B xs us → Out K H B (.list xs) (.ref p) (upd H p (.lst us))
  | tup {p : Addr} {us : List V} {xs : List D} : H p = none → us.length ≤ sizeLine → RpA K H B xs us → Out K H B (.tuple xs) (.ref p) (upd H p (.tup us))
section
variable {K : PySem.W.Frag} {H H' : Hp} {B : Addr → Prop} {d : D} {v : V}
theorem Out.grw (o : Out K H B d v H') : Grw H H' := by
  cases o with
  | same => exact Grw.refl
  | lst h => exact Grw.new h
  | tup h => exact Grw.new h
theorem Lsts.not_new {p : Addr} (l : Lsts B H) (h : H p = none) : ¬ B p := fun b => by
  obtain ⟨vs, e⟩ := l p b
  rw [h] at e; cases e
theorem Out.rp (l : Lsts B H) (o : Out K H B d v H') : Rp K H' B d v := by
  cases o with
  | same _ h => exact h
  | lst h z a => exact .lst (.inl upd_same) (l.not_new h) z (a.grw (Grw.new h))
  | tup h z a => exact .tup (.inl (.inl upd_same)) z (a.grw (Grw.new h))
end

section
variable {X : Cx} {pins : List (Addr × Obj)} {σ : L2.St} {H : Hp} {s : Shared}
theorem rd_lst {a : Addr} {xs : List V} (I : Inv X pins σ H s) (r : Rd H a (.lst xs)) : xs.length ≤ sizeLine ∧ ∃ (its : List Value) (n : Nat), Vals xs its ∧ xs.length = its.length ∧ s.heap.get? a = some { cls := .type "list", data := .seq its.toArray n } := by
  obtain ⟨z, its, n, q, e⟩ := r.ok I.hok
  exact ⟨z, its, n, q, q.length, e⟩
end
section
variable {X : Cx}
/-- list + list, also of what is only read -/
def oCat : R2 := fun x y H Q => ∃ l b xs zs, x = .ref l ∧ y = .ref b ∧ Rd H l (.lst xs) ∧ Rd H b (.lst zs) ∧ xs.length + zs.length ≤ sizeLine ∧ ∀ p, H p = none → Q (.ref p) (upd H p (.lst (xs ++ zs)))
theorem o_cat : OpR X (binaryOp .Add) oCat := by
  intro pins s σ H x y v u Q I rx ry h
  obtain ⟨l, b, xs, zs, rfl, rfl, hl, hb, hz, q⟩ := h
  cases rx; cases ry
  obtain ⟨_, its, n, r, e1, e⟩ := rd_lst I hl
  obtain ⟨_, jts, m, r2, e2, e'⟩ := rd_lst I hb
  have sz : its.toArray.size + jts.toArray.size ≤ sizeLine := by simp only [List.size_toArray]; omega
  have app : its.toArray ++ jts.toArray = (its ++ jts).toArray := by simp
  refine PySem.P.add_list e e' ?_ sz
  rw [app]
  have len : (xs ++ zs).length ≤ sizeLine := by rw [List.length_append]; omega
  exact ⟨.ref _, _, I.lnew (t' := s.toks) (r.append r2) len, rfl, q _ I.fresh⟩
/-- x in a tuple of data -/
def oInT (K : PySem.W.Frag) (neg : Bool) : R2 := fun x y H Q => ∃ d ds, Dp K H x d ∧ Dp K H y (.tuple ds) ∧ SeqAt.shaped d = true ∧ SeqAt.shaped (.tuple ds) = true ∧ Q (.bl (if neg then !ds.any fun z => PyData.eqv z d else ds.any fun z => PyData.eqv z d)) H
theorem room_tup {A : Around} {ds : List PyData} {d : PyData} (hd : SeqAt.shaped d = true) (hu : A.units + 65 < cLine) : A.units + 1 + min (PyData.depthAll ds) d.depth < cLine := room_in_shaped hd hu
theorem o_inT (hu : X.A.units + 65 < cLine) : OpR X (compareOp .In) (oInT X.K false) := by
  intro pins s σ H x y v u Q I rx ry h
  obtain ⟨d, ds, hd, he, sd, se, q⟩ := h
  obtain ⟨as, r1⟩ := Dp.reads I d x v hd rx
  obtain ⟨bs, r2⟩ := Dp.reads I (.tuple ds) y u he ry
  have w1 : PyData.canLayAll0 ds = true := SeqAt.canLay_of_shaped se
  exact SeqAt.in_tuple_reads r2 r1 w1 (SeqAt.canLay_of_shaped sd) (room_in_shaped sd hu) ⟨.bl _, H, I, rfl, q⟩
theorem o_notInT (hu : X.A.units + 65 < cLine) : OpR X (compareOp .NotIn) (oInT X.K true) := by
  intro pins s σ H x y v u Q I rx ry h
  obtain ⟨d, ds, hd, he, sd, se, q⟩ := h
  obtain ⟨as, r1⟩ := Dp.reads I d x v hd rx
  obtain ⟨bs, r2⟩ := Dp.reads I (.tuple ds) y u he ry
  have w1 : PyData.canLayAll0 ds = true := SeqAt.canLay_of_shaped se
  exact SeqAt.notIn_tuple_reads r2 r1 w1 (SeqAt.canLay_of_shaped sd) (room_in_shaped sd hu) ⟨.bl _, H, I, rfl, q⟩
end

/-- r does what f says -/
def Rz2 (K : PySem.W.Frag) (r : R2) (f : D → D → Option D) : Prop :=
  ∀ (H : Hp) (B : Addr → Prop) (x y d : D) (v w : V) (Q : VK), Lsts B H → Rp K H B x v → Rp K H B y w → f x y = some d → (∀ z H', Out K H B d z H' → Q z H') → r v w H Q
theorem sl_eq : sizeLine = SL := sizeLine_eq
section
variable {X : Cx}
def oAdd (K : PySem.W.Frag) : R2 := fun x y H Q => (rI0 fun i j => .int (i + j)) x y H Q ∨ oCat x y H Q ∨ rCatA K x y H Q ∨ (∃ i j, x = .str i ∧ y = .str j ∧ i.length + j.length ≤ sizeLine ∧ Q (.str (i ++ j)) H)
theorem o_add : OpR X (binaryOp .Add) (oAdd X.K) := op_add.or (o_cat.or (op_catA.or op_add_str))
theorem z_add {K : PySem.W.Frag} : Rz2 K (oAdd K) addD := by
  intro H B x y d v w Q l h1 h2 e q
  cases h1 <;> cases h2 <;> try (exact absurd (show (none : Option D) = some d from e) nofun)
  · cases e
    exact .inl ⟨_, _, rfl, rfl, q _ _ (.same (by simp) (.int _))⟩
  · rename_i s1 s2
    have e' : (if s1.length + s2.length ≤ SL then some (PyData.str (s1 ++ s2)) else none) = some d := e
    split at e'
    · rename_i hz
      cases e'
      exact .inr (.inr (.inr ⟨_, _, rfl, rfl, by rw [sl_eq]; exact hz, q _ _ (.same (by simp) (.str _))⟩))
    · cases e'
  · rename_i a vs ds r1 n1 z1 a1 b ws es r2 n2 z2 a2
    have e' : (if ds.length + es.length ≤ SL then some (PyData.list (ds ++ es)) else none) = some d := e
    split at e'
    · rename_i hz
      cases e'
      have hz' : vs.length + ws.length ≤ sizeLine := by rw [← a1.length, ← a2.length, sl_eq]; exact hz
      exact .inr (.inl ⟨_, _, _, _, rfl, rfl, r1, r2, hz', fun p hp => q _ _ (.lst hp (by rw [List.length_append]; exact hz') (a1.append a2))⟩)
    · cases e'
  · rename_i a vs ds r1 z1 a1 b ws es r2 z2 a2
    have e' : (if ds.length + es.length ≤ SL then some (PyData.tuple (ds ++ es)) else none) = some d := e
    split at e'
    · rename_i hz
      cases e'
      have hz' : vs.length + ws.length ≤ sizeLine := by rw [← a1.length, ← a2.length, sl_eq]; exact hz
      refine .inr (.inr (.inl ⟨_, _, _, _, rfl, rfl, r1, r2, hz', fun h0 => ?_, fun h0 h1 => ?_, fun h0 h1 p hp => q _ _ (.tup hp (by rw [List.length_append]; exact hz') (a1.append a2))⟩))
      · subst h0
        cases a1
        exact q _ _ (.same (by simp) (.tup r2 z2 a2))
      · subst h1
        cases a2
        rw [List.append_nil] at q
        exact q _ _ (.same (by simp) (.tup r1 z1 a1))
    · cases e'
/-- list * int, also of what is only read -/
def oRep : R2 := fun x y H Q => ∃ l k xs, x = .ref l ∧ y = .int k ∧ Rd H l (.lst xs) ∧ -(2 ^ 63) ≤ k ∧ k < 2 ^ 63 ∧ xs.length * k.toNat ≤ sizeLine ∧
  ∀ p, H p = none → Q (.ref p) (upd H p (.lst (List.replicate k.toNat xs).flatten))
theorem o_rep : OpR X (binaryOp .Mult) oRep := by
  intro pins s σ H x y v u Q I rx ry h
  obtain ⟨l, k, xs, rfl, rfl, hl, h1, h2, hz, q⟩ := h
  cases rx
  obtain ⟨t, rfl⟩ := ry
  obtain ⟨_, its, n, r, e1, e⟩ := rd_lst I hl
  have sz : its.toArray.size * k.toNat ≤ sizeLine := by rw [List.size_toArray, ← e1]; exact hz
  have line : (sizeLine : Nat) ≤ (2 ^ 63 - 1) / 8 := by decide
  have c1 : ¬ (!Builtin.List.listFitsIndex k) = true := by rw [fitsIndex_both h1 h2]; exact Bool.false_ne_true
  have c2 : ¬ its.toArray.size * k.toNat > (2 ^ 63 - 1) / 8 := by omega
  have c3 : ¬ Builtin.List.listTooLong (its.toArray.size * k.toNat) = true := by rw [notLongL sz]; exact Bool.false_ne_true
  have new : List.foldl (fun x1 x2 => x1 ++ x2) #[] (List.replicate (if its.toArray.isEmpty = true then 0 else k.toNat) its.toArray) = (List.replicate k.toNat its).flatten.toArray := by
    have f : ∀ m : Nat, List.foldl (fun x1 x2 => x1 ++ x2) #[] (List.replicate m its.toArray) = (List.replicate m its).flatten.toArray := fun m => by
      simpa using foldl_rep its m []
    rw [f]
    cases its with
    | nil => simp
    | cons a r' => simp
  have inner := AutoListH.list___mul___list_int_3 l its.toArray n k t c1 c2 c3
  refine wpAny_binaryOp_repeat_ref (T := "list") (U := "int") (by decide) ⟨_, e, rfl⟩ (fun s' => typeIs_int s' k t) noFill_list_mul F.fills_int_mul F.slot_int_rmul repeat_list F.slot_int_index.lookup
    (call_meets F.slot_int_rmul (typeIs_int s k t) F.entry_int_rmul (F.args_int_rmul_2 _ _) (int___rmul___int_list k t l its.toArray n)
      ⟨e, rfl, ⟨_, e, rfl⟩, call_meets F.slot_list_mul ⟨_, e, rfl⟩ F.entry_list_mul (F.args_list_mul_2 _ _) inner ⟨e, ?_⟩⟩)
  rw [new]
  have len : ((List.replicate k.toNat xs).flatten).length ≤ sizeLine := by rw [PyProof.Rows.lm_len_rep_flat, Nat.mul_comm]; exact hz
  exact ⟨.ref _, _, I.lnew (t' := s.toks) (r.rep k.toNat) len, rfl, q _ I.fresh⟩
def oMul : R2 := fun x y H Q => (rI CMul fun i j => .int (i * j)) x y H Q ∨ oRep x y H Q
theorem o_mul : OpR X (binaryOp .Mult) oMul := op_mul.or o_rep
theorem smallI_of {i : Int} (h : smallI i = true) : -(2 ^ 64) < i ∧ i < 2 ^ 64 := by
  unfold smallI at h
  simp only [Bool.and_eq_true, decide_eq_true_eq] at h
  exact h
theorem rep_rp {K : PySem.W.Frag} {H : Hp} {B : Addr → Prop} {ds : List D} {vs : List V} (h : RpA K H B ds vs) : ∀ n, RpA K H B (repD ds n) (List.replicate n vs).flatten
  | 0 => .nil
  | n + 1 => by
    show RpA K H B (List.replicate (n + 1) ds).flatten _
    rw [List.replicate_succ, List.replicate_succ, List.flatten_cons, List.flatten_cons]
    exact h.append (rep_rp h n)
theorem z_mul {K : PySem.W.Frag} : Rz2 K oMul mulD := by
  intro H B x y d v w Q l h1 h2 e q
  cases h1 <;> cases h2 <;> try (exact absurd (show (none : Option D) = some d from e) nofun)
  · rename_i i j
    have e' : (if (smallI i || smallI j) = true then some (PyData.int (i * j)) else none) = some d := e
    split at e'
    · rename_i hc
      cases e'
      refine .inl ⟨_, _, rfl, rfl, ?_, q _ _ (.same (by simp) (.int _))⟩
      rw [Bool.or_eq_true] at hc
      exact hc.imp smallI_of smallI_of
    · cases e'
  · rename_i a vs ds r1 n1 z1 a1 n
    have e' : (if ds.length * n.toNat ≤ SL ∧ -(2 ^ 60) < n ∧ n < 2 ^ 60 then some (PyData.list (repD ds n.toNat)) else none) = some d := e
    split at e'
    · rename_i hc
      cases e'
      have hz : vs.length * n.toNat ≤ sizeLine := by rw [← a1.length, sl_eq]; exact hc.1
      have len : ((List.replicate n.toNat vs).flatten).length ≤ sizeLine := by rw [PyProof.Rows.lm_len_rep_flat, Nat.mul_comm]; exact hz
      exact .inr ⟨_, _, _, rfl, rfl, r1, by omega, by omega, hz, fun p hp => q _ _ (.lst hp len (rep_rp a1 _))⟩
    · cases e'
def subD : D → D → Option D := binD .sub
theorem z_sub {K : PySem.W.Frag} : Rz2 K (rI0 fun i j => .int (i - j)) (binD .sub) := by
  intro H B x y d v w Q l h1 h2 e q
  cases h1 <;> cases h2 <;> try (exact absurd (show (none : Option D) = some d from e) nofun)
  cases e
  exact ⟨_, _, rfl, rfl, q _ _ (.same (by simp) (.int _))⟩
theorem z_fdiv {K : PySem.W.Frag} : Rz2 K (rI CDiv fun i j => .int (i / j)) (binD .fdiv) := by
  intro H B x y d v w Q l h1 h2 e q
  cases h1 <;> cases h2 <;> try (exact absurd (show (none : Option D) = some d from e) nofun)
  rename_i i j
  have e' : (if 0 < j ∧ j < 1073741824 then some (PyData.int (i / j)) else none) = some d := e
  split at e'
  · rename_i hc
    cases e'
    exact ⟨_, _, rfl, rfl, hc, q _ _ (.same (by simp) (.int _))⟩
  · cases e'
theorem z_mod {K : PySem.W.Frag} : Rz2 K (rI (fun _ j => 0 < j) fun i j => .int (i % j)) (binD .mod) := by
  intro H B x y d v w Q l h1 h2 e q
  cases h1 <;> cases h2 <;> try (exact absurd (show (none : Option D) = some d from e) nofun)
  rename_i i j
  have e' : (if 0 < j then some (PyData.int (i % j)) else none) = some d := e
  split at e'
  · rename_i hc
    cases e'
    exact ⟨_, _, rfl, rfl, hc, q _ _ (.same (by simp) (.int _))⟩
  · cases e'
theorem z_pow {K : PySem.W.Frag} : Rz2 K (rI CPow fun i j => .int (i ^ j.toNat)) (binD .pow) := by
  intro H B x y d v w Q l h1 h2 e q
  cases h1 <;> cases h2 <;> try (exact absurd (show (none : Option D) = some d from e) nofun)
  rename_i i j
  have e' : (if 0 ≤ j ∧ j ≤ 1000 ∧ i.natAbs < 2 ^ 64 then some (PyData.int (i ^ j.toNat)) else none) = some d := e
  split at e'
  · rename_i hc
    cases e'
    exact ⟨_, _, rfl, rfl, ⟨hc.1, by omega, hc.2.2⟩, q _ _ (.same (by simp) (.int _))⟩
  · cases e'
end
end Tw

set_option Elab.async false
set_option linter.all false
set_option maxRecDepth 100000
set_option maxHeartbeats 1000000
namespace Tw
open PySem PySem.Spec PyProof.Rows L2

def RzC (K : PySem.W.Frag) (r : R2) (f : D → D → Option Bool) : Prop :=
  ∀ (H : Hp) (B : Addr → Prop) (x y : D) (b : Bool) (v w : V) (Q : VK), Ro K H B x v → Ro K H B y w → f x y = some b → Q (.bl b) H → r v w H Q
def cmpOp : COp → CmpOp
  | .eq => .Eq | .ne => .NotEq | .lt => .Lt | .le => .LtE | .gt => .Gt | .ge => .GtE | .isin => .In | .notin => .NotIn | .isis => .Is | .isnot => .IsNot
def rLtD (K : PySem.W.Frag) : R2 := fun x y H Q => ∃ d e : D, Dp K H x d ∧ Dp K H y e ∧ PySem.W.alike d e = true ∧ d ≠ .none ∧ d.depth ≤ 60 ∧ Q (.bl (PySem.W.dataLt d e)) H
theorem op_ltD {X : Cx} (hu : X.A.units + 65 < cLine) : OpR X (compareOp .Lt) (rLtD X.K) := by
  intro pins s σ H x y v u Q I rx ry h
  obtain ⟨d, e, hd, he, al, nn, dp, q⟩ := h
  obtain ⟨as, r1⟩ := Dp.reads I d x v hd rx
  obtain ⟨bs, r2⟩ := Dp.reads I e y u he ry
  exact PySem.W.lt_data r1 r2 al nn (by omega) ⟨.bl _, H, I, rfl, q⟩
def oCmp (K : PySem.W.Frag) : COp → R2
  | .eq => rEqD K
  | .ne => rNeD K
  | .lt => fun x y H Q => rI0 (fun i j => .bl (decide (i < j))) x y H Q ∨ rLtD K x y H Q
  | .le => rI0 fun i j => .bl (decide (i ≤ j))
  | .gt => rI0 fun i j => .bl (decide (j < i))
  | .ge => rI0 fun i j => .bl (decide (j ≤ i))
  | .isin => fun x y H Q => (rInD K x y H Q ∨ oInT K false x y H Q) ∨ ∃ i j, x = .str i ∧ y = .str j ∧ Q (.bl (!(Builtin.Str.occurrences j i 0 j.length 1).isEmpty)) H
  | .notin => fun x y H Q => (rNotInD K x y H Q ∨ oInT K true x y H Q) ∨ ∃ i j, x = .str i ∧ y = .str j ∧ Q (.bl (!(!(Builtin.Str.occurrences j i 0 j.length 1).isEmpty))) H
  | .isis => fun x y H Q => (y = .non ∧ Q (.bl (decide (x = .non))) H) ∨ (∃ a b, x = .bl a ∧ y = .bl b ∧ Q (.bl (decide (a = b))) H)
  | .isnot => fun x y H Q => (y = .non ∧ Q (.bl (!decide (x = .non))) H) ∨ (∃ a b, x = .bl a ∧ y = .bl b ∧ Q (.bl (!decide (a = b))) H)
theorem o_cmp {X : Cx} (hu : X.A.units + 65 < cLine) : ∀ o : COp, OpR X (compareOp (cmpOp o)) (oCmp X.K o)
  | .eq => op_eqD (by omega)
  | .ne => op_neD (by omega)
  | .lt => op_lt.or (op_ltD hu)
  | .le => op_le
  | .gt => op_gt
  | .ge => op_ge
  | .isin => ((op_inD hu).or (o_inT hu)).or op_in_str
  | .notin => ((op_notInD hu).or (o_notInT hu)).or op_notIn_str
  | .isis => op_isN.or op_is_bl
  | .isnot => op_notN.or op_isnot_bl
section
variable {K : PySem.W.Frag} {H : Hp} {B : Addr → Prop}
theorem rp_non {d : D} {v : V} (h : Ro K H B d v) : decide (v = .non) = isNone d := by
  cases h <;> rfl
theorem in_shp {d : D} {y : D} {b : Bool} (hy : isStrD y = false) (e : inD d y = some b) : shp d = true ∧ shp y = true := by
  cases y with
  | str z => cases hy
  | list xs =>
    have e' : (if (shp d && shp (.list xs)) = true then some (xs.any fun z => PyData.eqv z d) else none) = some b := e
    split at e'
    · rename_i h; exact Bool.and_eq_true_iff.mp h
    · cases e'
  | tuple xs =>
    have e' : (if (shp d && shp (.tuple xs)) = true then some (xs.any fun z => PyData.eqv z d) else none) = some b := e
    split at e'
    · rename_i h; exact Bool.and_eq_true_iff.mp h
    · cases e'
  | _ => exact absurd (show (none : Option Bool) = some b from e) nofun
theorem ints_all_of : ∀ {xs : List D} {is : List Int}, intsOf xs = some is → xs = is.map PyData.int
  | [], _, e => by cases e; rfl
  | d :: xs, is, e => by
    cases d with
    | int i =>
      obtain ⟨js, e1, e2⟩ := Option.map_eq_some_iff.mp e
      subst e2
      rw [ints_all_of e1]; rfl
    | _ => cases e
theorem lt_ints (is js : List Int) : PySem.W.dataLt (.tuple (is.map PyData.int)) (.tuple (js.map PyData.int)) = decide (is < js) := by
  rw [PySem.W.dataLt_tuple]
  exact PySem.W.dataLt_ints is js
theorem dep_ints (is : List Int) : (PyData.tuple (is.map PyData.int)).depth ≤ 60 := by
  have h : PyData.depthAll (is.map PyData.int) ≤ 1 := by
    induction is with
    | nil => simp [PyData.depthAll]
    | cons i r ih => simp only [List.map_cons, PyData.depthAll, PyData.depth]; omega
  simp only [PyData.depth]; omega
theorem nod_ints (is : List Int) : nod (.tuple (is.map PyData.int)) = true := by
  have h : ∀ l : List Int, nodA (l.map PyData.int) = true := fun l => by
    induction l with
    | nil => rfl
    | cons i r ih => show (nod (PyData.int i) && nodA (r.map PyData.int)) = true; rw [ih]; rfl
  exact h is
theorem z_cmp : ∀ o : COp, RzC K (oCmp K o) (cmpD o) := by
  intro o H B x y b v w Q h1 h2 e q
  cases o with
  | eq =>
    have e' : (if (shp x && shp y) = true then some (PyData.eqv x y) else none) = some b := e
    split at e'
    · rename_i h
      cases e'
      obtain ⟨s1, s2⟩ := Bool.and_eq_true_iff.mp h
      exact ⟨x, y, h1.dp (nod_shp s1), h2.dp (nod_shp s2), s1, s2, q⟩
    · cases e'
  | ne =>
    have e' : (if (shp x && shp y) = true then some (!PyData.eqv x y) else none) = some b := e
    split at e'
    · rename_i h
      cases e'
      obtain ⟨s1, s2⟩ := Bool.and_eq_true_iff.mp h
      exact ⟨x, y, h1.dp (nod_shp s1), h2.dp (nod_shp s2), s1, s2, q⟩
    · cases e'
  | lt =>
    cases x with
    | int i =>
      cases y with
      | int j => cases h1; cases h2; cases e; exact .inl ⟨_, _, rfl, rfl, q⟩
      | _ => exact absurd (show (none : Option Bool) = some b from e) nofun
    | tuple xs =>
      cases y with
      | tuple ys =>
        have e' : ltT xs ys = some b := e
        unfold ltT at e'
        split at e'
        · rename_i is js e1 e2
          split at e'
          · rename_i al
            cases e'
            have hx := ints_all_of e1
            have hy := ints_all_of e2
            subst hx hy
            refine .inr ⟨_, _, h1.dp (nod_ints is), h2.dp (nod_ints js), al, nofun, dep_ints is, ?_⟩
            rw [lt_ints]; exact q
          · cases e'
        · cases e'
      | _ => exact absurd (show (none : Option Bool) = some b from e) nofun
    | _ => cases y <;> exact absurd (show (none : Option Bool) = some b from e) nofun
  | le =>
    cases h1 <;> cases h2 <;> try (exact absurd (show (none : Option Bool) = some b from e) nofun)
    cases e; exact ⟨_, _, rfl, rfl, q⟩
  | gt =>
    cases h1 <;> cases h2 <;> try (exact absurd (show (none : Option Bool) = some b from e) nofun)
    cases e; exact ⟨_, _, rfl, rfl, q⟩
  | ge =>
    cases h1 <;> cases h2 <;> try (exact absurd (show (none : Option Bool) = some b from e) nofun)
    cases e; exact ⟨_, _, rfl, rfl, q⟩
  | isin =>
    have e : inD x y = some b := e
    cases y with
    | str z =>
      cases x with
      | str a => cases e; cases h1; cases h2; exact .inr ⟨_, _, rfl, rfl, q⟩
      | _ => cases e
    | list xs =>
      obtain ⟨s1, s2⟩ := in_shp rfl e
      have hb : (xs.any fun z => PyData.eqv z x) = b := by
        have e' : (if (shp x && shp (.list xs)) = true then some (xs.any fun z => PyData.eqv z x) else none) = some b := e
        rw [if_pos (by rw [s1, s2]; rfl)] at e'
        exact Option.some.inj e'
      subst hb
      exact .inl (.inl ⟨x, xs, h1.dp (nod_shp s1), h2.dp (nod_shp s2), s1, s2, q⟩)
    | tuple xs =>
      obtain ⟨s1, s2⟩ := in_shp rfl e
      have hb : (xs.any fun z => PyData.eqv z x) = b := by
        have e' : (if (shp x && shp (.tuple xs)) = true then some (xs.any fun z => PyData.eqv z x) else none) = some b := e
        rw [if_pos (by rw [s1, s2]; rfl)] at e'
        exact Option.some.inj e'
      subst hb
      exact .inl (.inr ⟨x, xs, h1.dp (nod_shp s1), h2.dp (nod_shp s2), s1, s2, q⟩)
    | _ => exact absurd (show (none : Option Bool) = some b from e) nofun
  | notin =>
    have e0 : (inD x y).map (!·) = some b := e
    obtain ⟨c, e1, hc⟩ := Option.map_eq_some_iff.mp e0
    clear e e0
    subst hc
    cases y with
    | str z =>
      cases x with
      | str a => cases e1; cases h1; cases h2; exact .inr ⟨_, _, rfl, rfl, q⟩
      | _ => cases e1
    | list xs =>
      obtain ⟨s1, s2⟩ := in_shp rfl e1
      have hb : (xs.any fun z => PyData.eqv z x) = c := by
        have e' : (if (shp x && shp (.list xs)) = true then some (xs.any fun z => PyData.eqv z x) else none) = some c := e1
        rw [if_pos (by rw [s1, s2]; rfl)] at e'
        exact Option.some.inj e'
      subst hb
      exact .inl (.inl ⟨x, xs, h1.dp (nod_shp s1), h2.dp (nod_shp s2), s1, s2, q⟩)
    | tuple xs =>
      obtain ⟨s1, s2⟩ := in_shp rfl e1
      have hb : (xs.any fun z => PyData.eqv z x) = c := by
        have e' : (if (shp x && shp (.tuple xs)) = true then some (xs.any fun z => PyData.eqv z x) else none) = some c := e1
        rw [if_pos (by rw [s1, s2]; rfl)] at e'
        exact Option.some.inj e'
      subst hb
      exact .inl (.inr ⟨x, xs, h1.dp (nod_shp s1), h2.dp (nod_shp s2), s1, s2, q⟩)
    | _ => exact absurd (show (none : Option Bool) = some c from e1) nofun
  | isis =>
    replace e : isD x y = some b := e
    cases h2 with
    | non =>
      have eb : isNone x = b := by
        cases x <;> exact Option.some.inj e
      exact .inl ⟨rfl, by rw [rp_non h1, eb]; exact q⟩
    | bl c =>
      cases h1 <;> try (exact absurd (show (none : Option Bool) = some b from e) nofun)
      rename_i a
      have eb : (a == c) = b := Option.some.inj e
      exact .inr ⟨a, c, rfl, rfl, by rw [← Bool.beq_eq_decide_eq, eb]; exact q⟩
    | _ => cases h1 <;> exact absurd (show (none : Option Bool) = some b from e) nofun
  | isnot =>
    have e0 : (isD x y).map (!·) = some b := e
    obtain ⟨k, e1, hk⟩ := Option.map_eq_some_iff.mp e0
    clear e e0
    subst hk
    cases h2 with
    | non =>
      have eb : isNone x = k := by
        cases x <;> exact Option.some.inj e1
      exact .inl ⟨rfl, by rw [rp_non h1, eb]; exact q⟩
    | bl c =>
      cases h1 <;> try (exact absurd (show (none : Option Bool) = some k from e1) nofun)
      rename_i a
      have eb : (a == c) = k := Option.some.inj e1
      exact .inr ⟨a, c, rfl, rfl, by rw [← Bool.beq_eq_decide_eq, eb]; exact q⟩
    | _ => cases h1 <;> exact absurd (show (none : Option Bool) = some k from e1) nofun

theorem z_tru {d : D} {v : V} {k : Bool} (h : Rp K H B d v) (e : truB d = some k) : TruV K v H k := by
  cases h with
  | non => cases e; rfl
  | bl b => cases e; rfl
  | int i => cases e; exact (by show _ = (i != 0); unfold bne; rw [Bool.beq_eq_decide_eq])
  | str x =>
    have e' : (if x.length ≤ SL then some (!decide (x.length = 0)) else none) = some k := e
    split at e'
    · rename_i hz
      cases e'
      refine ⟨by rw [sl_eq]; exact hz, ?_⟩
      unfold bne
      rw [Bool.beq_eq_decide_eq]
      by_cases h : x.length = 0
      · simp [h]
      · simp [h]
    · cases e'
  | lst r n z a => cases e; exact .inl ⟨_, .inl r, by
      cases a <;> rfl⟩
  | tup r z a => cases e; exact .inr (.inl ⟨_, r, by
      cases a <;> rfl⟩)
  | dct => cases e
  | fn => cases e

theorem atI_rp {ds : List D} {vs : List V} {i : Int} {d : D} (h : RpA K H B ds vs) (e : atI ds i = some d) : ∃ v, atI vs i = some v ∧ Rp K H B d v := by
  unfold atI at e ⊢
  rw [h.length] at e
  cases q : L2.ixN vs.length i with
  | none => rw [q] at e; cases e
  | some j =>
    rw [q] at e
    obtain ⟨v, e1, e2⟩ := h.get e
    exact ⟨v, e1, e2⟩
theorem z_idx {x y d : D} {v w : V} {Q : VK} (h1 : Ro K H B x v) (h2 : Rp K H B y w) (e : idxD x y = some d) (q : ∀ z, Rp K H B d z → Q z H) : rIx K v w H Q := by
  cases h1 with
  | lst r z a =>
    cases h2 <;> try (exact absurd (show (none : Option D) = some d from e) nofun)
    obtain ⟨u, e1, e2⟩ := atI_rp a e
    exact .inl ⟨_, _, _, u, rfl, rfl, .inl r, e1, q u e2⟩
  | tup r z a =>
    cases h2 <;> try (exact absurd (show (none : Option D) = some d from e) nofun)
    obtain ⟨u, e1, e2⟩ := atI_rp a e
    exact .inr (.inl ⟨_, _, _, u, rfl, rfl, r, e1, q u e2⟩)
  | str z =>
    cases h2 <;> try (exact absurd (show (none : Option D) = some d from e) nofun)
    rename_i i
    have e' : (if z.length ≤ SL then (L2.atI z.cps.toList i).map fun c => PyData.str ⟨#[c]⟩ else none) = some d := e
    split at e'
    · rename_i hz
      obtain ⟨c, e1, e2⟩ := Option.map_eq_some_iff.mp e'
      subst e2
      exact .inr (.inr ⟨z, i, c, rfl, rfl, by rw [sl_eq]; exact hz, e1, q _ (.str _)⟩)
    · cases e'
  | _ => cases h2 <;> exact absurd (show (none : Option D) = some d from e) nofun
def oSl (K : PySem.W.Frag) : V → Option Int → Option Int → Hp → VK → Prop := fun x lo hi H Q => (rSlL K x lo hi H Q ∨ rSlA K x lo hi H Q) ∨ rSlS x lo hi H Q
theorem o_sl {X : Cx} : SlR X (oSl X.K) := (sl_list.or sl_tupA).or sl_str
theorem cut_rp {ds : List D} {vs : List V} (h : RpA K H B ds vs) (lo hi : Option Int) : RpA K H B (cut ds lo hi) (cutV vs lo hi) := by
  unfold cut cutV
  rw [h.length]
  exact (h.drop _).take _
theorem z_sl {x d : D} {v : V} {lo hi : Option Int} {Q : VK} (h1 : Ro K H B x v) (e : slcD x lo hi = some d) (q : ∀ z H', Out K H B d z H' → Q z H') : oSl K v lo hi H Q := by
  cases h1 with
  | lst r z a =>
    cases e
    exact .inl (.inl ⟨_, _, rfl, .inl r, fun p hp => q _ _ (.lst hp (Nat.le_trans (cutV_length _ _ _) z) (cut_rp a lo hi))⟩)
  | @tup ad vs ds r z a =>
    cases e
    refine .inl (.inr ⟨_, _, rfl, r, fun hw => ?_, fun _ p hp => q _ _ (.tup hp (Nat.le_trans (cutV_length _ _ _) z) (cut_rp a lo hi))⟩)
    have ec : cut ds lo hi = ds := by
      unfold cut
      rw [a.length, hw.1, hw.2, ← a.length]
      simp
    rw [ec] at q
    exact q _ _ (.same (by simp) (.tup r z a))
  | str z =>
    have e' : (if z.length ≤ SL then some (PyData.str ⟨(cut z.cps.toList lo hi).toArray⟩) else none) = some d := e
    split at e'
    · rename_i hz
      cases e'
      refine .inr ⟨z, rfl, by rw [sl_eq]; exact hz, ?_⟩
      have ec : cutS z lo hi = ⟨(cut z.cps.toList lo hi).toArray⟩ := by
        unfold cutS cut
        rw [show z.cps.toList.length = z.length from Array.length_toList] <;> rfl
      rw [ec]
      exact q _ _ (.same (by simp) (.str _))
    · cases e'
  | _ => exact absurd (show (none : Option D) = some d from e) nofun

theorem ty_list {a : Addr} {vs : List V} (r : Rd H a (.lst vs)) : TyX K H (.ref a) (.type "list") := by
  rcases r with r | ⟨o, r⟩
  · exact .base (.lst r)
  · exact .base (.frz r)
theorem ty_tup {a : Addr} {vs : List V} (r : SqT K H a vs) : TyX K H (.ref a) (.type "tuple") := by
  rcases r with (r | ⟨o, r⟩) | ⟨o, its, n, e, c, _⟩
  · exact .base (.tup r)
  · exact .fTuple r
  · exact .kTuple e c
def tyName : D → String
  | .none => "NoneType" | .bool _ => "bool" | .int _ => "int" | .str _ => "str" | .list _ => "list" | .tuple _ => "tuple" | .dict _ => "dict"
theorem ty_of {d : D} {v : V} (h : Ro K H B d v) (nf : isFn d = false) : TyX K H v (.type (tyName d)) := by
  cases h with
  | dct e => exact .base (.dK e)
  | fn => cases nf
  | non => exact .base .non
  | bl b => exact .base (.bl b)
  | int i => exact .base (.int i)
  | str x => exact .base (.str x)
  | lst r => exact ty_list r
  | tup r => exact ty_tup r
theorem kitN {b : String} (h : b = "int" ∨ b = "bool" ∨ b = "tuple" ∨ b = "list" ∨ b = "str") : ∀ a ∈ ["NoneType", "bool", "int", "str", "list", "tuple"], kitB a b = some (decide (a = b) || (decide (a = "bool") && decide (b = "int"))) := by
  intro a ha
  simp only [List.mem_cons, List.not_mem_nil, or_false] at ha
  rcases h with h | h | h | h | h <;> subst h <;> rcases ha with ha | ha | ha | ha | ha | ha <;> subst ha <;> decide +kernel
end
end Tw

set_option Elab.async false
set_option linter.all false
set_option maxRecDepth 100000
set_option maxHeartbeats 1000000
namespace Tw
theorem insI_perm (x : Int) : ∀ l : List Int, (insI x l).Perm (x :: l)
  | [] => .refl _
  | y :: r => by
    unfold insI
    split
    · exact .refl _
    · exact ((insI_perm x r).cons y).trans (.swap x y r)
theorem sortI_perm : ∀ l : List Int, (sortI l).Perm l
  | [] => .refl _
  | x :: r => (insI_perm x _).trans ((sortI_perm r).cons x)
theorem insI_le {x : Int} : ∀ {l : List Int}, l.Pairwise (· ≤ ·) → (insI x l).Pairwise (· ≤ ·)
  | [], _ => by simp [insI]
  | y :: r, h => by
    obtain ⟨h1, h2⟩ := List.pairwise_cons.mp h
    unfold insI
    split
    · rename_i hx
      exact List.pairwise_cons.mpr ⟨fun z hz => by
        rcases List.mem_cons.mp hz with e | e
        · omega
        · have := h1 z e; omega, h⟩
    · rename_i hx
      refine List.pairwise_cons.mpr ⟨fun z hz => ?_, insI_le h2⟩
      rcases List.mem_cons.mp ((insI_perm x r).mem_iff.mp hz) with e | e
      · omega
      · exact h1 z e
theorem sortI_le : ∀ l : List Int, (sortI l).Pairwise (· ≤ ·)
  | [] => .nil
  | _ :: r => insI_le (sortI_le r)
theorem sortI_one {l m : List Int} (hp : m.Perm l) (h : m.Pairwise (· ≤ ·)) : m = sortI l :=
  List.Perm.eq_of_pairwise (fun _ _ _ _ h1 h2 => Int.le_antisymm h1 h2) h (sortI_le l) (hp.trans (sortI_perm l).symm)
theorem insU_mem {x k : Int} : ∀ {l : List Int}, k ∈ insU x l ↔ k = x ∨ k ∈ l
  | [] => by simp [insU]
  | y :: r => by
    unfold insU
    split
    · simp
    · split
      · rename_i h; subst h; simp
      · rw [List.mem_cons, insU_mem, List.mem_cons]
        constructor
        · rintro (h | h | h)
          · exact .inr (.inl h)
          · exact .inl h
          · exact .inr (.inr h)
        · rintro (h | h | h)
          · exact .inr (.inl h)
          · exact .inl h
          · exact .inr (.inr h)
theorem sortU_mem {k : Int} : ∀ {l : List Int}, k ∈ sortU l ↔ k ∈ l
  | [] => by simp [sortU]
  | x :: r => by show k ∈ insU x (sortU r) ↔ _; rw [insU_mem, sortU_mem, List.mem_cons]
theorem insU_lt {x : Int} : ∀ {l : List Int}, l.Pairwise (· < ·) → (insU x l).Pairwise (· < ·)
  | [], _ => by simp [insU]
  | y :: r, h => by
    obtain ⟨h1, h2⟩ := List.pairwise_cons.mp h
    unfold insU
    split
    · rename_i hx
      exact List.pairwise_cons.mpr ⟨fun z hz => by
        rcases List.mem_cons.mp hz with e | e
        · omega
        · have := h1 z e; omega, h⟩
    · split
      · exact h
      · refine List.pairwise_cons.mpr ⟨fun z hz => ?_, insU_lt h2⟩
        rcases insU_mem.mp hz with e | e
        · omega
        · exact h1 z e
theorem sortU_lt : ∀ l : List Int, (sortU l).Pairwise (· < ·)
  | [] => .nil
  | _ :: r => insU_lt (sortU_lt r)
theorem rising_one : ∀ {l m : List Int}, l.Pairwise (· < ·) → m.Pairwise (· < ·) → (∀ k, k ∈ l ↔ k ∈ m) → l = m
  | [], [], _, _, _ => rfl
  | [], y :: m, _, _, h => by have := (h y).mpr List.mem_cons_self; simp at this
  | x :: l, [], _, _, h => by have := (h x).mp List.mem_cons_self; simp at this
  | x :: l, y :: m, h1, h2, h => by
    obtain ⟨a1, a2⟩ := List.pairwise_cons.mp h1
    obtain ⟨b1, b2⟩ := List.pairwise_cons.mp h2
    have e : x = y := by
      have p := (h x).mp List.mem_cons_self
      have q := (h y).mpr List.mem_cons_self
      rcases List.mem_cons.mp p with p | p
      · exact p
      · rcases List.mem_cons.mp q with q | q
        · exact q.symm
        · have := a1 y q; have := b1 x p; omega
    subst e
    congr 1
    refine rising_one a2 b2 fun k => ⟨fun hk => ?_, fun hk => ?_⟩
    · rcases List.mem_cons.mp ((h k).mp (List.mem_cons_of_mem _ hk)) with e | e
      · have := a1 k hk; omega
      · exact e
    · rcases List.mem_cons.mp ((h k).mpr (List.mem_cons_of_mem _ hk)) with e | e
      · have := b1 k hk; omega
      · exact e
theorem minI_spec {m : Int} : ∀ {l : List Int}, m ∈ l → (∀ y ∈ l, m ≤ y) → minI l = some m
  | [], h, _ => by simp at h
  | x :: r, h, hm => by
    show some (r.foldl (fun a b => if b < a then b else a) x) = some m
    congr 1
    have gen : ∀ (r : List Int) (x : Int), m ∈ x :: r → (∀ y ∈ x :: r, m ≤ y) → r.foldl (fun a b => if b < a then b else a) x = m := by
      intro r
      induction r with
      | nil => intro x h hm; simp at h; simp [h]
      | cons y r ih =>
        intro x h hm
        rw [List.foldl_cons]
        have h1 := hm x (by simp)
        have h2 := hm y (by simp)
        refine ih _ ?_ fun z hz => ?_
        · simp only [List.mem_cons] at h
          split
          · rename_i hlt
            rcases h with h | h | h
            · omega
            · simp [h]
            · simp [h]
          · rename_i hlt
            rcases h with h | h | h
            · simp [h]
            · have : x = m := by omega
              simp [this]
            · simp [h]
        · rcases List.mem_cons.mp hz with e | e
          · subst e; split <;> assumption
          · exact hm z (by simp [e])
    exact gen r x h hm
theorem maxI_spec {m : Int} : ∀ {l : List Int}, m ∈ l → (∀ y ∈ l, y ≤ m) → maxI l = some m
  | [], h, _ => by simp at h
  | x :: r, h, hm => by
    show some (r.foldl (fun a b => if a < b then b else a) x) = some m
    congr 1
    have gen : ∀ (r : List Int) (x : Int), m ∈ x :: r → (∀ y ∈ x :: r, y ≤ m) → r.foldl (fun a b => if a < b then b else a) x = m := by
      intro r
      induction r with
      | nil => intro x h hm; simp at h; simp [h]
      | cons y r ih =>
        intro x h hm
        rw [List.foldl_cons]
        have h1 := hm x (by simp)
        have h2 := hm y (by simp)
        refine ih _ ?_ fun z hz => ?_
        · simp only [List.mem_cons] at h
          split
          · rename_i hlt
            rcases h with h | h | h
            · omega
            · simp [h]
            · simp [h]
          · rename_i hlt
            rcases h with h | h | h
            · simp [h]
            · have : x = m := by omega
              simp [this]
            · simp [h]
        · rcases List.mem_cons.mp hz with e | e
          · subst e; split <;> assumption
          · exact hm z (by simp [e])
    exact gen r x h hm

theorem insU_len {x : Int} : ∀ {l : List Int}, x ∉ l → (insU x l).length = l.length + 1
  | [], _ => rfl
  | y :: r, h => by
    have h1 : x ≠ y := fun e => h (e ▸ List.mem_cons_self)
    have h2 : x ∉ r := fun e => h (List.mem_cons_of_mem _ e)
    unfold insU
    split
    · rfl
    · show (insU x r).length + 1 = _
      rw [insU_len h2]
      rfl
theorem sortU_len : ∀ {l : List Int}, l.Nodup → (sortU l).length = l.length
  | [], _ => rfl
  | x :: r, h => by
    obtain ⟨h1, h2⟩ := List.nodup_cons.mp h
    show (insU x (sortU r)).length = _
    rw [insU_len (fun z => h1 (sortU_mem.mp z)), sortU_len h2]
    rfl
theorem sortU_same {l m : List Int} (h : ∀ k, k ∈ l ↔ k ∈ m) : sortU l = sortU m :=
  rising_one (sortU_lt l) (sortU_lt m) fun k => by rw [sortU_mem, sortU_mem, h]
end Tw

set_option Elab.async false
set_option linter.all false
set_option maxRecDepth 100000
set_option maxHeartbeats 3200000
namespace Tw
open PySem PySem.Spec PyProof.Rows L2
section
variable {P : Program} {w : World} {A : Around} {E : Value → Shared → Prop} {s : Shared}
/-- an empty set that was just laid -/
abbrev set0 (w : World) : Obj := { cls := .type "set", dict := none, data := .set #[] 0 (.fresh 0 0 (!w.params.followText "set-order")) }
theorem set_list {l : Addr} {items : Array Value} (ns : List Int) {Q : Value → Shared → Prop} (hh : A.handled = none) (hl : s.heap.IsList l items) (hit : IntsAre items.toList ns) (hb : ns.length + 1 < scanBound)
    (h : ∀ (h' : Heap) (tk c : Nat), SetR w h' s.heap.objs.size (fun j => decide (j ∈ ns)) c → c ≤ ns.length → (∀ b o, s.heap.get? b = some o → h'.get? b = some o) → Q (.ref s.heap.objs.size) { s with heap := h', toks := tk }) :
    wpAny (model P w) A (call (.type "set") [.ref l]) Q E s := by
  have n1 : items.size = ns.length := by simpa using IntsAre.length hit
  obtain ⟨cm, ct, mro⟩ := F.called_set.mro
  have p1 := F.called_set.made
  have p2 := F.called_set.sub
  have p3 := F.called_set.notType
  have p4 := F.called_set.canCreate
  have p5 := F.typeCall_set_1 (.ref l)
  refine wpAny_call (codeAny_of_tree ?_)
  show wpAny _ _ (callAny (.type "set") _) _ _ _
  refine wpAny_pure ⟨Code.quiet_builtin _ (by decide +kernel), codeAny_builtin F.entry_type_call ?_⟩
  rw [Around.under_plain (weight_type_call_type "set" [.ref l] []) rfl]
  repeat (any_goals (first | assumption | wp_step))
  refine codeAny_mono (code_set_led1 (.ref l) (E := E) (Q₁ := fun x s1 => x = .ref s.heap.objs.size ∧ s1 = { s with heap := s.heap.push (set0 w) }) ⟨rfl, rfl⟩) fun r s1 hr => ?_
  match r, hr with
  | .error _, hr => exact hr
  | .ok .next, hr => exact hr.elim
  | .ok .brk, hr => exact hr.elim
  | .ok .cont, hr => exact hr.elim
  | .ok (.ret _), ⟨e1, e2⟩ =>
    subst e1; subst e2
    have g0 : (s.heap.push (set0 w)).get? s.heap.objs.size = some (set0 w) := Heap.get?_push_size _ rfl
    have t0 : Shared.TypeIs { s with heap := s.heap.push (set0 w) } (.ref s.heap.objs.size) "set" := ⟨_, g0, rfl⟩
    have q1 := F.called_set.init.lookup
    have q2 := F.called_set.init.bind (.ref s.heap.objs.size)
    repeat (any_goals (first | assumption | wp_step))
    refine codeAny_mono (codeAny_call_builtin (R := wants (fun r s2 => r = .none ∧ ∃ h' tk c, s2 = { s with heap := h', toks := tk } ∧ SetR w h' s.heap.objs.size (fun j => decide (j ∈ ns)) c ∧ c ≤ ns.length ∧
        (∀ b o, s.heap.get? b = some o → h'.get? b = some o)) E) F.called_set.init.plain F.entry_set_init (check_set_init_1 t0 ?_)) fun r2 s2 hr2 => ?_
    · obtain ⟨⟨oc, od, dt, sl⟩, ol, c1, nl, c2⟩ := hl
      simp only at c1 c2
      subst c1; subst c2
      have ol' := Heap.get?_push_of_some (set0 w) ol
      have u1 := F.sub_list_set
      have u2 := F.sub_list_frozenset
      have u3 : (Value.type "list" == Value.type "dict") = false := by decide
      have il : (s.heap.push (set0 w)).IsList l items := ⟨_, ol', rfl, nl, rfl⟩
      unfold Builtin.«set.__init__» noKeywords Builtin.Frozenset.updateFrom
      generalize hPI : pyIter = PI
      wp_walk
      subst hPI
      refine wpAny_pyIter_list il (wpAny_bind (wpAny_runValue ?_))
      have lt : l < s.heap.objs.size := Heap.lt_size ol
      have sz : (s.heap.push (set0 w)).objs.size = s.heap.objs.size + 1 := Heap.size_push ..
      have h3 : A.in1.in1.in1.handled = none := by simp [hh]
      have ne : l ≠ (s.heap.push (set0 w)).objs.size := by rw [sz]; exact Nat.ne_of_lt (Nat.lt_succ_of_lt lt)
      have nm : s.heap.objs.size ∉ [(s.heap.push (set0 w)).objs.size, l] := by
        simp only [List.mem_cons, List.not_mem_nil, or_false, not_or]
        rw [sz]
        exact ⟨Nat.ne_of_lt (Nat.lt_succ_self _), Nat.ne_of_gt lt⟩
      have val : ∀ (i : Nat) (v : Value), items[i]? = some v → ∃ k t, ns[i]? = some k ∧ v = .int k t := fun i v hv => by
        have hi : i < ns.length := by rw [← n1]; exact (Array.getElem?_eq_some_iff.mp hv).1
        obtain ⟨t, e⟩ := PyProof.Rows.IntsAre.int_at hit i v (by rw [Array.getElem?_toList]; exact hv)
        refine ⟨ns[i], t, List.getElem?_eq_getElem hi, ?_⟩
        rw [e, List.getD_eq_getElem?_getD, List.getElem?_eq_getElem hi] <;> rfl
      refine set_update_ints ((Walks.list h3 _ l ne items).toS) s.heap.objs.size nm ns n1 hb val (items.size - 0) 0 _ (by omega) (Nat.zero_le _)
        ⟨⟨_, Heap.get?_push_size _ rfl, rfl, rfl⟩, (il.push _)⟩ ?start ?fin
      case start => exact ⟨0, Nat.le_refl 0, setR_new_at (Heap.get?_push_of_some _ g0)⟩
      case fin =>
        intro s' c' mv hc hS
        obtain ⟨h', g', d', tk', os'⟩ := s'
        have eg : g' = s.gens := mv.gens
        have ed : d' = s.drawn := mv.drawn
        have eo : os' = s.os := mv.os
        subst eg; subst ed; subst eo
        refine wpAny_pure (show wpAny _ _ (ret Value.none) _ _ _ from wpAny_pure ⟨rfl, h', tk', c', rfl, hS, by rw [← n1]; exact hc, fun b o e => ?_⟩)
        have lb : b < s.heap.objs.size := Heap.lt_size e
        refine mv.heap b o ?_ (Heap.get?_push_of_some _ (Heap.get?_push_of_some _ e))
        simp only [List.mem_cons, List.not_mem_nil, or_false, not_or]
        rw [sz]
        exact ⟨Nat.ne_of_lt lb, Nat.ne_of_lt (Nat.lt_succ_of_lt lb)⟩
    · match r2, hr2 with
      | .error _, hr2 => exact hr2
      | .ok .next, hr2 => exact hr2.elim
      | .ok .brk, hr2 => exact hr2.elim
      | .ok .cont, hr2 => exact hr2.elim
      | .ok (.ret _), hr2 =>
        obtain ⟨e1, h', tk, c', e2, hS, hc, hk⟩ := hr2
        subst e1; subst e2
        repeat (any_goals (first | assumption | wp_step))
        exact h _ _ _ hS hc hk
end
section
variable {X : Cx}
/-- set(xs) of a list or a tuple of ints -/
def oSet (K : PySem.W.Frag) (w : World) : List V → Hp → VK → Prop := fun vs H Q => ∃ (a : Addr) (ns : List Int), vs = [.ref a] ∧ (SqL K H a (ns.map V.int) ∨ SqT K H a (ns.map V.int)) ∧ ns.length < 4000 ∧
  ∀ p, H p = none → Q (.ref p) (upd H p (SetO w p (fun j => decide (j ∈ ns)) (sortU ns).length))
theorem o_set (hc : X.calm = true) : CallR X (.type "set") (oSet X.K X.w) := by
  intro pins s σ H xs us Q I r h
  obtain ⟨a, ns, rfl, hq, hz, q⟩ := h
  obtain ⟨u, rfl, rx⟩ := vals1 r
  cases rx
  have sb : ns.length + 1 < scanBound := by unfold scanBound; omega
  have fin : ∀ (h' : Heap) (tk c : Nat), SetR X.w h' s.heap.objs.size (fun j => decide (j ∈ ns)) c → c ≤ ns.length → (∀ b o, s.heap.get? b = some o → h'.get? b = some o) → EP X pins σ Q (.ref s.heap.objs.size) { s with heap := h', toks := tk } :=
    fun h' tk c R _ kp => by
      have ec : c = (sortU ns).length := by
        obtain ⟨o, es, ep, t, ho, hex, hd, g, nd, hm, hb, hf, hn, hr, hl⟩ := R
        rw [← sortU_same (l := es.toList.map keyOf) (m := ns) fun k => by rw [← hm k, decide_eq_true_eq], sortU_len nd, List.length_map, Array.length_toList, hn]
      subst ec
      exact ⟨.ref _, _, I.laid (t' := tk) kp (Nat.le_refl _) (setO_new R), rfl, q _ (I.hok.fresh (Nat.le_refl _))⟩
  rcases hq with hq | hq
  · obtain ⟨its, rv, hl, _⟩ := I.list hq
    exact set_list ns (I.ok.hd hc) hl.isList (by simpa using rv.ints) sb fin
  · obtain ⟨its, rv, hl, _⟩ := I.tuple hq
    exact call_set_tupI ns (I.ok.hd hc) hl (by simpa using rv.ints) sb fin
end
end Tw

set_option Elab.async false
set_option linter.all false
set_option maxRecDepth 100000
set_option maxHeartbeats 1000000
namespace Tw
open PySem PySem.W PySem.SeqAt PySem.Calls PyProof.Rows
section
variable {prog : Program} {w : World} {A : Around} {E : Value → Shared → Prop} {s : Shared}
theorem tupLt {Q : Value → Shared → Prop} {p q : Addr} {us ws : Array Value} {e r : Nat → Bool} (hp : s.heap.IsTuple p us) (hq : s.heap.IsTuple q ws)
    (he : ∀ j (h1 : j < us.size) (h2 : j < ws.size), EqAt A.in1 s us[j] ws[j] (e j)) (hr : ∀ j (h1 : j < us.size) (h2 : j < ws.size), e j = false → RcLt A.in1 s us[j] ws[j] (r j))
    (h : Q (.bool (firstLt e r (decide (us.size < ws.size)) (List.range (min us.size ws.size)))) s) : wpAny (model prog w) A (call (.builtin "tuple.__lt__") [.ref p, .ref q]) Q E s := by
  obtain ⟨⟨c1, d1, t1, sl1⟩, o1, k1, n1, e1⟩ := id hp
  obtain ⟨⟨c2, d2, t2, sl2⟩, o2, k2, n2, e2⟩ := id hq
  simp only at k1 e1 k2 e2
  subst k1 e1 k2 e2
  exact call_meets F.slot_tuple_lt ⟨_, o1, rfl⟩ F.entry_tuple_lt (F.args_tuple_lt_2 _ _) (tuple_ltAt p q us ws n1 n2 d1 d2 sl1 sl2 e r) ⟨o1, o2, he, hr, h⟩
theorem oneLtT {xs ys : List PyData} {a b : Value} {as bs : List Addr} {Q : Bool → Shared → Prop} (ra : Reads s.heap a (.tuple xs) as) (rb : Reads s.heap b (.tuple ys) bs) (h : alike (.tuple xs) (.tuple ys) = true) (hu : A.units + min (PyData.tuple xs).depth (PyData.tuple ys).depth < cLine) (hq : Q (dataLt (.tuple xs) (.tuple ys)) s) : wpAny (model prog w) A (oneLt' true a b) Q E s := by
  have hal : alikeAll xs ys = true := by simpa [alike] using h
  cases ra with
  | @tuple l o vs n _ as1 a1 a2 a3 a4 =>
    cases rb with
    | @tuple l' o' vs' n' _ bs1 b1 b2 b3 b4 =>
      have n1 : vs.size = xs.length := by simpa using ReadsAll.length _ _ _ a4
      have n2 : vs'.size = ys.length := by simpa using ReadsAll.length _ _ _ b4
      rw [dataLt_tuple, ← firstLt_toks xs ys hal, ← n1, ← n2] at hq
      rw [oneLt'_eq]; simp only [if_true]
      refine wpAny_bind (wpAny_cRoomFor (room_here hu) (wpAny_bind (wpAny_callSpecialIfBound?_slot (T := "tuple") ⟨_, a1, a2⟩ F.slot_tuple_lt (tupLt (e := pairEq xs ys) (r := fun j => dataLt (xs.getD j .none) (ys.getD j .none)) ⟨_, a1, a2, _, a3⟩ ⟨_, b1, b2, _, b3⟩ (fun j j1 j2 => ?_) (fun j j1 j2 hj => ?_) ?_))))
      · have z := eqAt_alikeAll xs ys A.in1 s vs.toList vs'.toList _ _ a4 b4 hal (room_in hu) j (by simpa using j1) (by simpa using j2)
        simpa using z
      · have z := rcLt_alikeAll xs ys A.in1 s vs.toList vs'.toList _ _ a4 b4 hal (room_in hu) j (by simpa using j1) (by simpa using j2) hj
        simpa using z
      · exact wpAny_truthy_bool hq
theorem mapM_ex {M : Model} {α β : Type} {f : α → Sem β} : ∀ l : List α, (∀ v ∈ l, ∃ r : β, ∀ Q' : β → Shared → Prop, Q' r s → wpAny M A (f v) Q' E s) → ∃ rs : List β, rs.length = l.length ∧ ∀ Q : List β → Shared → Prop, Q rs s → wpAny M A (l.mapM f) Q E s
  | [], _ => ⟨[], rfl, fun Q h => by rw [List.mapM_nil]; exact wpAny_pure h⟩
  | x :: l, hf => by
    obtain ⟨r, h1⟩ := hf x List.mem_cons_self
    obtain ⟨rs, hl, h2⟩ := mapM_ex (f := f) l fun v hv => hf v (List.mem_cons_of_mem _ hv)
    refine ⟨r :: rs, by rw [List.length_cons, List.length_cons, hl], fun Q h => ?_⟩
    rw [List.mapM_cons]
    exact wpAny_bind (h1 _ (wpAny_bind (h2 (fun bs s' => wpAny M A (pure (r :: bs)) Q E s') (wpAny_pure h))))
/-- all tuples, the first one empty: the keys are of one type -/
theorem kindT {M : Model} {v : Value} {vs : List Value} {Q : SortKind → Shared → Prop} (h1 : ∃ p, v = .ref p ∧ s.heap.IsTuple p #[]) (ht : ∀ u ∈ v :: vs, ∃ p us, u = .ref p ∧ s.heap.IsTuple p us) (h : Q oneType' s) : wpAny M A (keyKind' (v :: vs).toArray) Q E s := by
  have hf : ∀ u ∈ v :: vs, ∀ p us, u = .ref p → s.heap.IsTuple p us → ∀ Q' : Option Value → Shared → Prop, Q' us[0]? s → wpAny M A (firstOfTuple' u) Q' E s := fun u _ p us e i Q' hq => by
    subst e
    obtain ⟨o, e0, ec, k, ed⟩ := i
    rw [kas_first_eq]
    refine wpAny_bind (wpAny_typeOf (T := "tuple") ⟨o, e0, ec⟩ ?_)
    rw [if_neg (by rw [show ((Value.type "tuple") != (Value.type "tuple")) = false by decide +kernel]; exact Bool.false_ne_true)]
    exact wpAny_bind (PyProof.Rows.listItems_at e0 ed (wpAny_pure hq))
  obtain ⟨rs, hl, hm⟩ := mapM_ex (M := M) (s := s) (A := A) (E := E) (f := firstOfTuple') vs fun u hu => by
    obtain ⟨p, us, e, i⟩ := ht u (List.mem_cons_of_mem _ hu)
    exact ⟨us[0]?, fun Q' hq => hf u (List.mem_cons_of_mem _ hu) p us e i Q' hq⟩
  obtain ⟨p1, e1, i1⟩ := h1
  rw [keyKind'_eq, List.mapM_toArray, map_eq_pure_bind]
  refine wpAny_bind (wpAny_bind ?_)
  rw [List.mapM_cons]
  refine wpAny_bind (hf v List.mem_cons_self p1 _ e1 i1 _ (wpAny_bind (hm _ (wpAny_pure (wpAny_pure ?_)))))
  rw [if_neg (by simp), if_neg (by simp), oneTypeOnly'_eq, List.mapM_toArray, map_eq_pure_bind]
  refine wpAny_bind (wpAny_bind (wpAny_bind (kas_mapM (r := Value.type "tuple") _ (fun u hu Q' hq => ?_) (wpAny_pure ?_))))
  · obtain ⟨p, us, e, o, e0, ec, k, ed⟩ := ht u hu
    subst e
    exact wpAny_typeOf (T := "tuple") ⟨o, e0, ec⟩ hq
  · have e2 : ((List.map (fun _ => Value.type "tuple") (v :: vs)).toArray.all fun x => x == Value.type "tuple") = true := by
      simp only [List.all_toArray, List.all_map, List.all_eq_true]
      exact fun _ _ => (show ((Value.type "tuple") == (Value.type "tuple")) = true by decide +kernel)
    rw [show (List.map (fun _ => Value.type "tuple") (v :: vs)).toArray[0]? = some (Value.type "tuple") by simp]
    simp only [e2, if_true]
    exact wpAny_pure (wpAny_pure h)
theorem sortsE {vs : List Value} {ds : List PyData} (e : EachIs (fun v d => ∃ as, Reads s.heap v d as) vs (.tuple [] :: ds)) (hal : AllAlike (.tuple [] :: ds)) (ht : ∀ d ∈ ds, ∃ xs, d = .tuple xs) (hu : ∀ d, d ∈ PyData.tuple [] :: ds → A.units + d.depth < cLine) : SortsAt prog w A s (dataKind s.heap (.tuple [] :: ds)) vs := by
  have ht' : ∀ d ∈ PyData.tuple [] :: ds, ∃ xs, d = .tuple xs := fun d hd => by
    rcases List.mem_cons.mp hd with rfl | hd
    · exact ⟨[], rfl⟩
    · exact ht d hd
  refine ⟨fun v hv => ?_, oneType', ?_, fun h2 E Q hq => ?_⟩
  · obtain ⟨d, hd, as, r⟩ := e.left v hv
    exact ⟨_, dataKind_some hal hd r⟩
  · intro E x y a b Q ha hb hq
    obtain ⟨d, as, hd, ra, rfl⟩ := dataKind_inv ha
    obtain ⟨d', as', hd', rb, rfl⟩ := dataKind_inv hb
    have hdd := hal d hd d' hd'
    have hr : A.units + min d.depth d'.depth < cLine := Nat.lt_of_le_of_lt (Nat.add_le_add_left (Nat.min_le_left _ _) _) (hu d hd)
    obtain ⟨xs, rfl⟩ := ht' d hd
    obtain ⟨ys, rfl⟩ := ht' d' hd'
    rw [keyLt'_oneType]
    exact oneLtT ra rb hdd hr hq
  · have hT : ∀ u ∈ vs, ∃ p us, u = .ref p ∧ s.heap.IsTuple p us := fun u hv => by
      obtain ⟨d, hd, as, r⟩ := e.left u hv
      obtain ⟨xs, rfl⟩ := ht' d hd
      cases r with
      | @tuple l o us n _ _ q1 q2 q3 q4 => exact ⟨_, _, rfl, ⟨_, q1, q2, _, q3⟩⟩
    cases e with
    | cons h0 hr =>
      obtain ⟨as, r0⟩ := h0
      refine kindT ?_ hT hq
      cases r0 with
      | @tuple l o us n _ _ q1 q2 q3 q4 =>
        have : us = #[] := by
          have := ReadsAll.length _ _ _ q4
          exact Array.eq_empty_of_size_eq_zero (by simpa using this)
        subst this
        exact ⟨_, rfl, ⟨_, q1, q2, _, q3⟩⟩
variable {β : Type} {vs : List Value} {bs : List β} {enc : β → PyData} {R : Value → β → Prop}
theorem sortedE {l : Addr} {b0 : β} {Q : Value → Shared → Prop} (hl : s.heap.IsList l vs.toArray) (e : EachIs R vs (b0 :: bs)) (er : EachIs (fun v b => ∃ as, Reads s.heap v (enc b) as) vs (b0 :: bs)) (h0 : enc b0 = .tuple []) (hal : AllAlike ((b0 :: bs).map enc)) (hk : ∀ b ∈ bs, ∃ xs, enc b = .tuple xs) (hL : (b0 :: bs).length ≤ sizeLine)
    (hu : ∀ b, b ∈ b0 :: bs → A.units + 2 + (enc b).depth < cLine) (h : ∀ out, out.length = (b0 :: bs).length → EachIs R out ((b0 :: bs).mergeSort (dataLe false enc)) → Q (.ref (s.heap.objs.size + 1)) { s with heap := sortedAll s.heap vs (List.toArray out) }) : wpAny (model prog w) A (call (.builtin "sorted") [.ref l]) Q E s := by
  generalize hH : sortingHeap (copyHeap s.heap vs) (s.heap.objs.size + 1) vs = H
  have e2 : EachIs (fun v b => ∃ as, Reads H v (enc b) as) vs (b0 :: bs) := er.mono fun _ _ ⟨as, r⟩ => ⟨as, PyProof.Rows.Reads.keeps (fun _ _ z => by rw [← hH]; exact sorting_copy_old z) r⟩
  subst hH
  have hd := each_map (R := fun v d => ∃ as, Reads (sortingHeap (copyHeap s.heap vs) (s.heap.objs.size + 1) vs) v d as) enc e2
  have hu' := bound_map (A := A.in1.in1) (enc := enc) hu
  rw [List.map_cons, h0] at hd hu'
  have hal' := hal
  rw [List.map_cons, h0] at hal'
  have S := sortsE (prog := prog) (w := w) (A := A.in1.in1) (s := { s with heap := sortingHeap (copyHeap s.heap vs) (s.heap.objs.size + 1) vs }) hd hal' (fun d hm => by obtain ⟨b, hb, rfl⟩ := List.mem_map.mp hm; exact hk b hb) hu'
  rw [← h0, ← List.map_cons] at S
  exact sorted_vals hl S (by rw [e.length]; exact hL) (h _ (by rw [sortVals_length false rfl]; exact e.length) (sortVals_data false e e2 hal))
end
end Tw

set_option Elab.async false
set_option linter.all false
set_option maxRecDepth 100000
set_option maxHeartbeats 1000000
namespace Tw
open PySem PySem.Spec PyProof.Rows L2

section
variable {X : Cx}
def oRepr (K : PySem.W.Frag) : List V → Hp → VK → Prop := fun vs H Q => ∃ v d, vs = [v] ∧ Dp K H v d ∧ d.showable = true ∧ d.hasDict = false ∧ d.depth ≤ 64 ∧ d.shown.length ≤ sizeLine ∧ Q (.str d.shown) H
/-- repr of the one dict -/
def oReprX : List V → Hp → VK → Prop := fun vs H Q => ∃ a, vs = [.ref a] ∧ H a = some (.dK [(Sum.inr "a", .int 1)]) ∧ Q (.str dctT) H
theorem kv_one {k : Key} {v : V} {vs : List (Key × Value)} (h : KV [(k, v)] vs) : ∃ u, vs = [(k, u)] ∧ RelV v u := by
  match vs, h with
  | [(k', u)], .cons ⟨e1, e2⟩ .nil => exact ⟨u, by rw [show k = k' from e1], e2⟩
theorem o_reprX (hu : X.A.units + 70 < cLine) (hg : X.A.guards = some []) : CallR X (.builtin "repr") oReprX := by
  intro pins s σ H xs us Q I r h
  obtain ⟨a, rfl, ha, q⟩ := h
  rw [Vals.ref1 r]
  obtain ⟨z, hd, vs, rel, dd⟩ := dk_of I.hok ha
  obtain ⟨o, es, ep, ho, hex, hdat, _, hp, _⟩ := dd
  have hne : a ≠ sysModules := fun e => by rw [e] at hd; simp at hd
  have hr : Reads s.heap (.ref a) (.dict [(.str "a", .int 1)]) (a :: ([] ++ [] : List Addr) ++ ([] ++ [])) := by
    obtain ⟨k2, rfl, e2⟩ := kv_one rel
    obtain ⟨t, e2⟩ : ∃ t, k2 = Value.int 1 t := e2
    subst e2
    generalize hes : es.toList = l at hp
    cases hp with
    | @cons en _ _ _ hk hv tl =>
      cases tl
      have hk : Value.isStrOf "a" en.key = true := hk
      obtain ⟨u, hu2⟩ : ∃ u, en.key = .str "a" u := by
        cases hke : en.key with
        | str y u =>
          rw [hke] at hk
          have : y = "a" := by simpa [Value.isStrOf] using hk
          rw [this]; exact ⟨u, rfl⟩
        | _ => rw [hke] at hk; simp [Value.isStrOf] at hk
      refine .dict (kvs := [(.str "a", .int 1)]) ho hex.1 hdat ?_ ?_
      · rw [hes]
        show ReadsAll s.heap [en.key] [.str "a"] _
        rw [hu2]
        exact .cons (.str _ _) .nil
      · rw [hes]
        show ReadsAll s.heap [en.val] [.int 1] _
        rw [hv]
        exact .cons (.int _ _) .nil
  exact repr_of_reads' hr (by decide +kernel) (fun _ => by simp; exact fun e => hne e.symm) hg (by show X.A.units + (_ + 1) < cLine; have : (PyData.dict [(.str "a", .int 1)]).depth ≤ 10 := by decide +kernel
                                                                                                   omega) (fun _ _ e => e) (fun h' w tk kp => ⟨.str dctT, H, I.kept kp, ⟨w, rfl⟩, q⟩) (by decide +kernel)
theorem o_repr (hu : X.A.units + 70 < cLine) (hg : X.A.guards = some []) : CallR X (.builtin "repr") (oRepr X.K) := by
  intro pins s σ H xs us Q I r h
  obtain ⟨v, d, rfl, hd, h1, h2, h3, h4, q⟩ := h
  obtain ⟨u, rfl, rx⟩ := vals1 r
  obtain ⟨as, rd⟩ := Dp.reads I d v u hd rx
  have at_ : ∀ a, u = .ref a → wpAny (model X.prog X.w) X.A (call (.builtin "repr") [u]) (EP X pins σ Q) X.xe s := fun a e => by
    subst e
    exact repr_of_reads' rd h1 (PyData.noDict_hsm h2) hg (by omega) (fun _ _ e => e) (fun h' w tk kp => ⟨.str d.shown, H, I.kept kp, ⟨w, rfl⟩, q⟩) h4
  cases d with
  | none =>
    cases rd
    have e : PyData.shown .none = "None" := by simp only [PyData.shown]
    rw [e] at q
    exact PySem.P.repr_of_none ⟨.str _, H, I.tok _, ⟨_, rfl⟩, q⟩
  | bool b =>
    cases rd
    have e : PyData.shown (.bool b) = Str.ofString (if b then "True" else "False") := by simp only [PyData.shown]; cases b <;> rfl
    rw [e] at q
    exact PySem.P.repr_of_bool ⟨.str (Str.ofString (if b then "True" else "False")), H, I.tok _, ⟨_, by cases b <;> rfl⟩, q⟩
  | int i =>
    cases rd
    have e : PyData.shown (.int i) = toString i := by simp only [PyData.shown]
    rw [e] at q
    have hz : i.natAbs.log2 < 1920 := by simpa [PyData.showable] using h1
    exact PySem.P.repr_of_int hz ⟨.str _, H, I.tok _, ⟨_, rfl⟩, q⟩
  | str x =>
    cases rd
    have e : PyData.shown (.str x) = reprText x := by simp only [PyData.shown]
    rw [e] at q h4
    exact PySem.P.repr_of_str ⟨.str _, H, I.tok _, ⟨_, rfl⟩, q⟩ h4
  | list ds => cases rd; exact at_ _ rfl
  | tuple ds => cases rd; exact at_ _ rfl
  | dict ds => simp [PyData.hasDict] at h2

theorem minD_mem : ∀ (ds : List D) (d : D), PySem.W.minD d ds = d ∨ PySem.W.minD d ds ∈ ds
  | [], d => .inl rfl
  | y :: ds, d => by
    show PySem.W.minD (if PySem.W.dataLt y d then y else d) ds = d ∨ PySem.W.minD (if PySem.W.dataLt y d then y else d) ds ∈ y :: ds
    rcases minD_mem ds (if PySem.W.dataLt y d then y else d) with h | h
    · rw [h]
      split
      · exact .inr List.mem_cons_self
      · exact .inl rfl
    · exact .inr (List.mem_cons_of_mem _ h)
theorem minD_in (d : D) (ds : List D) : PySem.W.minD d ds ∈ d :: ds := (minD_mem ds d).elim (fun h => by rw [h]; exact List.mem_cons_self) fun h => List.mem_cons_of_mem _ h
def oMinD (K : PySem.W.Frag) : List V → Hp → VK → Prop := fun vs H Q => ∃ (a : Addr) (us : List V) (d : D) (ds : List D), vs = [.ref a] ∧ SqL K H a us ∧ DpAll K H us (d :: ds) ∧ PySem.W.AlikeAll (d :: ds) ∧ PyData.depthAll (d :: ds) ≤ 60 ∧
  ∀ (i : Nat) (z : V), us[i]? = some z → (d :: ds)[i]? = some (PySem.W.minD d ds) → Q z H
theorem vals_back : ∀ {vs : List V} {us : List Value} {i : Nat} {u : Value}, Vals vs us → us[i]? = some u → ∃ z, vs[i]? = some z ∧ RelV z u
  | _, _, i, u, .nil, h => by simp at h
  | _, _, 0, u, .cons r _, h => by
    have h' := Option.some.inj (show some _ = some u from h)
    subst h'
    exact ⟨_, rfl, r⟩
  | _, _, i + 1, u, .cons _ rs, h => vals_back (i := i) rs (by simpa using h)
theorem cr_minD (hc : X.calm = true) (hu : X.A.units + 70 < cLine) : CallR X (.builtin "min") (oMinD X.K) := by
  intro pins s σ H xs us Q I r h
  obtain ⟨a, vs, d, ds, rfl, hs, hd, ha, hdp, q⟩ := h
  obtain ⟨u, rfl, ru⟩ := vals1 r
  obtain rfl : u = .ref a := ru
  obtain ⟨its, rv, pl, hz⟩ := I.list hs
  obtain ⟨as, hr⟩ := Dp.readsAll I (d :: ds) vs its hd rv
  have hr' : ReadsAll s.heap its.toArray.toList (d :: ds) as := by simpa using hr
  refine PySem.W.min_list_data (I.ok.hd hc) pl.isList hr' ha (by omega) fun i v h' tk bs hv hrd hk => ?_
  have hv' : its[i]? = some v := by simpa using hv
  obtain ⟨z, hz', rz⟩ := vals_back rv hv'
  refine ⟨z, H, I.kept hk, rz, q i z hz' ?_⟩
  obtain ⟨bs', r', hlt, hmem, _⟩ := PySem.W.readsAll_atA hr' i v hv
  have e := PySem.W.alike_unique _ _ v _ _ (ha.1 _ hmem _ (minD_in d ds)) (PySem.W.reads_keeps hk r') hrd
  rw [← e, List.getD_eq_getElem?_getD, List.getElem?_eq_getElem hlt]; rfl

def zipS (us : List V) (ds : List D) : List (V × D) := (us.zip ds).mergeSort (PySem.W.dataLe false (·.2))
def oSortD (K : PySem.W.Frag) : List V → Hp → VK → Prop := fun vs H Q => ∃ (a : Addr) (us : List V) (ds : List D), vs = [.ref a] ∧ SqL K H a us ∧ DpAll K H us ds ∧ PySem.W.AllAlike ds ∧ (PySem.W.Sortable ds ∨ ∃ es, ds = .tuple [] :: es ∧ ∀ d ∈ es, ∃ xs, d = .tuple xs) ∧ PyData.depthAll ds ≤ 60 ∧
  ∀ p : Addr, H p = none → Q (.ref p) (upd H p (.lst ((zipS us ds).map (·.1))))
theorem each_zip {h : Heap} : ∀ {us : List V} {its : List Value} {ds : List D} {as : List Addr}, Vals us its → ReadsAll h its ds as → PySem.W.EachIs (fun v (b : V × D) => RelV b.1 v) its (us.zip ds) ∧ PySem.W.EachIs (fun v (b : V × D) => ∃ as, Reads h v b.2 as) its (us.zip ds)
  | _, _, _, _, .nil, .nil => ⟨.nil, .nil⟩
  | _, _, _, _, .cons r rs, .cons h1 h2 => by
    obtain ⟨e1, e2⟩ := each_zip rs h2
    exact ⟨.cons r e1, .cons ⟨_, h1⟩ e2⟩
theorem vals_each : ∀ {its : List Value} {bs : List (V × D)}, PySem.W.EachIs (fun v (b : V × D) => RelV b.1 v) its bs → Vals (bs.map (·.1)) its
  | _, _, .nil => .nil
  | _, _, .cons h t => .cons h (vals_each t)
theorem dpAll_len {K : PySem.W.Frag} {H : Hp} : ∀ {us : List V} {ds : List D}, DpAll K H us ds → us.length = ds.length
  | _, _, .nil => rfl
  | _, _, .cons _ t => congrArg (· + 1) (dpAll_len t)
theorem zip_snd : ∀ {us : List V} {ds : List D}, us.length = ds.length → (us.zip ds).map (·.2) = ds
  | [], [], _ => rfl
  | [], _ :: _, h => by simp at h
  | _ :: _, [], h => by simp at h
  | u :: us, d :: ds, h => by
    show d :: (us.zip ds).map (·.2) = _
    rw [zip_snd (by simpa using h)]
theorem zipS_snd {us : List V} {ds : List D} (h : us.length = ds.length) : (zipS us ds).map (·.2) = ds.mergeSort (PySem.W.dataLe false id) := by
  unfold zipS
  rw [List.map_mergeSort (r := PySem.W.dataLe false (fun b : V × D => b.2)) (s := PySem.W.dataLe false id) (f := fun b : V × D => b.2) (fun a _ b _ => rfl), zip_snd h]
theorem depth_in : ∀ {ds : List D} {d : D} {k : Nat}, PyData.depthAll ds ≤ k → d ∈ ds → d.depth ≤ k
  | y :: ds, d, k, h, hm => by
    simp only [PyData.depthAll] at h
    rcases List.mem_cons.mp hm with rfl | hm
    · omega
    · exact depth_in (ds := ds) (by omega) hm
theorem cr_sortD (hu : X.A.units + 70 < cLine) : CallR X (.builtin "sorted") (oSortD X.K) := by
  intro pins s σ H xs us Q I r h
  obtain ⟨a, vs, ds, rfl, hs, hd, hal, hk, hdp, q⟩ := h
  rw [Vals.ref1 r]
  obtain ⟨its, rv, pl, hz⟩ := I.list hs
  obtain ⟨as, hr⟩ := Dp.readsAll I ds vs its hd rv
  obtain ⟨e1, e2⟩ := each_zip rv hr
  have hl := dpAll_len hd
  have es : (vs.zip ds).map (·.2) = ds := zip_snd hl
  have hzl : (vs.zip ds).length = vs.length := by rw [List.length_zip]; omega
  have hub : ∀ b ∈ vs.zip ds, X.A.units + 2 + b.2.depth < cLine := fun b hb => by
    have hm : b.2 ∈ ds := by rw [← es]; exact List.mem_map.mpr ⟨b, hb, rfl⟩
    have := depth_in hdp hm
    omega
  have hlen : ((zipS vs ds).map (·.1)).length ≤ sizeLine := by
    unfold zipS
    rw [List.length_map, List.length_mergeSort, hzl]; exact hz
  rcases hk with hk | ⟨ds', rfl, ht⟩
  · refine PySem.W.sorted_data (enc := fun b : V × D => b.2) pl.isList e1 e2 (by rw [es]; exact hal) (by rw [es]; exact hk) (by rw [hzl]; exact hz) hub fun out ho eo => ?_
    · obtain ⟨ep, he'⟩ := PyProof.Rows.sortedAll_at s.heap its out.toArray
      exact ⟨.ref _, upd H (s.heap.objs.size + 1) (.lst ((zipS vs ds).map (·.1))), I.laid (t' := s.toks) (fun _ _ => PyProof.Rows.sortedAll_old) (Nat.le_succ _) ⟨hlen, out, ep, vals_each eo, he'⟩, rfl, q _ (I.hok.fresh (Nat.le_succ _))⟩
  · cases vs with
    | nil => simp at hl
    | cons v vs =>
      have es' : (vs.zip ds').map (·.2) = ds' := zip_snd (by simpa using hl)
      refine sortedE (b0 := (v, .tuple [])) (bs := vs.zip ds') (enc := fun b : V × D => b.2) pl.isList e1 e2 rfl (by rw [show ((v, PyData.tuple []) :: vs.zip ds').map (fun b : V × D => b.2) = .tuple [] :: ds' from es]; exact hal) (fun b hb => ht b.2 (by rw [← es']; exact List.mem_map.mpr ⟨b, hb, rfl⟩)) (by have h3 := hzl; rw [List.zip_cons_cons] at h3; rw [h3]; exact hz) hub fun out ho eo => ?_
      · obtain ⟨ep, he'⟩ := PyProof.Rows.sortedAll_at s.heap its out.toArray
        exact ⟨.ref _, upd H (s.heap.objs.size + 1) (.lst ((zipS (v :: vs) (.tuple [] :: ds')).map (·.1))), I.laid (t' := s.toks) (fun _ _ => PyProof.Rows.sortedAll_old) (Nat.le_succ _) ⟨hlen, out, ep, vals_each eo, he'⟩, rfl, q _ (I.hok.fresh (Nat.le_succ _))⟩

section
variable {prog : Program} {w : World} {A : Around} {E : Value → Shared → Prop} {s : Shared}
theorem collT {t : Addr} {us : List Value} {Q : List Value → Shared → Prop} (ht : s.heap.IsTuple t us.toArray) (hz : us.length ≤ sizeLine)
    (q : Q us { s with heap := (s.heap.push (PyProof.Rows.seqObj "list" #[] 0)).update s.heap.objs.size (Obj.mapSeq (· ++ us.toArray)) }) :
    wpAny (model prog w) A (collect (.ref t)) Q E s := by
  obtain ⟨ob, e0, ec, k, ed⟩ := ht
  unfold collect
  refine wpAny_bind (wpAny_runValue (codeAny_builtin PyProof.Rows.entry_proto_collect' ?_))
  show wpAny _ _ (do again (.builtin "list.__iadd__" ⟨[← newList [], .ref t], []⟩)) _ _ s
  refine wpAny_bind (wpAny_newList (wpAny_pure ⟨Code.quiet_builtin _ (by decide +kernel), codeAny_builtin PyProof.Rows.entry_list_iadd' ?_⟩))
  show wpAny _ _ (Builtin.List.listExtendWith (.ref s.heap.objs.size) (.ref t) (.ref s.heap.objs.size)) _ _ { s with heap := s.heap.push (PyProof.Rows.seqObj "list" #[] 0) }
  unfold Builtin.List.listExtendWith
  have e1 : (s.heap.push (PyProof.Rows.seqObj "list" #[] 0)).get? t = some ob := Heap.get?_push_of_some _ e0
  refine wpAny_bind (wpAny_typeOf (T := "tuple") ⟨ob, e1, ec⟩ ?_)
  rw [if_pos (by rw [show (Value.type "tuple" == Value.type "tuple") = true by rfl]; simp)]
  refine wpAny_bind (PyProof.Rows.listItems_at e1 ed ?_)
  refine wpAny_bind (PyProof.Rows.listItems_at (n := 0) (xs := #[]) (Heap.get?_push_size _ rfl) rfl ?_)
  rw [if_neg (show ¬ ((!(#[] : Array Value).isEmpty && _) = true) by simp)]
  refine wpAny_bind (PyProof.Rows.listUpdate_at (n := 0) (xs := #[]) (Heap.get?_push_size _ rfl) rfl ?_ (Nat.zero_le _) (by show (#[] ++ us.toArray).size ≤ _; rw [Array.size_append, List.size_toArray]; show 0 + us.length ≤ _; omega))
  refine wpAny_pure ?_
  show wpAny (model prog w) A (do
      let u ← load s.heap.objs.size
      match u.data with
      | .seq ys _ => pure ys.toList
      | _ => unsupported "internal:collect") Q E { s with heap := (s.heap.push (PyProof.Rows.seqObj "list" #[] 0)).update s.heap.objs.size (Obj.mapSeq (· ++ us.toArray)) }
  refine wpAny_bind (wpAny_load (PyProof.Rows.get?_update_seq (Heap.get?_push_size _ rfl) _) ?_)
  show wpAny _ _ (pure ((#[] : Array Value) ++ us.toArray).toList) Q E _
  have e2 : ((#[] : Array Value) ++ us.toArray).toList = us := by simp
  rw [e2]
  exact wpAny_pure q
theorem sortT {t : Addr} {us : List Value} {lt : Value → Value → Bool} {Q : Value → Shared → Prop} (O : SrtO.Swo lt) (ht : s.heap.IsTuple t us.toArray) (hz : us.length ≤ sizeLine)
    (hS : 2 ≤ us.length → ∀ (g : Heap) (a : Addr), SrtO.SortableO prog w A.in1.in1 { s with heap := g } a us lt)
    (q : ∀ o : List Value, SrtO.Srtd lt o → SrtO.Stb lt o us → Q (.ref (s.heap.objs.size + 1)) { s with heap := PyProof.Rows.sortedAll s.heap us o.toArray }) :
    wpAny (model prog w) A (call (.builtin "sorted") [.ref t]) Q E s := by
  refine Calls.call_function_entry PyProof.Rows.kind_sorted PyProof.Rows.plain_sorted PyProof.Rows.entry_sorted (PyProof.Rows.args_sorted1 _) ?_
  unfold Builtin.«sorted»
  refine wpAny_bind (m := checkCount "sorted" 1 1 _) (wpAny_pure ?_)
  refine wpAny_bind (collT ht hz ?_)
  refine wpAny_bind (wpAny_newList ?_ hz)
  have ez : ((s.heap.push (PyProof.Rows.seqObj "list" #[] 0)).update s.heap.objs.size (Obj.mapSeq (· ++ us.toArray))).objs.size = s.heap.objs.size + 1 := by
    rw [Heap.size_update, PyProof.Rows.size_push']
  have eL : (((s.heap.push (PyProof.Rows.seqObj "list" #[] 0)).update s.heap.objs.size (Obj.mapSeq (· ++ us.toArray))).push (PyProof.Rows.seqObj "list" us.toArray 0)).get? (s.heap.objs.size + 1) = some (PyProof.Rows.seqObj "list" us.toArray 0) := by
    rw [← ez]; exact Heap.get?_push_size _ rfl
  show wpAny _ _ _ _ _ { s with heap := ((s.heap.push (PyProof.Rows.seqObj "list" #[] 0)).update s.heap.objs.size (Obj.mapSeq (· ++ us.toArray))).push (PyProof.Rows.seqObj "list" us.toArray 0) }
  rw [ez]
  refine wpAny_bind (wpAny_holding (wpAny_call_entry PyProof.Rows.slot_list_sort ⟨_, eL, rfl⟩ PyProof.Rows.entry_list_sort (SrtO.list_sort_ord O eL hz (fun h2 => hS h2 _ _) fun o h1 h2 => ⟨_, rfl, ?_⟩) (PyProof.Rows.args_list_sort _)))
  exact wpAny_pure ⟨_, rfl, q o h1 h2⟩
end
def rSortT (K : PySem.W.Frag) : List V → Hp → VK → Prop := fun vs H Q => ∃ (a : Addr) (is : List Int), vs = [V.ref a] ∧ SqT K H a (is.map V.int) ∧
  ∀ (js : List Int) (p : Addr), js.Perm is → js.Pairwise (· ≤ ·) → H p = none → Q (.ref p) (upd H p (.lst (js.map V.int)))
theorem cr_sortTI : CallR X (.builtin "sorted") (rSortT X.K) := by
  intro pins s σ H vs us Q I r h
  obtain ⟨a, is, rfl, hs, q⟩ := h
  obtain ⟨its, rv, pl, hz⟩ := I.tuple hs
  rw [Vals.ref1 r]
  have hi := rv.ints
  refine sortT SrtO.swo_int (show s.heap.IsTuple a its.toArray from pl) (by rw [← rv.length]; exact hz) (fun h2 g b => SrtO.ints_sortable hi h2) fun o h1 h2 => ?_
  obtain ⟨k1, k2, k3⟩ := SrtO.ints_out hi h1 h2
  obtain ⟨ep, ee⟩ := PyProof.Rows.sortedAll_at s.heap its o.toArray
  have hn : ((o.map SrtO.iv).map V.int).length ≤ sizeLine := by
    rw [List.length_map, k2.length_eq]
    simpa using hz
  exact ⟨.ref _, upd H (s.heap.objs.size + 1) (.lst ((o.map SrtO.iv).map V.int)), I.laid (t' := s.toks) (fun _ _ => PyProof.Rows.sortedAll_old) (Nat.le_succ _) ⟨hn, o, ep, vals_of_ints k1, ee⟩, rfl, q _ _ k2 k3 (I.hok.fresh (Nat.le_succ _))⟩
/-- the sum of a tuple of whole numbers -/
def rSumT (K : PySem.W.Frag) : List V → Hp → VK → Prop := fun vs H Q => ∃ (a : Addr) (is : List Int), vs = [V.ref a] ∧ SqT K H a (is.map V.int) ∧ Q (.int is.sum) H
theorem cr_sumT (hc : X.calm = true) : CallR X (.builtin "sum") (rSumT X.K) := by
  intro pins s σ H vs us Q I r h
  obtain ⟨a, is, rfl, hs, q⟩ := h
  obtain ⟨its, rv, pl, _⟩ := I.tuple hs
  rw [Vals.ref1 r]
  obtain ⟨xs, hx⟩ := rv.ints.allInts.items
  have hn : numsOf its.toArray.toList = is := rv.ints.numsOf
  rw [hx, nums_intItems] at hn
  refine PySem.W.ktm_sumG (xs := xs) (I.ok.hd hc) (show s.heap.IsTuple a _ by rw [← hx]; exact pl) fun h' tk t' hk => ⟨.int is.sum, H, I.kept (t' := tk) hk, ⟨t', ?_⟩, q⟩
  rw [preSum_eq, List.take_of_length_le (by simp), hn]
def btVal : Bt → Value
  | .len => .builtin "len" | .int => .type "int" | .tuple => .type "tuple" | .list => .type "list" | .sorted => .builtin "sorted" | .min => .builtin "min" | .max => .builtin "max"
  | .sum => .builtin "sum" | .all => .builtin "all" | .repr => .builtin "repr" | .divmod => .builtin "divmod" | .str => .type "str"
def oBt (K : PySem.W.Frag) : Bt → List V → Hp → VK → Prop
  | .len => fun xs H Q => (∃ p ys, xs = [.ref p] ∧ (SqL K H p ys ∨ SqT K H p ys) ∧ Q (.int ys.length) H) ∨ ∃ x n, xs = [x] ∧ LenV K x H n ∧ Q (.int n) H
  | .int => fun xs H Q => ((∃ i, xs = [.int i] ∧ Q (.int i) H) ∨ ∃ k, xs = [.bl k] ∧ Q (.int (if k then 1 else 0)) H) ∨ ∃ a n, xs = [.str a] ∧ PySem.intText? a = some n ∧ a.length ≤ 640 ∧ Q (.int n) H
  | .tuple => fun xs H Q => ∃ p ys, xs = [.ref p] ∧ ((SqL K H p ys ∧ ∀ l, H l = none → Q (.ref l) (upd H l (.tup ys))) ∨ (SqT K H p ys ∧ Q (.ref p) H))
  | .list => fun xs H Q => ∃ p ys, xs = [.ref p] ∧ (SqL K H p ys ∨ SqT K H p ys) ∧ ∀ l, H l = none → Q (.ref l) (upd H l (.lst ys))
  | .sorted => fun xs H Q => (rSortedI K xs H Q ∨ oSortD K xs H Q) ∨ rSortT K xs H Q
  | .min => fun xs H Q => (rMin K xs H Q ∨ oMinD K xs H Q) ∨ (∃ i j, xs = [.int i, .int j] ∧ Q (.int (if j < i then j else i)) H)
  | .max => fun xs H Q => rMax K xs H Q ∨ (∃ i j, xs = [.int i, .int j] ∧ Q (.int (if j > i then j else i)) H)
  | .sum => fun xs H Q => rSum K xs H Q ∨ rSumT K xs H Q
  | .all => rAll K
  | .repr => fun xs H Q => oRepr K xs H Q ∨ oReprX xs H Q
  | .divmod => fun xs H Q => ∃ i j, xs = [.int i, .int j] ∧ CDiv i j ∧ ∀ p, H p = none → Q (.ref p) (upd H p (.tup [.int (i / j), .int (i % j)]))
  | .str => fun xs H Q => ∃ i, xs = [.int i] ∧ i.natAbs.log2 < 1920 ∧ Q (.str (toString i)) H
theorem o_bt (hc : X.calm = true) (hu : X.A.units + 70 < cLine) : ∀ b : Bt, (isRepr b = true → X.A.guards = some []) → CallR X (btVal b) (oBt X.K b)
  | .len, _ => call_len_seq.or call_len
  | .int, _ => call_int1.or call_int_str
  | .tuple, _ => call_tuple_of
  | .list, _ => call_list_of
  | .sorted, _ => (cr_sortedI.or (cr_sortD hu)).or cr_sortTI
  | .min, _ => ((cr_min hc).or (cr_minD hc hu)).or (call_min2 hc)
  | .max, _ => (cr_max hc).or (call_max2 hc)
  | .sum, _ => (cr_sum hc).or (cr_sumT hc)
  | .all, _ => cr_all hc
  | .repr, hg => (o_repr hu (hg rfl)).or (o_reprX hu (hg rfl))
  | .divmod, _ => call_divmod
  | .str, _ => call_str_int
end
section
variable {K : PySem.W.Frag} {H : Hp} {B : Addr → Prop} {Q : VK} {d : D}
theorem rpa1 {x : D} {vs : List V} (h : RoA K H B [x] vs) : ∃ v, vs = [v] ∧ Ro K H B x v := by
  cases h with
  | cons h t => cases t; exact ⟨_, rfl, h⟩
theorem rpa2 {x y : D} {vs : List V} (h : RoA K H B [x, y] vs) : ∃ v w, vs = [v, w] ∧ Ro K H B x v ∧ Ro K H B y w := by
  cases h with
  | cons h t =>
    cases t with
    | cons h2 t => cases t; exact ⟨_, _, rfl, h, h2⟩
theorem minI_mem : ∀ {l : List Int} {m : Int}, minI l = some m → 0 < l.length
  | [], _, h => by cases h
  | _ :: _, _, _ => by simp
theorem maxI_mem : ∀ {l : List Int} {m : Int}, maxI l = some m → 0 < l.length
  | [], _, h => by cases h
  | _ :: _, _, _ => by simp
theorem no_bt {b : Option D} (h : (none : Option D) = some d) : False := by cases h
theorem rpa_zip : ∀ {ds : List D} {us : List V}, RpA K H B ds us → ∀ q ∈ us.zip ds, Rp K H B q.2 q.1
  | _, _, .nil, q, hq => by simp at hq
  | _, _, .cons h t, q, hq => by
    rcases List.mem_cons.mp (show q ∈ _ :: _ from hq) with rfl | hq
    · exact h
    · exact rpa_zip t q hq
theorem rpa_of : ∀ {l : List (V × D)}, (∀ q ∈ l, Rp K H B q.2 q.1) → RpA K H B (l.map (·.2)) (l.map (·.1))
  | [], _ => .nil
  | x :: l, h => .cons (h x List.mem_cons_self) (rpa_of fun q hq => h q (List.mem_cons_of_mem _ hq))
theorem rpa_zipS {ds : List D} {us : List V} (h : RpA K H B ds us) : RpA K H B ((zipS us ds).map (·.2)) ((zipS us ds).map (·.1)) := by
  refine rpa_of fun q hq => rpa_zip h q ?_
  unfold zipS at hq
  exact (List.mergeSort_perm _ _).mem_iff.mp hq
theorem z_bt (b : Bt) {ds : List D} {vs : List V} (h : RoA K H B ds vs) (e : btD b ds = some d) (q : ∀ z H', Out K H B d z H' → Q z H') : oBt K b vs H Q := by
  unfold btD at e
  split at e
  · cases e
    obtain ⟨v, ev, h1⟩ := rpa1 h
    subst ev
    cases h1 with
    | lst r z a => exact .inl ⟨_, _, rfl, .inl (.inl r), q _ _ (.same (by simp) (by rw [a.length]; exact .int _))⟩
  · cases e
    obtain ⟨v, ev, h1⟩ := rpa1 h
    subst ev
    cases h1 with
    | tup r z a => exact .inl ⟨_, _, rfl, .inr r, q _ _ (.same (by simp) (by rw [a.length]; exact .int _))⟩
  · obtain ⟨v, ev, h1⟩ := rpa1 h
    subst ev
    split at e
    · rename_i hz
      cases e
      cases h1
      exact .inr ⟨_, _, rfl, ⟨by rw [sl_eq]; exact hz, rfl⟩, q _ _ (.same (by simp) (.int _))⟩
    · cases e
  · cases e
    obtain ⟨v, ev, h1⟩ := rpa1 h
    subst ev
    cases h1
    exact .inl (.inl ⟨_, rfl, q _ _ (.same (by simp) (.int _))⟩)
  · cases e
    obtain ⟨v, ev, h1⟩ := rpa1 h
    subst ev
    cases h1
    exact .inl (.inr ⟨_, rfl, q _ _ (.same (by simp) (.int _))⟩)
  · obtain ⟨v, ev, h1⟩ := rpa1 h
    subst ev
    split at e
    · rename_i hz
      obtain ⟨n, e1, e2⟩ := Option.map_eq_some_iff.mp e
      subst e2
      cases h1
      exact .inr ⟨_, _, rfl, e1, hz, q _ _ (.same (by simp) (.int _))⟩
    · cases e
  · obtain ⟨v, ev, h1⟩ := rpa1 h
    subst ev
    split at e
    · rename_i hz
      cases e
      cases h1
      exact ⟨_, rfl, hz, q _ _ (.same (by simp) (.str _))⟩
    · cases e
  · cases e
    obtain ⟨v, ev, h1⟩ := rpa1 h
    subst ev
    cases h1 with
    | lst r z a => exact ⟨_, _, rfl, .inl ⟨.inl r, fun l hl => q _ _ (.tup hl z a)⟩⟩
  · cases e
    obtain ⟨v, ev, h1⟩ := rpa1 h
    subst ev
    cases h1 with
    | tup r z a => exact ⟨_, _, rfl, .inr ⟨r, q _ _ (.same (by simp) (.tup r z a))⟩⟩
  · cases e
    obtain ⟨v, ev, h1⟩ := rpa1 h
    subst ev
    cases h1 with
    | lst r z a => exact ⟨_, _, rfl, .inl (.inl r), fun l hl => q _ _ (.lst hl z a)⟩
  · cases e
    obtain ⟨v, ev, h1⟩ := rpa1 h
    subst ev
    cases h1 with
    | tup r z a => exact ⟨_, _, rfl, .inr r, fun l hl => q _ _ (.lst hl z a)⟩
  · obtain ⟨v, ev, h1⟩ := rpa1 h
    subst ev
    split at e
    · rename_i is e1
      cases e
      cases h1 with
      | lst r z a =>
        obtain ⟨v1, v2⟩ := a.toInts e1
        subst v1
        refine .inl (.inl ⟨_, is, rfl, .inl r, fun ns' p hp hs hn => q _ _ ?_⟩)
        rw [sortI_one hp hs]
        refine .lst hn ?_ (RpA.ofInts _)
        rw [List.length_map, (sortI_perm is).length_eq]
        rw [List.length_map] at z
        exact z
    · unfold sortDt at e
      split at e
      · rename_i hab
        cases e
        rw [Bool.and_eq_true] at hab
        obtain ⟨hab, hfull⟩ := hab
        unfold alikeB at hab
        rw [Bool.and_eq_true, List.all_eq_true, List.all_eq_true] at hab
        rw [Bool.or_eq_true, List.all_eq_true] at hfull
        cases h1 with
        | @lst ad us ds r z a =>
          have hdep : ∀ l : List D, (∀ y ∈ l, y.depth ≤ 60) → PyData.depthAll l ≤ 60 := by
            intro l
            induction l with
            | nil => intro _; simp [PyData.depthAll]
            | cons y l ih =>
              intro hl
              simp only [PyData.depthAll]
              have h1 := hl y List.mem_cons_self
              have h2 := ih fun z hz => hl z (List.mem_cons_of_mem _ hz)
              omega
          have hnod := nodA_of _ fun y hy => nod_alike y (List.all_eq_true.mp (hab.1 y hy) y hy)
          refine .inl (.inr ⟨_, us, _, rfl, .inl r, RpA.dp a hnod, fun y hy y' hy' => List.all_eq_true.mp (hab.1 y hy) y' hy', ?_, hdep _ fun y hy => ?_, fun p hp => q _ _ ?_⟩)
          · rcases hfull with hfull | hfull
            · refine .inl (.inl fun y hy => ?_)
              have := hfull y hy
              unfold fullT at this
              split at this
              · exact ⟨_, _, rfl⟩
              · cases this
            · unfold headE at hfull
              split at hfull
              · rename_i tl hh
                refine .inr ⟨tl, rfl, fun y hy => ?_⟩
                have := hab.2 y (List.mem_cons_of_mem _ hy)
                rw [Bool.and_eq_true] at this
                have h3 := this.1
                unfold isTupD at h3
                split at h3
                · exact ⟨_, rfl⟩
                · cases h3
              · cases hfull
          · have := hab.2 y hy
            rw [Bool.and_eq_true, decide_eq_true_eq] at this
            exact this.2
          · rw [← zipS_snd (dpAll_len (RpA.dp a hnod))]
            refine .lst hp ?_ (rpa_zipS a)
            unfold zipS
            rw [List.length_map, List.length_mergeSort, List.length_zip]
            omega
      · cases e
  · obtain ⟨v, ev, h1⟩ := rpa1 h
    subst ev
    obtain ⟨is, e1, e2⟩ := Option.map_eq_some_iff.mp e
    cases e2
    cases h1 with
    | tup r z a =>
      obtain ⟨v1, v2⟩ := a.toInts e1
      subst v1
      refine .inr ⟨_, is, rfl, r, fun js p hp hs hn => q _ _ ?_⟩
      rw [sortI_one hp hs]
      refine .lst hn ?_ (RpA.ofInts _)
      rw [List.length_map, (sortI_perm is).length_eq]
      rw [List.length_map] at z
      exact z
  · obtain ⟨v, ev, h1⟩ := rpa1 h
    subst ev
    split at e
    · rename_i is e1
      obtain ⟨m, e3, e4⟩ := Option.map_eq_some_iff.mp e
      cases e4
      cases h1 with
      | lst r z a =>
        obtain ⟨v1, v2⟩ := a.toInts e1
        subst v1
        refine .inl (.inl ⟨_, is, rfl, .inl r, minI_mem e3, fun m' h1 h2 => ?_⟩)
        rw [minI_spec h1 h2] at e3
        cases e3
        exact q _ _ (.same (by simp) (.int _))
    · rename_i xs0 o0 hq0
      cases h1 with
      | @lst ad vs _ r z a =>
        cases xs0 with
        | nil => cases e
        | cons x ds =>
          have e3 : (if alikeB (x :: ds) = true then some (PySem.W.minD x ds) else none) = some d := e
          split at e3
          · rename_i hab
            cases e3
            unfold alikeB at hab
            rw [Bool.and_eq_true, List.all_eq_true, List.all_eq_true] at hab
            have htup : ∀ y ∈ x :: ds, isTupD y = true ∧ y.depth ≤ 60 := fun y hy => by
              have := hab.2 y hy
              rw [Bool.and_eq_true, decide_eq_true_eq] at this
              exact this
            have hdep : ∀ l : List D, (∀ y ∈ l, y.depth ≤ 60) → PyData.depthAll l ≤ 60 := by
              intro l
              induction l with
              | nil => intro _; simp [PyData.depthAll]
              | cons y l ih =>
                intro hl
                simp only [PyData.depthAll]
                have h1 := hl y List.mem_cons_self
                have h2 := ih fun z hz => hl z (List.mem_cons_of_mem _ hz)
                omega
            have hm := minD_in x ds
            refine .inl (.inr ⟨_, _, x, ds, rfl, .inl r, RpA.dp a (nodA_of _ fun y hy => nod_alike y (List.all_eq_true.mp (hab.1 y hy) y hy)), ⟨fun y hy y' hy' => List.all_eq_true.mp (hab.1 y hy) y' hy', fun y hy e => ?_⟩, hdep _ fun y hy => (htup y hy).2, fun i w hw hi => q _ _ (.same ?_ ?_)⟩)
            · have := (htup y hy).1
              rw [e] at this
              cases this
            · intro l e
              have := (htup _ hm).1
              rw [e] at this
              cases this
            · obtain ⟨w', e1, e2⟩ := a.get hi
              rw [hw] at e1
              cases e1
              exact e2
          · cases e3
  · obtain ⟨v, ev, h1⟩ := rpa1 h
    subst ev
    obtain ⟨is, e1, e2⟩ := Option.bind_eq_some_iff.mp e
    obtain ⟨m, e3, e4⟩ := Option.map_eq_some_iff.mp e2
    cases e4
    cases h1 with
    | lst r z a =>
      obtain ⟨v1, v2⟩ := a.toInts e1
      subst v1
      refine .inl ⟨_, is, rfl, .inl r, maxI_mem e3, fun m' h1 h2 => ?_⟩
      rw [maxI_spec h1 h2] at e3
      cases e3
      exact q _ _ (.same (by simp) (.int _))
  · cases e
    obtain ⟨v, w, ev, h1, h2⟩ := rpa2 h
    subst ev
    cases h1; cases h2
    exact .inr ⟨_, _, rfl, q _ _ (.same (by simp) (.int _))⟩
  · cases e
    obtain ⟨v, w, ev, h1, h2⟩ := rpa2 h
    subst ev
    cases h1; cases h2
    exact .inr ⟨_, _, rfl, q _ _ (.same (by simp) (.int _))⟩
  · obtain ⟨v, ev, h1⟩ := rpa1 h
    subst ev
    obtain ⟨is, e1, e2⟩ := Option.bind_eq_some_iff.mp e
    cases e2
    cases h1 with
    | lst r z a =>
      obtain ⟨v1, v2⟩ := a.toInts e1
      subst v1
      exact .inl ⟨_, is, rfl, .inl r, q _ _ (.same (by simp) (.int _))⟩
  · obtain ⟨v, ev, h1⟩ := rpa1 h
    subst ev
    obtain ⟨is, e1, e2⟩ := Option.bind_eq_some_iff.mp e
    cases e2
    cases h1 with
    | tup r z a =>
      obtain ⟨v1, v2⟩ := a.toInts e1
      subst v1
      exact .inr ⟨_, is, rfl, r, q _ _ (.same (by simp) (.int _))⟩
  · obtain ⟨v, ev, h1⟩ := rpa1 h
    subst ev
    obtain ⟨bs, e1, e2⟩ := Option.map_eq_some_iff.mp e
    cases e2
    cases h1 with
    | lst r z a =>
      have v1 := a.toBools e1
      subst v1
      exact ⟨_, bs, rfl, .inl r, q _ _ (.same (by simp) (.bl _))⟩
  · obtain ⟨v, ev, h1⟩ := rpa1 h
    subst ev
    unfold reprD at e
    split at e
    · rename_i hc
      cases e
      unfold isDctD at hc
      split at hc
      · cases h1 with
        | dct ha => exact .inr ⟨_, rfl, ha, q _ _ (.same (by simp) (.str _))⟩
      · cases hc
    split at e
    · rename_i hc
      cases e
      exact .inl ⟨_, _, rfl, h1.dp (nod_has _ hc.2.1), hc.1, hc.2.1, hc.2.2.1, by rw [sl_eq]; exact hc.2.2.2, q _ _ (.same (by simp) (.str _))⟩
    · cases e
  · split at e
    · rename_i hc
      cases e
      obtain ⟨v, w, ev, h1, h2⟩ := rpa2 h
      subst ev
      cases h1; cases h2
      exact ⟨_, _, rfl, hc, fun p hp => q _ _ (.tup hp (show 2 ≤ sizeLine by decide) (.cons (.int _) (.cons (.int _) .nil)))⟩
    · cases e
  · cases e
def NewV (K : PySem.W.Frag) (H : Hp) (B : Addr → Prop) (d : D) (z : V) (H' : Hp) : Prop :=
  Grw H H' ∧ Rp K H' B d z ∧ ∀ xs, d = .list xs → ∃ p us, z = .ref p ∧ H p = none ∧ H' p = some (.lst us) ∧ us.length ≤ sizeLine ∧ RpA K H' (fun a => B a ∨ a = p) xs us
theorem Out.newV {z : V} {H' : Hp} (l : Lsts B H) (o : Out K H B d z H') : NewV K H B d z H' := by
  refine ⟨o.grw, o.rp l, fun xs e => ?_⟩
  subst e
  cases o with
  | same n _ => exact absurd rfl (n xs)
  | lst h z a => exact ⟨_, _, rfl, h, upd_same, z, a.mono (O := fun _ => False) (Grw.new h).fr (fun _ z => z.elim) (fun _ z => z.elim) fun x b => b.imp id fun (e : x = _) => Nw.of (by rw [e]; exact h)⟩
theorem seq_of {x : D} {xs : List D} {v : V} (h : Ro K H B x v) (e : seqD x = some xs) : ∃ a vs, v = .ref a ∧ (SqL K H a vs ∨ SqT K H a vs) ∧ vs.length ≤ sizeLine ∧ RpA K H B xs vs := by
  cases h with
  | lst r z a => cases e; exact ⟨_, _, rfl, .inl (.inl r), z, a⟩
  | tup r z a => cases e; exact ⟨_, _, rfl, .inr r, z, a⟩
  | _ => cases e
theorem z_sset {w : World} {x : D} {v : V} (l : Lsts B H) (h : Ro K H B x v) (e : ssetD x = some d) (q : ∀ z H', NewV K H B d z H' → Q z H') : oSet K w [v] H fun z H1 => rSortedSet w [z] H1 Q := by
  obtain ⟨xs, e1, e2⟩ := Option.bind_eq_some_iff.mp e
  obtain ⟨is, e3, e4⟩ := Option.bind_eq_some_iff.mp e2
  split at e4
  · rename_i hc
    cases e4
    obtain ⟨a, vs, rfl, hs, z, ra⟩ := seq_of h e1
    obtain ⟨v1, _⟩ := ra.toInts e3
    subst v1
    refine ⟨a, is, rfl, hs, hc.1, fun p hp => ⟨p, _, _, rfl, upd_same, hc.2, fun ns p2 h1 h2 h3 hp2 => ?_⟩⟩
    have en : ns = sortU is := rising_one h1 (sortU_lt is) fun k => by rw [h2, sortU_mem, decide_eq_true_eq]
    subst en
    have ne : p2 ≠ p := fun z => by rw [z, upd_same] at hp2; cases hp2
    have hp2' : H p2 = none := by rw [upd_ne ne] at hp2; exact hp2
    have g : Grw H (upd (upd H p (SetO w p (fun j => decide (j ∈ is)) (sortU is).length)) p2 (.lst ((sortU is).map V.int))) := (Grw.new hp).trans (Grw.new hp2)
    have len : ((sortU is).map V.int).length ≤ sizeLine := by rw [List.length_map]; exact small64 hc.2
    refine q _ _ ⟨g, .lst (.inl upd_same) (l.not_new hp2') len (RpA.ofInts _), fun xs e => ?_⟩
    cases e
    exact ⟨p2, _, rfl, hp2', upd_same, len, RpA.ofInts _⟩
  · cases e4
/-- len(s) of a set of ints -/
def oLenS (w : World) : List V → Hp → VK → Prop := fun vs H Q => ∃ (a : Addr) (S : Int → Bool) (n : Nat), vs = [V.ref a] ∧ H a = some (SetO w a S n) ∧ Q (.int n) H
theorem o_lenS {X : Cx} : CallR X (.builtin "len") (oLenS X.w) := by
  intro pins s σ H vs us Q I r h
  obtain ⟨a, S, n, rfl, ha, q⟩ := h
  have R := setO_get I ha
  rw [Vals.ref1 r]
  obtain ⟨o, es, ep, t, ho, hex, hd, g, nd, hm, hb, hf, hn, hr, hl⟩ := R
  exact call_len_set ho hex hd hf (by unfold scanBound at hb; omega) ⟨.int n, H, I.tok _, ⟨_, by rw [hn]⟩, q⟩
theorem z_lset {w : World} {x : D} {v : V} (h : Ro K H B x v) (e : lsetD x = some d) (q : ∀ z H', Grw H H' → Rp K H' B d z → (∀ xs, d ≠ .list xs) → Q z H') : oSet K w [v] H fun z H1 => oLenS w [z] H1 Q := by
  obtain ⟨xs, e1, e2⟩ := Option.bind_eq_some_iff.mp e
  obtain ⟨is, e3, e4⟩ := Option.bind_eq_some_iff.mp e2
  split at e4
  · rename_i hc
    cases e4
    obtain ⟨a, vs, rfl, hs, z, ra⟩ := seq_of h e1
    obtain ⟨v1, _⟩ := ra.toInts e3
    subst v1
    exact ⟨a, is, rfl, hs, hc, fun p hp => ⟨p, _, _, rfl, upd_same, q _ _ (Grw.new hp) (.int _) (by simp)⟩⟩
  · cases e4
end
end Tw

set_option Elab.async false
set_option linter.all false
set_option maxRecDepth 100000
set_option maxHeartbeats 1000000
namespace Tw
open PySem PySem.Spec PyProof.Rows L2

/-- the written part, the lists that may not be touched, what is wanted of an exception (none: there is none), what an exception is -/
structure Gv where
  K : PySem.W.Frag
  B0 : Addr → Prop
  W : Option WX
  XO : Exc → Value → Option Addr → Hp → Prop
def zX (G : Gv) (σ : L2.St) (ρ : Rho) (H : Hp) (x : Exc) (ρ' : Rho) : Prop :=
  match G.W with
  | none => False
  | some w => ∀ c dd H', Rl G.K G.B0 ρ' σ H' → G.XO x c dd H' → Stp ρ H ρ' H' σ → w c dd σ H'
def post {α : Type} (G : Gv) (σ : L2.St) (ρ : Rho) (H : Hp) (P : α → Rho → Hp → Prop) : Res α → Prop
  | .ok a ρ' => ∀ H', Rl G.K G.B0 ρ' σ H' → Stp ρ H ρ' H' σ → P a ρ' H'
  | .exc x ρ' => zX G σ ρ H x ρ'
  | .stuck => False
section
variable {G : Gv} {σ : L2.St} {ρ ρ1 : Rho} {H H1 : Hp} {α β : Type} {P P' : α → Rho → Hp → Prop} {R : β → Rho → Hp → Prop}
theorem zX.step {x : Exc} {ρ' : Rho} (h : zX G σ ρ H x ρ') (s : Stp ρ H ρ1 H1 σ) : zX G σ ρ1 H1 x ρ' := by
  unfold zX at h ⊢
  cases e : G.W with
  | none => rw [e] at h; exact h
  | some w =>
    rw [e] at h
    exact fun c dd H' r o s' => h c dd H' r o (s.trans s')
theorem post.step {r : Res α} (h : post G σ ρ H P r) (s : Stp ρ H ρ1 H1 σ) : post G σ ρ1 H1 P r := by
  cases r with
  | ok a ρ' => exact fun H' r s' => h H' r (s.trans s')
  | exc x ρ' => exact zX.step h s
  | stuck => exact h
theorem post.imp {r : Res α} (h : post G σ ρ H P r) (f : ∀ a ρ' H', Rl G.K G.B0 ρ' σ H' → Stp ρ H ρ' H' σ → P a ρ' H' → P' a ρ' H') : post G σ ρ H P' r := by
  cases r with
  | ok a ρ' => exact fun H' r s => f a ρ' H' r s (h H' r s)
  | exc x ρ' => exact h
  | stuck => exact h
theorem post.bind {r : Res α} {f : α → Rho → Res β} (h : post G σ ρ H R (r.bind f)) : post G σ ρ H (fun a ρ1 H1 => post G σ ρ1 H1 R (f a ρ1)) r := by
  cases r with
  | ok a ρ1 => exact fun H1 _ s => post.step (show post G σ ρ H R (f a ρ1) from h) s
  | exc x ρ' => exact h
  | stuck => exact h
theorem post.opt {o : Option α} (h : post G σ ρ H P (.opt o ρ)) (r : Rl G.K G.B0 ρ σ H) : ∃ a, o = some a ∧ P a ρ H ∧ ∀ H', Grw H H' → P a ρ H' := by
  cases o with
  | none => exact h.elim
  | some a => exact ⟨a, rfl, h H r Stp.refl, fun H' g => h H' (r.grw g) (Stp.grw g)⟩
theorem post.ok {a : α} (h : post G σ ρ H P (.ok a ρ)) (r : Rl G.K G.B0 ρ σ H) : P a ρ H ∧ ∀ H', Grw H H' → P a ρ H' := ⟨h H r Stp.refl, fun H' g => h H' (r.grw g) (Stp.grw g)⟩
end

abbrev Gv.B (G : Gv) (ρ : Rho) (σ : L2.St) : Addr → Prop := Bs G.B0 ρ σ
def tM (G : Gv) (m : Rho → Res D) : TE := fun σ H Q => ∃ ρ, Rl G.K G.B0 ρ σ H ∧ post G σ ρ H (fun d ρ' H' => ∀ v, Rp G.K H' (G.B ρ' σ) d v → Q v H') (m ρ)
def tMb (G : Gv) (m : Rho → Res Bool) : TT := fun σ H Q => ∃ ρ, Rl G.K G.B0 ρ σ H ∧ post G σ ρ H (fun b _ H' => Q b H') (m ρ)
def tMs (G : Gv) (m : Rho → Res (List D)) : TA := fun σ H Q => ∃ ρ, Rl G.K G.B0 ρ σ H ∧ post G σ ρ H (fun ds ρ' H' => ∀ vs, RpA G.K H' (G.B ρ' σ) ds vs → Q vs H') (m ρ)
/-- an operand -/
def PR (G : Gv) (ρ : Rho) (σ : L2.St) (H : Hp) : PArg → V → Prop
  | .val d, v => Rp G.K H (G.B ρ σ) d v
  | .slot i, v => σ[i]? = some (some v)
inductive PRA (G : Gv) (ρ : Rho) (σ : L2.St) (H : Hp) : List PArg → List V → Prop
  | nil : PRA G ρ σ H [] []
  | cons {p : PArg} {v : V} {ps : List PArg} {vs : List V} : PR G ρ σ H p v → PRA G ρ σ H ps vs → PRA G ρ σ H (p :: ps) (v :: vs)
def tMq (G : Gv) (m : Rho → Res PArg) : TE := fun σ H Q => ∃ ρ, Rl G.K G.B0 ρ σ H ∧ post G σ ρ H (fun p ρ' H' => ∀ v, PR G ρ' σ H' p v → Q v H') (m ρ)
def tMqs (G : Gv) (m : Rho → Res (List PArg)) : TA := fun σ H Q => ∃ ρ, Rl G.K G.B0 ρ σ H ∧ post G σ ρ H (fun ps ρ' H' => ∀ vs, PRA G ρ' σ H' ps vs → Q vs H') (m ρ)

section
variable {K : PySem.W.Frag} {B0 : Addr → Prop} {G : Gv} {σ : L2.St} {ρ ρ' : Rho} {H H' : Hp}
theorem get_set_self {ρ : Rho} {i : Nat} {e x : Option Ent} (h : ρ[i]? = some x) : (ρ.set i e)[i]? = some e := by
  rw [List.getElem?_set_self (List.getElem?_eq_some_iff.mp h).1]
/-- a list of one's own becomes data -/
theorem own_dat {i : Nat} {xs : List D} (r : Rl K B0 ρ σ H) (h : ρ[i]? = some (some (.own xs))) :
    Rl K B0 (ρ.set i (some (.dat (.list xs)))) σ H ∧ Stp ρ H (ρ.set i (some (.dat (.list xs)))) H σ ∧ ∃ a, σ[i]? = some (some (.ref a)) ∧ Rp K H (Bs B0 (ρ.set i (some (.dat (.list xs)))) σ) (.list xs) (.ref a) := by
  have he : (ρ.set i (some (.dat (.list xs))))[i]? = some (some (.dat (.list xs))) := get_set_self h
  have hm : ∀ j ys, mutAt (ρ.set i (some (.dat (.list xs)))) j ys → j ≠ i ∧ mutAt ρ j ys := fun j ys m => by
    by_cases e : i = j
    · subst e
      rcases m with m | m <;> (rw [he] at m; cases m)
    · unfold mutAt at m ⊢
      rw [List.getElem?_set_ne e] at m
      exact ⟨fun z => e z.symm, m⟩
  have ow : ∀ a, Own (ρ.set i (some (.dat (.list xs)))) σ a → Own ρ σ a := fun a ⟨j, ys, m, e⟩ => ⟨j, ys, (hm j ys m).2, e⟩
  have bs : ∀ a, Bs B0 (ρ.set i (some (.dat (.list xs)))) σ a → Bs B0 ρ σ a := fun a z => z.imp id (ow a)
  obtain ⟨a, vs, e1, e2, z, ha, nb⟩ := r.mu i xs (.inl h)
  have rp : Rp K H (Bs B0 (ρ.set i (some (.dat (.list xs)))) σ) (.list xs) (.ref a) := by
    refine .lst (.inl e2) (fun b => ?_) z (ha.less bs)
    rcases b with b | ⟨j, ys, m, e⟩
    · exact nb b
    · obtain ⟨ne, m⟩ := hm j ys m
      exact ne (r.inj j i ys xs a m (.inl h) e e1)
  refine ⟨⟨by rw [List.length_set]; exact r.len, fun j d e => ?_, fun j ys m => ?_, fun j k ys zs b m1 m2 => r.inj j k ys zs b (hm j ys m1).2 (hm k zs m2).2, r.amb, r.tab⟩, ⟨Fr.refl, ow, fun j => ?_⟩, a, e1, rp⟩
  · by_cases q : i = j
    · subst q
      rw [he] at e
      cases e
      exact ⟨_, e1, rp⟩
    · rw [List.getElem?_set_ne q] at e
      obtain ⟨v, e3, h3⟩ := r.dat j d e
      exact ⟨v, e3, h3.less bs⟩
  · obtain ⟨b, ws, e3, e4, z4, h4, n4⟩ := r.mu j ys (hm j ys m).2
    exact ⟨b, ws, e3, e4, z4, h4.less bs, n4⟩
  · by_cases q : i = j
    · subst q; rw [he, h]; rfl
    · rw [List.getElem?_set_ne q]
theorem rd_ok {i : Nat} {d : D} (r : Rl K B0 ρ σ H) (h : rd ρ i = .ok d ρ') : Rl K B0 ρ' σ H ∧ Stp ρ H ρ' H σ ∧ ∃ v, σ[i]? = some (some v) ∧ Rp K H (Bs B0 ρ' σ) d v := by
  unfold rd at h
  split at h
  · rename_i d' e
    cases h
    obtain ⟨v, e1, e2⟩ := r.dat i d e
    exact ⟨r, Stp.refl, v, e1, e2⟩
  · rename_i xs e
    cases h
    obtain ⟨a, b, v, c, f⟩ := own_dat r e
    exact ⟨a, b, _, c, f⟩
  · cases h
theorem rd_exc {i : Nat} {x : Exc} : rd ρ i ≠ .exc x ρ' := fun h => by
  unfold rd at h
  split at h <;> cases h
theorem pk_ok {i : Nat} {d : D} (r : Rl K B0 ρ σ H) (h : pk ρ i = some d) : ∃ v, σ[i]? = some (some v) ∧ Ro K H (Bs B0 ρ σ) d v := by
  unfold pk at h
  split at h
  · rename_i d' e
    cases h
    obtain ⟨v, e1, e2⟩ := r.dat i d e
    exact ⟨v, e1, e2.ro⟩
  · rename_i xs e
    cases h
    obtain ⟨a, vs, e1, e2, z, ha, nb⟩ := r.mu i xs (.inl e)
    exact ⟨_, e1, .lst (.inl e2) z ha⟩
  · rename_i xs e
    cases h
    obtain ⟨a, vs, e1, e2, z, ha, nb⟩ := r.mu i xs (.inr e)
    exact ⟨_, e1, .lst (.inl e2) z ha⟩
  · cases h
theorem look_ok {p : PArg} {d : D} {v : V} (r : Rl G.K G.B0 ρ σ H) (h : look ρ p = some d) (q : PR G ρ σ H p v) : Ro G.K H (G.B ρ σ) d v := by
  cases p with
  | val d' => cases h; exact Rp.ro q
  | slot i =>
    obtain ⟨w, e1, e2⟩ := pk_ok r h
    have q' : σ[i]? = some (some v) := q
    rw [q'] at e1
    cases e1
    exact e2
theorem looks_ok : ∀ {ps : List PArg} {ds : List D} {vs : List V}, Rl G.K G.B0 ρ σ H → looks ρ ps = some ds → PRA G ρ σ H ps vs → RoA G.K H (G.B ρ σ) ds vs
  | [], ds, vs, r, h, q => by cases h; cases q; exact .nil
  | p :: ps, ds, vs, r, h, q => by
    have h' : ((look ρ p).bind fun d => (looks ρ ps).map (d :: ·)) = some ds := h
    obtain ⟨d, e1, e2⟩ := Option.bind_eq_some_iff.mp h'
    obtain ⟨es, e3, e4⟩ := Option.map_eq_some_iff.mp e2
    subst e4
    cases q with
    | cons q1 q2 => exact .cons (look_ok r e1 q1) (looks_ok r e3 q2)
theorem PR.step {p : PArg} {v : V} (r : Rl G.K G.B0 ρ σ H) (s : Stp ρ H ρ' H' σ) (h : PR G ρ σ H p v) : PR G ρ' σ H' p v := by
  cases p with
  | val d => exact r.keep s h
  | slot i => exact h
theorem PRA.step : ∀ {ps : List PArg} {vs : List V}, Rl G.K G.B0 ρ σ H → Stp ρ H ρ' H' σ → PRA G ρ σ H ps vs → PRA G ρ' σ H' ps vs
  | _, _, _, _, .nil => .nil
  | _, _, r, s, .cons h t => .cons (h.step r s) (t.step r s)
end
end Tw

set_option Elab.async false
set_option linter.all false
set_option maxRecDepth 100000
set_option maxHeartbeats 1000000
namespace Tw
open PySem PySem.Spec PyProof.Rows L2
section
variable {X : Cx} {G : Gv} {e a b : Expr} {pos : Pos}
theorem wkE {t t' : TE} (h : PE X e t) (f : ∀ σ H Q, t' σ H Q → t σ H Q) : PE X e t' := ⟨fun pins s σ H Q I q => h.run pins s σ H Q I (f σ H Q q)⟩
theorem wkT {t t' : TT} (h : PT X e t) (f : ∀ σ H Q, t' σ H Q → t σ H Q) : PT X e t' := ⟨fun pins s σ H Q I q => h.run pins s σ H Q I (f σ H Q q)⟩
theorem wkA {es : List Expr} {t t' : TA} (h : PA X es t) (f : ∀ σ H Q, t' σ H Q → t σ H Q) : PA X es t' := ⟨fun pos pins s σ H Q I q => h.run pos pins s σ H Q I (f σ H Q q)⟩
theorem wkK {ks : List Keyword} {t t' : TA} (h : PK X ks t) (f : ∀ σ H Q, t' σ H Q → t σ H Q) : PK X ks t' := ⟨fun pos pins s σ H Q I q => h.run pos pins s σ H Q I (f σ H Q q)⟩
theorem wkI {tg : Expr} {t t' : TI} (h : PI X tg e t) (f : ∀ σ H Q, t' σ H Q → t σ H Q) : PI X tg e t' := ⟨fun pins s σ H Q I q => h.run pins s σ H Q I (f σ H Q q)⟩
theorem wkO {o : Option Expr} {t t' : TO} (h : PO X o t) (f : ∀ σ H Q, t' σ H Q → t σ H Q) : PO X o t' := ⟨fun pins s σ H Q I q => h.run pins s σ H Q I (f σ H Q q)⟩

theorem Res.bind_assoc {α β γ : Type} (r : Res α) (f : α → Rho → Res β) (g : β → Rho → Res γ) : (r.bind f).bind g = r.bind fun a ρ => (f a ρ).bind g := by
  cases r <;> rfl
theorem m_con {d : D} {v : V} (h : PE X e (tC v)) (hv : ∀ H B, Rp G.K H B d v) : PE X e (tM G fun ρ => .ok d ρ) := wkE h fun σ H Q ⟨ρ, r, q⟩ => q H r Stp.refl v (hv _ _)
theorem m_var {i : Nat} (h : PE X e (tVar i)) : PE X e (tM G fun ρ => rd ρ i) := wkE h fun σ H Q ⟨ρ, r, q⟩ => by
  dsimp only at q
  cases e : rd ρ i with
  | stuck => rw [e] at q; exact q.elim
  | exc x ρ' => exact absurd e rd_exc
  | ok d ρ' =>
    rw [e] at q
    obtain ⟨r', s, v, e1, rp⟩ := rd_ok r e
    exact ⟨v, e1, q H r' s v rp⟩
/-- an operand -/
theorem q_of {ce : CE} {m : Rho → Res D} (h : PE X e (tM G m)) (hv : ∀ i, ce = .var i → PE X e (tVar i)) : PE X e (tMq G (pq ce m)) := by
  by_cases hc : ∃ i, ce = .var i
  · obtain ⟨i, rfl⟩ := hc
    refine wkE (hv i rfl) fun σ H Q ⟨ρ, r, q⟩ => ?_
    have q' : post G σ ρ H _ (match pk ρ i with | some _ => Res.ok (PArg.slot i) ρ | none => .stuck) := q
    cases e1 : pk ρ i with
    | none => rw [e1] at q'; exact q'.elim
    | some d =>
      rw [e1] at q'
      obtain ⟨v, e2, _⟩ := pk_ok r e1
      exact ⟨v, e2, q' H r Stp.refl v e2⟩
  · refine wkE h fun σ H Q ⟨ρ, r, q⟩ => ⟨ρ, r, ?_⟩
    have e1 : pq ce m ρ = (m ρ).bind fun d ρ1 => .ok (.val d) ρ1 := by
      unfold pq
      split
      · exact absurd ⟨_, rfl⟩ hc
      · rfl
    rw [e1] at q
    exact q.bind.imp fun d ρ' H' r' _ h' v rp => (h'.ok r').1 v rp

theorem r_bin {r : R2} {f : D → D → Option D} {ma mb : Rho → Res D} (z : Rz2 G.K r f) (σ : L2.St) (H : Hp) (Q : VK)
    (h : tM G (fun ρ => (ma ρ).bind fun x ρ1 => (mb ρ1).bind fun y ρ2 => .opt (f x y) ρ2) σ H Q) : tOp r (tM G ma) (tM G mb) σ H Q := by
  obtain ⟨ρ, r0, q⟩ := h
  refine ⟨ρ, r0, q.bind.imp fun x ρ1 H1 r1 s1 h1 v rp1 => ⟨ρ1, r1, h1.bind.imp fun y ρ2 H2 r2 s2 h2 w rp2 => ?_⟩⟩
  obtain ⟨d, e, _, hq⟩ := h2.opt r2
  exact z H2 _ x y d v w Q r2.bs_lst (r1.keep s2 rp1) rp2 e fun z H' o => hq H' o.grw z (o.rp r2.bs_lst)
theorem r_un {r : V → Hp → VK → Prop} {f : D → Rho → Res D} {ma : Rho → Res D} (z : ∀ σ ρ H x v Q, Rl G.K G.B0 ρ σ H → Rp G.K H (G.B ρ σ) x v → post G σ ρ H (fun d ρ' H' => ∀ v, Rp G.K H' (G.B ρ' σ) d v → Q v H') (f x ρ) → r v H Q) (σ : L2.St) (H : Hp) (Q : VK)
    (h : tM G (fun ρ => (ma ρ).bind f) σ H Q) : tUn r (tM G ma) σ H Q := by
  obtain ⟨ρ, r0, q⟩ := h
  exact ⟨ρ, r0, q.bind.imp fun x ρ1 H1 r1 _ h1 v rp1 => z σ ρ1 H1 x v Q r1 rp1 h1⟩
/-- comparisons -/
theorem r_cmpG {o : COp} {ma mb : Rho → Res PArg} (σ : L2.St) (H : Hp) (Q : VK)
    (h : ∃ ρ, Rl G.K G.B0 ρ σ H ∧ post G σ ρ H (fun d _ H' => ∀ k, d = PyData.bool k → Q (.bl k) H') ((ma ρ).bind fun p ρ1 => (mb ρ1).bind fun q ρ2 => .opt ((look ρ2 p).bind fun x => (look ρ2 q).bind fun y => (cmpD o x y).map .bool) ρ2)) : tOp (oCmp G.K o) (tMq G ma) (tMq G mb) σ H Q := by
  obtain ⟨ρ, r0, q⟩ := h
  refine ⟨ρ, r0, q.bind.imp fun x ρ1 H1 r1 s1 h1 v p1 => ⟨ρ1, r1, h1.bind.imp fun y ρ2 H2 r2 s2 h2 w p2 => ?_⟩⟩
  obtain ⟨d, e, hq, _⟩ := h2.opt r2
  obtain ⟨x', e1, e⟩ := Option.bind_eq_some_iff.mp e
  obtain ⟨y', e2, e⟩ := Option.bind_eq_some_iff.mp e
  obtain ⟨k, e3, e4⟩ := Option.map_eq_some_iff.mp e
  subst e4
  exact z_cmp o H2 _ x' y' k v w Q (look_ok r2 e1 (p1.step r1 s2)) (look_ok r2 e2 p2) e3 (hq k rfl)
/-- from a value's reading to a truth's -/
theorem val_bool {m : Rho → Res D} {σ : L2.St} {H : Hp} {Q : VK} (h : tM G m σ H Q) : ∃ ρ, Rl G.K G.B0 ρ σ H ∧ post G σ ρ H (fun d _ H' => ∀ k, d = PyData.bool k → Q (.bl k) H') (m ρ) := by
  obtain ⟨ρ, r, q⟩ := h
  exact ⟨ρ, r, q.imp fun d ρ' H' _ _ h k e => by subst e; exact h _ (.bl k)⟩
theorem test_bool {m : Rho → Res D} {σ : L2.St} {H : Hp} {Q : Bool → Hp → Prop} (h : tMb G (fun ρ => (m ρ).bind truR) σ H Q) : ∃ ρ, Rl G.K G.B0 ρ σ H ∧ post G σ ρ H (fun d _ H' => ∀ k, d = PyData.bool k → (fun x H' => ∃ k, x = V.bl k ∧ Q k H') (.bl k) H') (m ρ) := by
  obtain ⟨ρ, r, q⟩ := h
  exact ⟨ρ, r, q.bind.imp fun d ρ' H' r' _ h k e => by
    subst e
    exact ⟨k, rfl, (post.ok (a := k) h r').1⟩⟩
theorem m_cmp {o : COp} {op : CmpOp} {ma mb : Rho → Res PArg} (hu : X.A.units + 65 < cLine) (eK : X.K = G.K) (eo : op = cmpOp o) (ha : PE X a (tMq G ma)) (hb : PE X b (tMq G mb)) (hm : behindInMarks op b = false) :
    let m := fun ρ => (ma ρ).bind fun p ρ1 => (mb ρ1).bind fun q ρ2 => Res.opt ((look ρ2 p).bind fun x => (look ρ2 q).bind fun y => (cmpD o x y).map PyData.bool) ρ2
    PE X (.Compare a [op] [b] pos) (tM G m) ∧ PT X (.Compare a [op] [b] pos) (tMb G fun ρ => (m ρ).bind truR) := by
  subst eo
  have oc := o_cmp (X := X) hu o
  rw [eK] at oc
  exact ⟨wkE (pe_cmpR oc ha hb hm) fun σ H Q h => r_cmpG σ H Q (val_bool h), wkT (pt_cmpR oc ha hb hm) fun σ H Q h => r_cmpG σ H _ (test_bool h)⟩
/-- chains -/
theorem r_chain {o p : COp} {ma mb mc : Rho → Res D} (σ : L2.St) (H : Hp) (Q : VK)
    (h : ∃ ρ, Rl G.K G.B0 ρ σ H ∧ post G σ ρ H (fun d _ H' => ∀ k, d = PyData.bool k → Q (.bl k) H') ((ma ρ).bind fun x ρ1 => (mb ρ1).bind fun y ρ2 => (Res.opt (cmpD o x y) ρ2).bind fun t ρ3 =>
      if t = true then (mc ρ3).bind fun z ρ4 => .opt ((cmpD p y z).map .bool) ρ4 else .ok (.bool false) ρ3)) : tChain (oCmp G.K o) (oCmp G.K p) (tM G ma) (tM G mb) (tM G mc) σ H Q := by
  obtain ⟨ρ, r0, q⟩ := h
  refine ⟨ρ, r0, q.bind.imp fun x ρ1 H1 r1 s1 h1 v p1 => ⟨ρ1, r1, h1.bind.imp fun y ρ2 H2 r2 s2 h2 w p2 => ?_⟩⟩
  obtain ⟨t, e, hq, _⟩ := h2.bind.opt r2
  refine z_cmp o H2 _ x y t v w _ (r1.keep s2 p1).ro p2.ro e ⟨t, rfl, ?_⟩
  cases t with
  | true =>
    rw [if_pos rfl] at hq ⊢
    refine ⟨ρ2, r2, hq.bind.imp fun z ρ3 H3 r3 s3 h3 u p3 => ?_⟩
    obtain ⟨d, e2, hq2, _⟩ := h3.opt r3
    obtain ⟨k, e3, e4⟩ := Option.map_eq_some_iff.mp e2
    subst e4
    exact z_cmp p H3 _ y z k w u Q (r2.keep s3 p2).ro p3.ro e3 (hq2 k rfl)
  | false =>
    rw [if_neg Bool.false_ne_true] at hq ⊢
    exact (post.ok hq r2).1 false rfl
theorem m_chain {o p : COp} {op op' : CmpOp} {c : Expr} {ma mb mc : Rho → Res D} (hu : X.A.units + 65 < cLine) (eK : X.K = G.K) (eo : op = cmpOp o) (ep : op' = cmpOp p) (ha : PE X a (tM G ma)) (hb : PE X b (tM G mb)) (hc : PE X c (tM G mc)) (hm : lastMarks [op, op'] [b, c] = false) :
    let m := fun ρ => (ma ρ).bind fun x ρ1 => (mb ρ1).bind fun y ρ2 => (Res.opt (cmpD o x y) ρ2).bind fun t ρ3 => if t = true then (mc ρ3).bind fun z ρ4 => Res.opt ((cmpD p y z).map PyData.bool) ρ4 else .ok (.bool false) ρ3
    PE X (.Compare a [op, op'] [b, c] pos) (tM G m) ∧ PT X (.Compare a [op, op'] [b, c] pos) (tMb G fun ρ => (m ρ).bind truR) := by
  subst eo ep
  have oc := o_cmp (X := X) hu o
  have oc' := o_cmp (X := X) hu p
  rw [eK] at oc oc'
  exact ⟨wkE (pe_chain oc oc' ha hb hc hm) fun σ H Q h => r_chain σ H Q (val_bool h), wkT (pt_chain oc oc' ha hb hc hm) fun σ H Q h => r_chain σ H _ (test_bool h)⟩

/-- a test by its value -/
theorem m_tru {m : Rho → Res D} (eK : X.K = G.K) (h : PE X e (tM G m)) (he : ∀ whole, isTrue e X.env whole = (do let v ← whole; standAt e.pos; holding [v] (truthy v))) : PT X e (tMb G fun ρ => (m ρ).bind truR) :=
  wkT (pt_truth h he) fun σ H Q ⟨ρ, r, q⟩ => ⟨ρ, r, q.bind.imp fun d ρ' H' r' _ h v rp => by
    obtain ⟨k, e, hq, _⟩ := h.opt r'
    rw [eK]
    exact ⟨k, z_tru rp e, hq⟩⟩
theorem m_not {m : Rho → Res D} (eK : X.K = G.K) (h : PE X a (tM G m)) (ht : PT X a (tMb G fun ρ => (m ρ).bind truR)) :
    let n := fun ρ => (m ρ).bind fun x ρ1 => (truR x ρ1).bind fun t ρ2 => Res.ok (PyData.bool (!t)) ρ2
    PE X (.UnaryOp .Not a pos) (tM G n) ∧ PT X (.UnaryOp .Not a pos) (tMb G fun ρ => (n ρ).bind truR) := by
  refine ⟨wkE (pe_notT h) fun σ H Q ⟨ρ, r, q⟩ => ⟨ρ, r, q.bind.imp fun d ρ' H' r' _ h v rp => ?_⟩, wkT (pt_not ht) fun σ H Q ⟨ρ, r, q⟩ => ⟨ρ, r, ?_⟩⟩
  · obtain ⟨k, e, hq, _⟩ := h.bind.opt r'
    rw [eK]
    exact ⟨k, z_tru rp e, (post.ok hq r').1 _ (.bl _)⟩
  · have e1 : ((m ρ).bind fun x ρ1 => (truR x ρ1).bind fun t ρ2 => Res.ok (PyData.bool (!t)) ρ2).bind truR = ((m ρ).bind truR).bind fun t ρ2 => .ok (!t) ρ2 := by
      rw [Res.bind_assoc, Res.bind_assoc]
      congr 1
      funext x ρ1
      rw [Res.bind_assoc]
      rfl
    have q' : post G σ ρ H (fun b _ H' => Q b H') (((m ρ).bind truR).bind fun t ρ2 => .ok (!t) ρ2) := by rw [← e1]; exact q
    exact q'.bind.imp fun b ρ' H' r' _ h => (post.ok h r').1
theorem m_ite {c : Expr} {mt ma mb : Rho → Res D} (hc : PT X c (tMb G fun ρ => (mt ρ).bind truR)) (ha : PE X a (tM G ma)) (hb : PE X b (tM G mb)) (ta : PT X a (tMb G fun ρ => (ma ρ).bind truR)) (tb : PT X b (tMb G fun ρ => (mb ρ).bind truR)) :
    let n := fun ρ => (mt ρ).bind fun x ρ1 => (truR x ρ1).bind fun k ρ2 => if k = true then ma ρ2 else mb ρ2
    PE X (.IfExp c a b pos) (tM G n) ∧ PT X (.IfExp c a b pos) (tMb G fun ρ => (n ρ).bind truR) := by
  refine ⟨wkE (pe_ifExp hc ha hb) fun σ H Q ⟨ρ, r, q⟩ => ⟨ρ, r, ?_⟩, ⟨fun pins s σ H Q I ⟨ρ, r, q⟩ => ?_⟩⟩
  · have q' : post G σ ρ H (fun d ρ' H' => ∀ v, Rp G.K H' (G.B ρ' σ) d v → Q v H') (((mt ρ).bind truR).bind fun k ρ2 => if k = true then ma ρ2 else mb ρ2) := by rw [Res.bind_assoc]; exact q
    exact q'.bind.imp fun k ρ' H' r' _ h => by
      cases k with
      | true => rw [if_pos rfl] at h ⊢; exact ⟨ρ', r', h⟩
      | false => rw [if_neg Bool.false_ne_true] at h ⊢; exact ⟨ρ', r', h⟩
  · have e1 : ((mt ρ).bind fun x ρ1 => (truR x ρ1).bind fun k ρ2 => if k = true then ma ρ2 else mb ρ2).bind truR = ((mt ρ).bind truR).bind fun k ρ2 => if k = true then (ma ρ2).bind truR else (mb ρ2).bind truR := by
      rw [Res.bind_assoc, Res.bind_assoc]
      congr 1
      funext x ρ1
      rw [Res.bind_assoc]
      congr 1
      funext k ρ2
      cases k <;> rfl
    have q' : post G σ ρ H (fun b _ H' => Q b H') (((mt ρ).bind truR).bind fun k ρ2 => if k = true then (ma ρ2).bind truR else (mb ρ2).bind truR) := by rw [← e1]; exact q
    refine isTrue_IfExp (thn (hc.run pins s σ H (fun k H1 => ∃ ρ1, Rl G.K G.B0 ρ1 σ H1 ∧ post G σ ρ1 H1 (fun b _ H' => Q b H') (if k = true then (ma ρ1).bind truR else (mb ρ1).bind truR)) I ⟨ρ, r, q'.bind.imp fun k ρ1 H1 r1 _ h1 => ⟨ρ1, r1, h1⟩⟩) fun k s1 ⟨H1, I1, ρ1, r1, q1⟩ => ?_)
    cases k with
    | true => exact ta.run pins s1 σ H1 Q I1 ⟨ρ1, r1, q1⟩
    | false => exact tb.run pins s1 σ H1 Q I1 ⟨ρ1, r1, q1⟩
end
end Tw

set_option Elab.async false
set_option linter.all false
set_option maxRecDepth 100000
set_option maxHeartbeats 1000000
namespace HT
open PySem PySem.Spec PySem.Calls PyProof.Rows
section
variable {prog : Program} {w : World} {A : Around} {E : Value → Shared → Prop} {s : Shared}
theorem tw_sliceBack {sl : Addr} {vl vu vs : Value} {n : Nat} {Q : Int × Int × Nat → Shared → Prop} (hs : s.heap.IsSliceOf sl vl vu vs) (pl : IsPart vl none) (pu : IsPart vu none) (ps : IsPart vs (some (-1)))
    (h : Q ((n : Int) - 1, -1, n) s) : wpAny (model prog w) A (Builtin.Slice.sliceApplied (.ref sl) (pure (n : Int))) Q E s := by
  obtain ⟨os, hos, hcs, hds⟩ := id hs
  unfold Builtin.Slice.sliceApplied Builtin.Slice.sliceFields
  refine wpAny_bind (wpAny_bind (wpAny_field hos hds (x := vl) rfl (wpAny_bind (wpAny_field hos hds (x := vu) rfl (wpAny_bind (wpAny_field hos hds (x := vs) rfl (wpAny_pure ?_)))))))
  refine wpAny_bind (slicePart_ ps ?_)
  show wpAny _ _ (if ((-1 : Int) == 0) = true then _ else _) _ _ s
  rw [if_neg (by decide)]
  refine wpAny_bind (slicePart_ pl (wpAny_bind (slicePart_ pu (wpAny_bind (wpAny_pure ?_)))))
  show wpAny _ _ (pure ((n : Int) - 1, (-1 : Int), Builtin.Slice.slicePlaces ((n : Int) - 1) (-1) (-1))) _ _ s
  have e : Builtin.Slice.slicePlaces ((n : Int) - 1) (-1) (-1) = n := by
    unfold Builtin.Slice.slicePlaces
    rw [if_neg (by decide)]
    by_cases h0 : (n : Int) - 1 > -1
    · rw [if_pos h0, show (-(-1) : Int) = 1 by decide, Int.ediv_one]; omega
    · rw [if_neg h0]; omega
  rw [e]
  exact wpAny_pure h
theorem tw_pickBack (xs : Array Value) : ((List.range xs.size).filterMap fun (m : Nat) => xs[((xs.size : Int) - 1 + (m : Int) * (-1)).toNat]?).toArray = xs.toList.reverse.toArray := by
  have cong : ∀ (l : List Nat) (f g : Nat → Option Value), (∀ x ∈ l, f x = g x) → l.filterMap f = l.filterMap g := by
    intro l f g
    induction l with
    | nil => intro _; rfl
    | cons x l ih =>
      intro h
      rw [List.filterMap_cons, List.filterMap_cons, h x List.mem_cons_self, ih fun y hy => h y (List.mem_cons_of_mem _ hy)]
  have e : (List.range xs.size).filterMap (fun (m : Nat) => xs[((xs.size : Int) - 1 + (m : Int) * (-1)).toNat]?) = ((List.range xs.size).map fun k => xs.size - 1 - k).filterMap (xs[·]?) := by
    rw [List.filterMap_map]
    refine cong _ _ _ fun m hm => ?_
    have hm := List.mem_range.mp hm
    have : ((xs.size : Int) - 1 + (m : Int) * (-1)).toNat = xs.size - 1 - m := by omega
    rw [this]; rfl
  rw [e, PySem.W.krv_range, List.filterMap_reverse, PySem.W.krv_all]
theorem tw_tupBack {t sl : Addr} {items : Array Value} {vl vu vs : Value} {Q : Value → Shared → Prop} (ht : IsTup s.heap t items) (hs : s.heap.IsSliceOf sl vl vu vs) (pl : IsPart vl none) (pu : IsPart vu none) (ps : IsPart vs (some (-1)))
    (h : Q (.ref s.heap.objs.size) { s with heap := s.heap.push { cls := .type "tuple", data := .seq items.toList.reverse.toArray } })
    (hsz : items.size ≤ sizeLine) : wpAny (model prog w) A (getItem (.ref t) (.ref sl)) Q E s := by
  have htake : sizeOk (.seq items.toList.reverse.toArray) := by
    show items.toList.reverse.toArray.size ≤ sizeLine
    rw [List.size_toArray, List.length_reverse, Array.length_toList]
    exact hsz
  obtain ⟨os, hos, hcs, hds⟩ := id hs
  have hTs : s.TypeIs (.ref sl) "slice" := ⟨os, hos, hcs⟩
  unfold getItem
  try with_reducible refine wpAny_holding ?_
  first | refine wpAny_bind (wpAny_pure ?_) | skip
  refine wpAny_bind (wpAny_sequenceKey ht.typeIs (by decide) ?_)
  refine wpAny_bind (wpAny_callSpecial?_slot (name := Str.ofString "__getitem__") ht.typeIs PyProof.Rows.slot_tuple_getitem
    (wpAny_call_entry PyProof.Rows.slot_tuple_getitem ht.typeIs entry_tuple_getitem ?_ (args_tuple_getitem _ _)))
  show wpAny _ _ (Builtin.Tuple.tupleItemsOf (.ref t) >>= _) _ _ s
  refine wpAny_bind (tupleItemsOf_ ht ?_)
  refine wpAny_bind (wpAny_typeOf hTs ?_)
  rw [if_pos (by decide)]
  refine wpAny_bind (tw_sliceBack hs pl pu ps ?_)
  have hno : ¬ ((((items.size : Int) - 1) == 0 && (-1 : Int) == 1 && items.size == items.size) = true) := by
    intro q
    rw [Bool.and_eq_true, Bool.and_eq_true] at q
    exact absurd q.1.2 (by decide)
  show wpAny _ _ (if (((items.size : Int) - 1) == 0 && (-1 : Int) == 1 && items.size == items.size) = true then _ else _) _ _ s
  rw [if_neg hno, tw_pickBack]
  first
    | exact wpAny_bind (m := Builtin.Tuple.tupleExact _) (wpAny_newObj_type (wpAny_pure ⟨_, rfl, wpAny_pure h⟩) htake)
    | exact wpAny_bind (m := Builtin.Tuple.tupleExact _) (wpAny_newObj_type (wpAny_bind (wpAny_pure (wpAny_pure ⟨_, rfl, wpAny_pure h⟩))) htake)
    | exact wpAny_bind (wpAny_bind (m := Builtin.Tuple.tupleExact _) (wpAny_newObj_type (wpAny_pure (wpAny_pure ⟨_, rfl, wpAny_pure h⟩)) htake))
    | exact wpAny_bind (wpAny_bind (m := Builtin.Tuple.tupleExact _) (wpAny_newObj_type (wpAny_pure ⟨_, rfl, wpAny_pure h⟩) htake))
end
end HT
namespace Tw
open PySem PySem.Spec PyProof.Rows L2
/-- xs[::-1], t[::-1] -/
def tRevA (K : PySem.W.Frag) (te : TE) : TE := fun σ H Q => te σ H fun x H1 => (∃ a xs, x = .ref a ∧ SqL K H1 a xs ∧ ∀ p, H1 p = none → Q (.ref p) (upd H1 p (.lst xs.reverse))) ∨ (∃ a xs, x = .ref a ∧ SqT K H1 a xs ∧ ∀ p, H1 p = none → Q (.ref p) (upd H1 p (.tup xs.reverse)))
theorem pe_revA {X : Cx} {e : Expr} {te : TE} {k : Nat} {p1 p2 p3 pos : Pos} (he : PE X e te) : PE X (.Subscript e (.Slice none none (some (.UnaryOp .USub (.Constant (.int 1) k p1) p2)) p3) pos) (tRevA X.K te) := by
  refine ⟨fun pins s σ H Q I h => ?_⟩
  refine Subscript_ (thn (he.run pins s σ H _ I h) fun v s1 ⟨x, H1, I1, r1, q1⟩ => ?_)
  have hst : PO X (some (.UnaryOp .USub (.Constant (.int 1) k p1) p2)) (tPart (tUn (rU fun i => .int (-i)) (tC (.int 1)))) := po_some (pe_un un_neg pe_int)
  refine wpAny_Slice (thn (po_none.run pins s1 σ H1 (fun o H2 => o = none ∧ H2 = H1) I1 ⟨rfl, rfl⟩) fun vl s2 ⟨l, H2, I2, pl, el, e2⟩ => ?_)
  subst el e2
  refine thn (po_none.run pins s2 σ H2 (fun o H3 => o = none ∧ H3 = H2) I2 ⟨rfl, rfl⟩) fun vu s3 ⟨u, H3, I3, pu, eu, e3⟩ => ?_
  subst eu e3
  refine thn (hst.run pins s3 σ H3 (fun o H4 => o = some (-1) ∧ H4 = H3) I3 ⟨1, rfl, -1, rfl, rfl, rfl⟩) fun vs s4 ⟨o, H4, I4, ps, eo, e4⟩ => ?_
  subst eo e4
  have I5 : Inv X pins σ H4 { s4 with heap := s4.heap.push { cls := .type "slice", data := .fields #[vl, vu, vs] } } := I4.kept (t' := s4.toks) fun b ob q => Heap.get?_push_of_some _ q
  rcases q1 with ⟨a, xs, ex, hx, q⟩ | ⟨a, xs, ex, hx, q⟩
  · subst ex
    cases r1
    obtain ⟨its, r, ht, hz⟩ := I5.list hx
    have hlen := r.length
    show wpAny (model X.prog X.w) X.A (subscriptTail e (.Slice none none (some (.UnaryOp .USub (.Constant (.int 1) k p1) p2)) p3) (.ref a) (.ref s4.heap.objs.size)) (EP X pins σ Q) X.xe { s4 with heap := s4.heap.push { cls := .type "slice", data := .fields #[vl, vu, vs] } }
    refine tail_any (ops := [.ref a, .ref s4.heap.objs.size]) ht.isList.typeIs (PySem.slot_list_getitem.lookup) ?_ (by with_unfolding_all rfl)
    refine wpAny_getItem_list_slice ht.isList (Heap.IsSliceOf.new _ vl vu vs) pl pu ps (by decide) ?_ (by rw [List.size_toArray]; omega)
    rw [PySem.W.krv_pick]
    refine ⟨.ref _, _, I5.laid (t' := s4.toks) (o := .lst xs.reverse) (fun b ob q => Heap.get?_push_of_some _ q) (Nat.le_refl _) ?_, rfl, q _ (I5.hok.fresh (Nat.le_refl _))⟩
    exact ⟨by rw [List.length_reverse]; exact hz, _, 0, r.reverse, Heap.get?_push_size _ rfl⟩
  · subst ex
    cases r1
    obtain ⟨its, r, ht, hz⟩ := I5.tuple hx
    have hlen := r.length
    show wpAny (model X.prog X.w) X.A (subscriptTail e (.Slice none none (some (.UnaryOp .USub (.Constant (.int 1) k p1) p2)) p3) (.ref a) (.ref s4.heap.objs.size)) (EP X pins σ Q) X.xe { s4 with heap := s4.heap.push { cls := .type "slice", data := .fields #[vl, vu, vs] } }
    refine tail_any (ops := [.ref a, .ref s4.heap.objs.size]) ht.typeIs (PyProof.Rows.slot_tuple_getitem.lookup) ?_ (by with_unfolding_all rfl)
    refine HT.tw_tupBack ht (Heap.IsSliceOf.new _ vl vu vs) pl pu ps ?_ (by rw [List.size_toArray]; omega)
    refine ⟨.ref _, _, I5.laid (t' := s4.toks) (o := .tup xs.reverse) (fun b ob q => Heap.get?_push_of_some _ q) (Nat.le_refl _) ?_, rfl, q _ (I5.hok.fresh (Nat.le_refl _))⟩
    exact ⟨by rw [List.length_reverse]; exact hz, _, r.reverse, IsTup.new _ _⟩
end Tw

set_option Elab.async false
set_option linter.all false
set_option maxRecDepth 100000
set_option maxHeartbeats 1000000
namespace Tw
open PySem PySem.Spec PyProof.Rows L2
section
variable {X : Cx} {G : Gv} {e a b : Expr} {pos : Pos}
theorem post.impE {α : Type} {σ : L2.St} {ρ : Rho} {H : Hp} {P P' : α → Rho → Hp → Prop} {r : Res α} (h : post G σ ρ H P r) (f : ∀ a ρ' H', r = .ok a ρ' → Rl G.K G.B0 ρ' σ H' → Stp ρ H ρ' H' σ → P a ρ' H' → P' a ρ' H') : post G σ ρ H P' r := by
  cases r with
  | ok a ρ' => exact fun H' r s => f a ρ' H' rfl r s (h H' r s)
  | exc x ρ' => exact h
  | stuck => exact h
theorem wkW {t t' : TT} (h : PW X e t) (f : ∀ σ H Q, t' σ H Q → t σ H Q) : PW X e t' := ⟨fun wh pins s σ H Q I q => h.run wh pins s σ H Q I (f σ H Q q)⟩

theorem tru_and {x : D} {ρ1 : Rho} {mr : Rho → Res D} : ((truR x ρ1).bind fun k ρ2 => (if k = true then mr ρ2 else .ok x ρ2).bind truR) = (truR x ρ1).bind fun k ρ2 => if k = true then (mr ρ2).bind truR else .ok false ρ2 := by
  unfold truR
  cases e : truB x with
  | none => rfl
  | some k =>
    cases k with
    | true => rfl
    | false =>
      show (Res.ok x ρ1).bind (fun d ρ => Res.opt (truB d) ρ) = .ok false ρ1
      rw [Res.bind_ok, e]
      rfl
theorem tru_or {x : D} {ρ1 : Rho} {mr : Rho → Res D} : ((truR x ρ1).bind fun k ρ2 => (if k = true then .ok x ρ2 else mr ρ2).bind truR) = (truR x ρ1).bind fun k ρ2 => if k = true then .ok true ρ2 else (mr ρ2).bind truR := by
  unfold truR
  cases e : truB x with
  | none => rfl
  | some k =>
    cases k with
    | false => rfl
    | true =>
      show (Res.ok x ρ1).bind (fun d ρ => Res.opt (truB d) ρ) = .ok true ρ1
      rw [Res.bind_ok, e]
      rfl
theorem m_and {rest : List Expr} {ma mr : Rho → Res D} (eK : X.K = G.K) (ha : PE X a (tM G ma)) (ta : PT X a (tMb G fun ρ => (ma ρ).bind truR)) (hr : PE X (.BoolOp .And (b :: rest) pos) (tM G mr)) (tr : PW X (.BoolOp .And (b :: rest) pos) (tMb G fun ρ => (mr ρ).bind truR)) :
    let n := fun ρ => (ma ρ).bind fun x ρ1 => (truR x ρ1).bind fun k ρ2 => if k = true then mr ρ2 else .ok x ρ2
    PE X (.BoolOp .And (a :: b :: rest) pos) (tM G n) ∧ PW X (.BoolOp .And (a :: b :: rest) pos) (tMb G fun ρ => (n ρ).bind truR) := by
  refine ⟨wkE (pe_andT ha hr) fun σ H Q ⟨ρ, r, q⟩ => ⟨ρ, r, q.bind.imp fun d ρ' H' r' _ h v rp => ?_⟩, wkW (pw_and ta tr) fun σ H Q ⟨ρ, r, q⟩ => ⟨ρ, r, ?_⟩⟩
  · obtain ⟨k, e, hq, _⟩ := h.bind.opt r'
    rw [eK]
    refine ⟨k, z_tru rp e, ?_⟩
    cases k with
    | true => rw [if_pos rfl] at hq ⊢; exact ⟨ρ', r', hq⟩
    | false => rw [if_neg Bool.false_ne_true] at hq ⊢; exact (post.ok hq r').1 v rp
  · have q' : post G σ ρ H (fun b _ H' => Q b H') (((ma ρ).bind truR).bind fun k ρ2 => if k = true then (mr ρ2).bind truR else .ok false ρ2) := by
      have q2 : post G σ ρ H (fun b _ H' => Q b H') (((ma ρ).bind fun x ρ1 => (truR x ρ1).bind fun k ρ2 => if k = true then mr ρ2 else .ok x ρ2).bind truR) := q
      simp only [Res.bind_assoc, tru_and] at q2 ⊢
      exact q2
    exact q'.bind.imp fun k ρ' H' r' _ h => by
      cases k with
      | true => rw [if_pos rfl] at h ⊢; exact ⟨ρ', r', h⟩
      | false => rw [if_neg Bool.false_ne_true] at h ⊢; exact (post.ok h r').1
theorem m_or {rest : List Expr} {ma mr : Rho → Res D} (eK : X.K = G.K) (ha : PE X a (tM G ma)) (ta : PT X a (tMb G fun ρ => (ma ρ).bind truR)) (hr : PE X (.BoolOp .Or (b :: rest) pos) (tM G mr)) (tr : PW X (.BoolOp .Or (b :: rest) pos) (tMb G fun ρ => (mr ρ).bind truR)) :
    let n := fun ρ => (ma ρ).bind fun x ρ1 => (truR x ρ1).bind fun k ρ2 => if k = true then .ok x ρ2 else mr ρ2
    PE X (.BoolOp .Or (a :: b :: rest) pos) (tM G n) ∧ PW X (.BoolOp .Or (a :: b :: rest) pos) (tMb G fun ρ => (n ρ).bind truR) := by
  refine ⟨wkE (pe_orT ha hr) fun σ H Q ⟨ρ, r, q⟩ => ⟨ρ, r, q.bind.imp fun d ρ' H' r' _ h v rp => ?_⟩, wkW (pw_or ta tr) fun σ H Q ⟨ρ, r, q⟩ => ⟨ρ, r, ?_⟩⟩
  · obtain ⟨k, e, hq, _⟩ := h.bind.opt r'
    rw [eK]
    refine ⟨k, z_tru rp e, ?_⟩
    cases k with
    | false => rw [if_neg Bool.false_ne_true] at hq ⊢; exact ⟨ρ', r', hq⟩
    | true => rw [if_pos rfl] at hq ⊢; exact (post.ok hq r').1 v rp
  · have q' : post G σ ρ H (fun b _ H' => Q b H') (((ma ρ).bind truR).bind fun k ρ2 => if k = true then .ok true ρ2 else (mr ρ2).bind truR) := by
      have q2 : post G σ ρ H (fun b _ H' => Q b H') (((ma ρ).bind fun x ρ1 => (truR x ρ1).bind fun k ρ2 => if k = true then .ok x ρ2 else mr ρ2).bind truR) := q
      simp only [Res.bind_assoc, tru_or] at q2 ⊢
      exact q2
    exact q'.bind.imp fun k ρ' H' r' _ h => by
      cases k with
      | false => rw [if_neg Bool.false_ne_true] at h ⊢; exact ⟨ρ', r', h⟩
      | true => rw [if_pos rfl] at h ⊢; exact (post.ok h r').1

theorem ms_nil : PA X [] (tMs G fun ρ => .ok [] ρ) := wkA pa_nil fun σ H Q ⟨ρ, r, q⟩ => (post.ok q r).1 [] .nil
theorem ms_cons {es : List Expr} {m : Rho → Res D} {ms : Rho → Res (List D)} (h : PE X e (tM G m)) (hs : PA X es (tMs G ms)) (hn : starEach (e :: es) X.env = (false, eval e X.env) :: starEach es X.env) :
    PA X (e :: es) (tMs G fun ρ => (m ρ).bind fun x ρ1 => (ms ρ1).bind fun xs ρ2 => .ok (x :: xs) ρ2) :=
  wkA (pa_cons h hs hn) fun σ H Q ⟨ρ, r, q⟩ => ⟨ρ, r, q.bind.imp fun x ρ1 H1 r1 _ h1 v rp => ⟨ρ1, r1, h1.bind.imp fun xs ρ2 H2 r2 s2 h2 vs rps => (post.ok h2 r2).1 _ (.cons (r1.keep s2 rp) rps)⟩⟩
theorem qs_nil : PA X [] (tMqs G fun ρ => .ok [] ρ) := wkA pa_nil fun σ H Q ⟨ρ, r, q⟩ => (post.ok q r).1 [] .nil
theorem qs_cons {es : List Expr} {m : Rho → Res PArg} {ms : Rho → Res (List PArg)} (h : PE X e (tMq G m)) (hs : PA X es (tMqs G ms)) (hn : starEach (e :: es) X.env = (false, eval e X.env) :: starEach es X.env) :
    PA X (e :: es) (tMqs G fun ρ => (m ρ).bind fun x ρ1 => (ms ρ1).bind fun xs ρ2 => .ok (x :: xs) ρ2) :=
  wkA (pa_cons h hs hn) fun σ H Q ⟨ρ, r, q⟩ => ⟨ρ, r, q.bind.imp fun x ρ1 H1 r1 _ h1 v rp => ⟨ρ1, r1, h1.bind.imp fun xs ρ2 H2 r2 s2 h2 vs rps => (post.ok h2 r2).1 _ (.cons (rp.step r1 s2) rps)⟩⟩
/-- arguments by their names -/
theorem qk_nil : PK X [] (tMqs G fun ρ => .ok [] ρ) := wkK pk_nil fun σ H Q ⟨ρ, r, q⟩ => (post.ok q r).1 [] .nil
theorem qk_cons {nm : Option Str} {kp : Pos} {ks : List Keyword} {m : Rho → Res PArg} {ms : Rho → Res (List PArg)} (h : PE X e (tMq G m)) (hs : PK X ks (tMqs G ms)) :
    PK X (⟨nm, e, kp⟩ :: ks) (tMqs G fun ρ => (m ρ).bind fun x ρ1 => (ms ρ1).bind fun xs ρ2 => .ok (x :: xs) ρ2) :=
  wkK (pk_cons h hs) fun σ H Q ⟨ρ, r, q⟩ => ⟨ρ, r, q.bind.imp fun x ρ1 H1 r1 _ h1 v rp => ⟨ρ1, r1, h1.bind.imp fun xs ρ2 H2 r2 s2 h2 vs rps => (post.ok h2 r2).1 _ (.cons (rp.step r1 s2) rps)⟩⟩
/-- a reading of what is new, too -/
def tN (G : Gv) (m : Rho → Res D) : TE := fun σ H Q => ∃ ρ, Rl G.K G.B0 ρ σ H ∧ post G σ ρ H (fun d ρ' H1 => ∀ v H', NewV G.K H1 (G.B ρ' σ) d v H' → Q v H') (m ρ)
theorem tN_tM {m : Rho → Res D} {σ : L2.St} {H : Hp} {Q : VK} (h : tM G m σ H Q) : tN G m σ H Q := by
  obtain ⟨ρ, r, q⟩ := h
  refine ⟨ρ, r, ?_⟩
  cases e : m ρ with
  | stuck => rw [e] at q; exact q
  | exc x ρ' => rw [e] at q; exact q
  | ok d ρ' =>
    rw [e] at q
    exact fun H1 r1 s1 v H' nv => q H' (r1.grw nv.1) (s1.trans (Stp.grw nv.1)) v nv.2.1
theorem n_tup {es : List Expr} {ms : Rho → Res (List D)} {k : Nat} (h : PA X es (tMs G ms)) (hz : ∀ ρ xs ρ', ms ρ = .ok xs ρ' → xs.length ≤ 1000) : PE X (.Tuple es k pos) (tN G fun ρ => (ms ρ).bind fun xs ρ1 => .ok (.tuple xs) ρ1) :=
  wkE (pe_tup h) fun σ H Q ⟨ρ, r, q⟩ => ⟨ρ, r, q.bind.impE fun xs ρ' H1 e r1 _ h1 vs rps => by
    have hl : vs.length ≤ sizeLine := Nat.le_of_lt (small1000 (by rw [← rps.length]; exact hz ρ xs ρ' e))
    exact ⟨hl, fun p hp => (post.ok h1 r1).1 _ _ ((Out.tup hp hl rps).newV r1.bs_lst)⟩⟩
theorem n_lst {es : List Expr} {ms : Rho → Res (List D)} (h : PA X es (tMs G ms)) (hz : ∀ ρ xs ρ', ms ρ = .ok xs ρ' → xs.length ≤ 1000) : PE X (.List es pos) (tN G fun ρ => (ms ρ).bind fun xs ρ1 => .ok (.list xs) ρ1) :=
  wkE (pe_lst h) fun σ H Q ⟨ρ, r, q⟩ => ⟨ρ, r, q.bind.impE fun xs ρ' H1 e r1 _ h1 vs rps => by
    have hl : vs.length ≤ sizeLine := Nat.le_of_lt (small1000 (by rw [← rps.length]; exact hz ρ xs ρ' e))
    exact ⟨hl, fun p hp => (post.ok h1 r1).1 _ _ ((Out.lst hp hl rps).newV r1.bs_lst)⟩⟩

theorem n_bin {op : Operator} {r : R2} {f : D → D → Option D} {ma mb : Rho → Res D} (ho : OpR X (binaryOp op) r) (z : Rz2 G.K r f) (ha : PE X a (tM G ma)) (hb : PE X b (tM G mb)) :
    PE X (.BinOp a op b pos) (tN G fun ρ => (ma ρ).bind fun x ρ1 => (mb ρ1).bind fun y ρ2 => .opt (f x y) ρ2) :=
  wkE (pe_op ho ha hb) fun σ H Q ⟨ρ, r0, q⟩ => ⟨ρ, r0, q.bind.imp fun x ρ1 H1 r1 s1 h1 v rp1 => ⟨ρ1, r1, h1.bind.imp fun y ρ2 H2 r2 s2 h2 w rp2 => by
    obtain ⟨d, e, hq, _⟩ := h2.opt r2
    exact z H2 _ x y d v w Q r2.bs_lst (r1.keep s2 rp1) rp2 e fun z H' o => hq z H' (o.newV r2.bs_lst)⟩⟩
theorem m_neg {ma : Rho → Res D} (ha : PE X a (tM G ma)) : PE X (.UnaryOp .USub a pos) (tM G fun ρ => (ma ρ).bind fun x ρ1 => match x with | .int i => .ok (.int (-i)) ρ1 | _ => .stuck) :=
  wkE (pe_un un_neg ha) fun σ H Q ⟨ρ, r0, q⟩ => ⟨ρ, r0, q.bind.imp fun x ρ1 H1 r1 s1 h1 v rp1 => by
    cases rp1 with
    | int i => exact ⟨i, rfl, (post.ok (a := PyData.int (-i)) h1 r1).1 _ (.int _)⟩
    | _ => exact False.elim h1⟩
theorem m_idx {ma : Rho → Res PArg} {mb : Rho → Res D} (eK : X.K = G.K) (ha : PE X a (tMq G ma)) (hb : PE X b (tM G mb)) (hs : PlainIx b) :
    PE X (.Subscript a b pos) (tM G fun ρ => (ma ρ).bind fun p ρ1 => (mb ρ1).bind fun y ρ2 => .opt ((look ρ2 p).bind fun x => idxD x y) ρ2) :=
  wkE (pe_ix ix_seq ha hb hs) fun σ H Q ⟨ρ, r0, q⟩ => ⟨ρ, r0, q.bind.imp fun p ρ1 H1 r1 s1 h1 v p1 => ⟨ρ1, r1, h1.bind.imp fun y ρ2 H2 r2 s2 h2 w p2 => by
    obtain ⟨d, e, hq, _⟩ := h2.opt r2
    obtain ⟨x, e1, e2⟩ := Option.bind_eq_some_iff.mp e
    rw [eK]
    exact z_idx (look_ok r2 e1 (p1.step r1 s2)) p2 e2 fun z rp => hq z rp⟩⟩
def tMo (G : Gv) (m : Rho → Res (Option Int)) : TO := fun σ H Q => ∃ ρ, Rl G.K G.B0 ρ σ H ∧ post G σ ρ H (fun o _ H' => Q o H') (m ρ)
theorem mo_none : PO X none (tMo G fun ρ => .ok none ρ) := wkO po_none fun σ H Q ⟨ρ, r, q⟩ => (post.ok q r).1
theorem mo_some {m : Rho → Res D} (h : PE X e (tM G m)) : PO X (some e) (tMo G fun ρ => (m ρ).bind fun x ρ1 => match x with | .int i => .ok (some i) ρ1 | _ => .stuck) := wkO (po_some h) fun σ H Q ⟨ρ, r, q⟩ => ⟨ρ, r, q.bind.imp fun d ρ' H' r' _ h v rp => by
  cases rp with
  | int j => exact ⟨_, rfl, (post.ok (a := some j) h r').1⟩
  | _ => exact False.elim h⟩
theorem n_slc {lo hi : Option Expr} {p2 : Pos} {ma : Rho → Res PArg} {ml mh : Rho → Res (Option Int)} (eK : X.K = G.K) (ha : PE X a (tMq G ma)) (hl : PO X lo (tMo G ml)) (hh : PO X hi (tMo G mh)) :
    PE X (.Subscript a (.Slice lo hi none p2) pos) (tN G fun ρ => (ma ρ).bind fun p ρ1 => (ml ρ1).bind fun l ρ2 => (mh ρ2).bind fun h ρ3 => .opt ((look ρ3 p).bind fun x => slcD x l h) ρ3) :=
  wkE (pe_slice o_sl ha hl hh) fun σ H Q ⟨ρ, r0, q⟩ => ⟨ρ, r0, q.bind.imp fun p ρ1 H1 r1 s1 h1 v p1 => ⟨ρ1, r1, h1.bind.imp fun l ρ2 H2 r2 s2 h2 => ⟨ρ2, r2, h2.bind.imp fun h ρ3 H3 r3 s3 h3 => by
    obtain ⟨d, e, hq, _⟩ := h3.opt r3
    obtain ⟨x, e1, e2⟩ := Option.bind_eq_some_iff.mp e
    rw [eK]
    exact z_sl (look_ok r3 e1 ((p1.step r1 s2).step r2 s3)) e2 fun z H' o => hq z H' (o.newV r3.bs_lst)⟩⟩⟩
theorem n_rev {ma : Rho → Res PArg} {k : Nat} {p1 p2 p3 : Pos} (eK : X.K = G.K) (ha : PE X a (tMq G ma)) :
    PE X (.Subscript a (.Slice none none (some (.UnaryOp .USub (.Constant (.int 1) k p1) p2)) p3) pos) (tN G fun ρ => (ma ρ).bind fun p ρ1 => .opt ((look ρ1 p).bind revD) ρ1) :=
  wkE (pe_revA ha) fun σ H Q ⟨ρ, r0, q⟩ => ⟨ρ, r0, q.bind.imp fun p ρ1 H1 r1 s1 h1 v p1 => by
    obtain ⟨d, e, hq, _⟩ := h1.opt r1
    obtain ⟨x, e1, e2⟩ := Option.bind_eq_some_iff.mp e
    rw [eK]
    cases look_ok r1 e1 p1 with
    | lst r z a =>
      cases e2
      exact .inl ⟨_, _, rfl, .inl r, fun p hp => hq _ _ ((Out.lst hp (by rw [List.length_reverse]; exact z) a.reverse).newV r1.bs_lst)⟩
    | tup r z a =>
      cases e2
      exact .inr ⟨_, _, rfl, r, fun p hp => hq _ _ ((Out.tup hp (by rw [List.length_reverse]; exact z) a.reverse).newV r1.bs_lst)⟩
    | _ => cases e2⟩

theorem isLst_of {o : Option D} (h : isLst o = true) : ∃ xs, o = some (.list xs) := by
  unfold isLst at h
  split at h
  · exact ⟨_, rfl⟩
  · cases h
theorem m_index {ma : Rho → Res PArg} {mb : Rho → Res D} {apos cpos : Pos} (eK : X.K = G.K) (hu : X.A.units + 70 < cLine) (ha : PE X a (tMq G ma)) (hb : PE X b (tM G mb))
    (hbase : attributeBase a "index" X.env (eval a X.env) = eval a X.env) (hfew : ((backTo cpos (starEach [b] X.env)).all (fun x => !x.1) && (backToKw cpos (keywordEach [] X.env)).all (fun x => x.1.isSome)
      && decide (([b] : List Expr).length + ([] : List Keyword).length + (if ([] : List Keyword).isEmpty then 0 else 1) < 30)) = true)
    (hline : (apos.endLine == cpos.line) = true) (hs : starEach [b] X.env = (false, eval b X.env) :: starEach [] X.env) (hplain : (backTo cpos (starEach [] X.env)).any (·.1) = false) :
    PE X (.Call (.Attribute a "index" apos) [b] [] cpos) (tM G fun ρ => (ma ρ).bind fun p ρ1 => if isLst (look ρ1 p) = true then (mb ρ1).bind fun y ρ2 => .opt ((look ρ2 p).bind fun x => indexD x y) ρ2 else .stuck) :=
  wkE (pe_bm PySem.F.plainAttrs_list PySem.F.slot_list_index PySem.F.type_list_index (mt_indexD (by omega)) ha (pa_cons hb pa_nil hs) hbase hfew hline hs hplain) fun σ H Q ⟨ρ, r0, q⟩ => ⟨ρ, r0, q.bind.imp fun p ρ1 H1 r1 s1 h1 v p1 => by
    split at h1
    · rename_i hl
      obtain ⟨xs, hx⟩ := isLst_of hl
      have ro := look_ok r1 hx p1
      refine ⟨?_, ρ1, r1, h1.bind.imp fun y ρ2 H2 r2 s2 h2 w p2 => ?_⟩
      · rw [eK]
        cases ro with
        | lst r z a => exact .inl ⟨rfl, _, .inl r⟩
      · obtain ⟨d, e, hq, _⟩ := h2.opt r2
        obtain ⟨x, e1, e2⟩ := Option.bind_eq_some_iff.mp e
        rw [eK]
        have ro2 := look_ok r2 e1 (p1.step r1 s2)
        cases x with
        | list ys =>
          have e3 : (if (shp y && shp (.list ys)) = true then (ys.findIdx? fun z => PyData.eqv z y).map fun (j : Nat) => PyData.int (j : Int) else none) = some d := e2
          split at e3
          · rename_i hc
            rw [Bool.and_eq_true] at hc
            obtain ⟨j, ej, ed⟩ := Option.map_eq_some_iff.mp e3
            subst ed
            obtain ⟨hj, hz, hno⟩ := List.findIdx?_eq_some_iff_getElem.mp ej
            obtain ⟨a, ea⟩ : ∃ a, v = .ref a := by cases ro2; exact ⟨_, rfl⟩
            subst ea
            exact ⟨a, w, y, ys, j, ys[j], rfl, rfl, ro2.dp (nod_shp hc.2), (Rp.ro p2).dp (nod_shp hc.1), hc.2, hc.1, List.getElem?_eq_getElem hj, hz, fun m z' hm hz' => by
              obtain ⟨hm', ez⟩ := List.getElem?_eq_some_iff.mp hz'
              have := hno m hm
              rw [ez] at this
              simpa using this, hq _ (.int _)⟩
          · cases e3
        | _ => cases e2
    · exact h1.elim⟩
theorem rpa_strs {K : PySem.W.Frag} {H : Hp} {B : Addr → Prop} : ∀ l : List Str, RpA K H B (l.map .str) (l.map .str)
  | [] => .nil
  | x :: l => .cons (.str x) (rpa_strs l)
theorem isStr_of {d : D} (h : isStrD d = true) : ∃ x, d = .str x := by
  unfold isStrD at h
  split at h
  · exact ⟨_, rfl⟩
  · cases h
theorem m_join {ma mb : Rho → Res D} {apos cpos : Pos} (eK : X.K = G.K) (ha : PE X a (tM G ma)) (hb : PE X b (tM G mb)) (hbase : attributeBase a "join" X.env (eval a X.env) = eval a X.env) (hline : (apos.endLine == cpos.line) = true) (hs : starEach [b] X.env = [(false, eval b X.env)]) :
    PE X (.Call (.Attribute a "join" apos) [b] [] cpos) (tM G fun ρ => (ma ρ).bind fun x ρ1 => if isStrD x = true then (mb ρ1).bind fun y ρ2 => .opt (joinD x y) ρ2 else .stuck) :=
  wkE (pe_m1 F.slot_str_join F.type_str_join mt_join ha hb hs hbase hline) fun σ H Q ⟨ρ, r0, q⟩ => ⟨ρ, r0, q.bind.imp fun x ρ1 H1 r1 s1 h1 v p1 => by
    split at h1
    · rename_i hl
      obtain ⟨t, rfl⟩ := isStr_of hl
      cases p1
      refine ⟨⟨_, rfl⟩, ρ1, r1, h1.bind.imp fun y ρ2 H2 r2 s2 h2 w p2 => ?_⟩
      obtain ⟨d, e, hq, _⟩ := h2.opt r2
      cases y with
      | list xs =>
        obtain ⟨ys, e1, e2⟩ := Option.bind_eq_some_iff.mp (show (strsOf xs).bind (fun ys => if (ys.map (·.length)).sum + ys.length * t.length ≤ SL then some (PyData.str (Txt.join t ys)) else none) = some d from e)
        split at e2
        · rename_i hz
          cases e2
          cases p2 with
          | lst r n z a' =>
            obtain rfl := a'.toStrs e1
            exact ⟨_, _, ys, rfl, rfl, .inl (.inl r), hz, hq _ (.str _)⟩
        · cases e2
      | _ => cases e
    · exact h1.elim⟩
theorem m_split {ma mb : Rho → Res D} {apos cpos : Pos} (eK : X.K = G.K) (ha : PE X a (tM G ma)) (hb : PE X b (tM G mb)) (hbase : attributeBase a "split" X.env (eval a X.env) = eval a X.env) (hline : (apos.endLine == cpos.line) = true) (hs : starEach [b] X.env = [(false, eval b X.env)]) :
    PE X (.Call (.Attribute a "split" apos) [b] [] cpos) (tM G fun ρ => (ma ρ).bind fun x ρ1 => if isStrD x = true then (mb ρ1).bind fun y ρ2 => .opt (splitD x y) ρ2 else .stuck) :=
  wkE (pe_m1 F.slot_str_split F.type_str_split mt_split ha hb hs hbase hline) fun σ H Q ⟨ρ, r0, q⟩ => ⟨ρ, r0, q.bind.imp fun x ρ1 H1 r1 s1 h1 v p1 => by
    split at h1
    · rename_i hl
      obtain ⟨t, rfl⟩ := isStr_of hl
      cases p1
      refine ⟨⟨_, rfl⟩, ρ1, r1, h1.bind.imp fun y ρ2 H2 r2 s2 h2 w p2 => ?_⟩
      obtain ⟨d, e, _, hq⟩ := h2.opt r2
      cases y with
      | str u =>
        have e' : (if (u.length == 0) = false ∧ t.length + 2 ≤ SL then some (PyData.list ((Txt.split t u).map .str)) else none) = some d := e
        split at e'
        · rename_i hz
          cases e'
          cases p2
          refine ⟨_, _, rfl, rfl, hz.1, by rw [sl_eq]; exact hz.2, fun p hp => ?_⟩
          have hl2 : ((Txt.split t u).map V.str).length ≤ sizeLine := by
            rw [List.length_map, sl_eq]
            exact Nat.le_trans (PyProof.Rows.split_le t u) hz.2
          have o := Out.lst (K := G.K) (B := G.B ρ2 σ) (H := H2) hp hl2 (rpa_strs (Txt.split t u))
          exact hq _ o.grw _ (o.rp r2.bs_lst)
        · cases e'
      | _ => cases e
    · exact h1.elim⟩
theorem n_tupR {p p1 p2 : Pos} {m : Rho → Res D} (hc : X.calm = true) (hg1 : Gl X "tuple") (hm1 : X.mg "tuple" = none) (hg2 : Gl X "range") (hm2 : X.mg "range" = none) (ha : PE X a (tM G m)) (he : starEach [a] X.env = (false, eval a X.env) :: starEach [] X.env) :
    PE X (.Call (.Name "tuple" p) [.Call (.Name "range" p1) [a] [] p2] [] pos) (tN G fun ρ => (m ρ).bind fun x ρ1 => .opt (tupRD x) ρ1) :=
  wkE (pe_tupRg hc hg1 hm1 (prg_1 hg2 hm2 ha he) rfl) fun σ H Q ⟨ρ, r0, q⟩ => ⟨ρ, r0, q.bind.imp fun x ρ1 H1 r1 s1 h1 v p1 => by
    obtain ⟨d, e, hq, _⟩ := h1.opt r1
    cases p1 with
    | int n =>
      have e3 : (if -(2 ^ 60) ≤ n ∧ n ≤ SL then some (PyData.tuple (rangeL 0 n.toNat)) else none) = some d := e
      split at e3
      · rename_i hn
        cases e3
        have hsl : SL = 16777216 := rfl
        refine ⟨n, rfl, ⟨by omega, by omega, by omega, by omega, by omega⟩, fun l hl => hq _ _ ((Out.tup hl ?_ ?_).newV r1.bs_lst)⟩
        · rw [rgV_length, sl_eq]; omega
        · have e4 : rangeL 0 n.toNat = ((List.range n.toNat).map fun (k : Nat) => (0 + (k : Int))).map PyData.int := by unfold rangeL; rw [List.map_map]; rfl
          have e5 : rgV 0 n = ((List.range n.toNat).map fun (k : Nat) => (0 + (k : Int))).map V.int := by unfold rgV; rw [List.map_map, Int.sub_zero]; rfl
          rw [e4, e5]
          exact RpA.ofInts _
      · cases e3
    | _ => cases e⟩

theorem rangeC_len (lo c : Int) (n : Nat) : (rangeC lo c n).length = n := by simp [rangeC]
theorem rangeC_get {lo c : Int} {n i : Nat} {d : D} (e : (rangeC lo c n)[i]? = some d) : d = .int (lo + (i : Int) * c) := by
  unfold rangeC at e
  rw [List.getElem?_map] at e
  obtain ⟨k, e1, e2⟩ := Option.map_eq_some_iff.mp e
  rw [List.getElem?_range (by
    obtain ⟨h, _⟩ := List.getElem?_eq_some_iff.mp e1
    simpa using h)] at e1
  cases e1
  exact e2.symm
theorem rng1 {K : PySem.W.Frag} {H : Hp} {B : Addr → Prop} {ds is : List D} {a : Expr} {vs : List V} (h : RpA K H B ds vs) (e : rangeD ds = some is) : (∃ n : Int, vs = [.int n] ∧ (-(2 ^ 60) ≤ n ∧ n ≤ SL) ∧ is = rangeL 0 n.toNat ∧ ds = [.int n]) ∨ (∃ a b : Int, vs = [.int a, .int b] ∧ (-(2 ^ 60) ≤ a ∧ a ≤ 2 ^ 60 ∧ -(2 ^ 60) ≤ b ∧ b ≤ 2 ^ 60 ∧ b - a ≤ SL) ∧ is = rangeL a (b - a).toNat ∧ ds = [.int a, .int b]) ∨ ∃ a b c : Int, vs = [.int a, .int b, .int c] ∧ (-(2 ^ 60) ≤ a ∧ a ≤ 2 ^ 60 ∧ -(2 ^ 60) ≤ b ∧ b ≤ 2 ^ 60 ∧ b - a ≤ SL ∧ 0 < c ∧ c < 1073741824) ∧ is = rangeC a c (rangeN a b c) ∧ ds = [.int a, .int b, .int c] := by
  unfold rangeD at e
  split at e
  · rename_i n
    split at e
    · rename_i hc
      cases e
      cases h with
      | cons h t => cases t; cases h; exact .inl ⟨n, rfl, hc, rfl, rfl⟩
    · cases e
  · rename_i a b
    split at e
    · rename_i hc
      cases e
      cases h with
      | cons h t => cases t with
        | cons h2 t => cases t; cases h; cases h2; exact .inr (.inl ⟨a, b, rfl, hc, rfl, rfl⟩)
    · cases e
  · rename_i a b c
    split at e
    · rename_i hc
      cases e
      cases h with
      | cons h t => cases t with
        | cons h2 t => cases t with
          | cons h3 t => cases t; cases h; cases h2; cases h3; exact .inr (.inr ⟨a, b, c, rfl, hc, rfl, rfl⟩)
    · cases e
  · cases e
theorem rgC {a b c : Int} (h : -(2 ^ 60) ≤ a ∧ a ≤ 2 ^ 60 ∧ -(2 ^ 60) ≤ b ∧ b ≤ 2 ^ 60 ∧ b - a ≤ SL ∧ 0 < c ∧ c < 1073741824) : RgC a b c (rangeN a b c) ∧ rangeN a b c ≤ SL := by
  obtain ⟨h1, h2, h3, h4, h5, h6, h7⟩ := h
  have hz : Builtin.Range.rangeSize a b c = ((rangeN a b c : Nat) : Int) ∧ rangeN a b c ≤ SL := by
    unfold Builtin.Range.rangeSize rangeN
    rw [if_pos h6]
    split
    · have q0 : 0 ≤ (b - a - 1) / c := Int.ediv_nonneg (by omega) (by omega)
      have q1 : (b - a - 1) / c ≤ b - a - 1 := Int.ediv_le_self _ (by omega)
      unfold SL at *
      omega
    · simp
  refine ⟨⟨by omega, by omega, ?_, hz.1⟩, hz.2⟩
  unfold Builtin.Range.small
  have hh := hz.2
  unfold SL at hh h5
  rw [hz.1, if_pos (show c > 0 from h6)]
  simp only [Builtin.Range.rangeFitsLong, Bool.and_eq_true, Bool.or_eq_true, decide_eq_true_eq, beq_iff_eq]
  refine ⟨⟨⟨⟨?_, ?_⟩, ?_⟩, ?_⟩, Or.inr ?_⟩ <;> omega
def PRg3 (X : Cx) (e : Expr) (m : L2.St → Hp → (Int → Int → Int → Hp → Prop) → Prop) : Prop :=
  ∀ (pins : List (Addr × Obj)) (s : Shared) (σ : L2.St) (H : Hp) (R : Int → Int → Int → Hp → Prop), Inv X pins σ H s → m σ H R →
    wpAny (model X.prog X.w) X.A (eval e X.env) (fun v s1 => ∃ o i j k t1 t2 t3 H1, v = .ref o ∧ IsRange s1.heap o i j k t1 t2 t3 ∧ Inv X pins σ H1 s1 ∧ R i j k H1) X.xe s
theorem prg_3 {b c : Expr} {ta : TA} {p1 p2 : Pos} (hg : Gl X "range") (hm : X.mg "range" = none) (ha : PA X [a, b, c] ta) (hs : starEach [a, b, c] X.env = (false, eval a X.env) :: starEach [b, c] X.env) (hpl : (backTo p2 (starEach [b, c] X.env)).any (·.1) = false) :
    PRg3 X (.Call (.Name "range" p1) [a, b, c] [] p2) (fun σ H R => ta σ H fun vs H1 => ∃ i j k : Int, vs = [.int i, .int j, .int k] ∧ (k ≠ 0 ∧ k.natAbs < 1073741824) ∧ R i j k H1) := by
  intro pins s σ H R I h
  refine Call_ (ld_blt I hg hm boot_range (PyProof.Rows.callWith_type1 (thn (ha.run p2 pins s σ H _ I h) fun us s2 ⟨vs, H2, I2, rv, q⟩ => ?_) hs hpl))
  obtain ⟨i, j, k, rfl, ⟨k0, k1⟩, q⟩ := q
  cases rv with
  | cons r1 rv => cases rv with
    | cons r2 rv => cases rv with
      | cons r3 rv =>
        cases rv
        obtain ⟨t1, rfl⟩ := r1
        obtain ⟨t2, rfl⟩ := r2
        obtain ⟨t3, rfl⟩ := r3
        refine call_range_3 k0 ?_ (.inl (PyProof.noPylong_small k1))
        exact ⟨_, i, j, k, _, _, _, H2, rfl, IsRange.new .., I2.kept (t' := s2.toks) fun b u e => Heap.get?_push_of_some _ e, q⟩
def rcV (a c : Int) (n : Nat) : List V := (List.range n).map fun (i : Nat) => V.int (a + (i : Int) * c)
theorem vals_rc {a c : Int} {n : Nat} {acc : Array Value} (h : ItemsOf (fun i v => ∃ t, v = .int (a + i * c) t) acc n) : Vals (rcV a c n) acc.toList := by
  have e : acc.toList.length = n := by rw [Array.length_toList]; exact h.1
  unfold rcV
  rw [← e]
  refine vals_of_get acc.toList _ fun i u hi => ?_
  obtain ⟨t, rfl⟩ := h.2 i u (by rw [← hi, Array.getElem?_toList])
  exact ⟨t, rfl⟩
theorem pe_tupRg3 {e : Expr} {m : L2.St → Hp → (Int → Int → Int → Hp → Prop) → Prop} {p : Pos} (hc : X.calm = true) (hg : Gl X "tuple") (hm : X.mg "tuple" = none) (he : PRg3 X e m) (na : starEach [e] X.env = (false, eval e X.env) :: starEach [] X.env) :
    PE X (.Call (.Name "tuple" p) [e] [] pos) (fun σ H Q => m σ H fun i j k H1 => ∃ n : Nat, RgC i j k n ∧ n ≤ SL ∧ ∀ l, H1 l = none → Q (.ref l) (upd H1 l (.tup (rcV i k n)))) := by
  refine ⟨fun pins s σ H Q I h => ?_⟩
  refine Call_ (ld_blt I hg hm boot_tuple (PyProof.Rows.callWith_type1 (args_cons (thn (he pins s σ H _ I h) fun v s1 ⟨o, i, j, k, t1, t2, t3, H1, ev, hr, I1, n, rc, hn, q⟩ => args_nil ?_) na) na))
  subst ev
  obtain ⟨c0, c1, c2, c3⟩ := rc
  have hsl : SL = 16777216 := rfl
  refine call_tuple_range (n := n) (I1.ok.hd hc) hr c2 c3 (by omega) fun h' tk acc hk hi => ?_
  have I2 : Inv X pins σ H1 { s1 with heap := h', toks := tk } := I1.kept hk
  refine ⟨.ref h'.objs.size, upd H1 h'.objs.size (.tup (rcV i k n)), I2.laid (t' := tk) (fun c o e => Heap.get?_push_of_some _ e) (Nat.le_refl _) (show ObjOk X.prog X.w _ _ _ (.tup (rcV i k n)) from ⟨?_, acc.toList, vals_rc hi, ?_⟩), rfl, q _ (I2.hok.fresh (Nat.le_refl _))⟩
  · show (rcV i k n).length ≤ sizeLine
    unfold rcV; rw [List.length_map, List.length_range, sl_eq]; exact hn
  · rw [Array.toArray_toList]; exact IsTup.new _ _
theorem n_tupR3 {b c : Expr} {p p1 p2 : Pos} {ma mb mc : Rho → Res D} (hc : X.calm = true) (hg1 : Gl X "tuple") (hm1 : X.mg "tuple" = none) (hg2 : Gl X "range") (hm2 : X.mg "range" = none) (ha : PE X a (tM G ma)) (hb : PE X b (tM G mb)) (hcc : PE X c (tM G mc))
    (h1 : starEach [a, b, c] X.env = (false, eval a X.env) :: starEach [b, c] X.env) (h2 : starEach [b, c] X.env = (false, eval b X.env) :: starEach [c] X.env) (h3 : starEach [c] X.env = (false, eval c X.env) :: starEach [] X.env) :
    PE X (.Call (.Name "tuple" p) [.Call (.Name "range" p1) [a, b, c] [] p2] [] pos) (tN G fun ρ => (ma ρ).bind fun x ρ1 => (mb ρ1).bind fun y ρ2 => (mc ρ2).bind fun z ρ3 => .opt ((rangeD [x, y, z]).map .tuple) ρ3) :=
  wkE (pe_tupRg3 hc hg1 hm1 (prg_3 hg2 hm2 (pa_cons ha (pa_cons hb (pa_cons hcc pa_nil h3) h2) h1) h1 (by rw [h2, h3]; rfl)) rfl) fun σ H Q ⟨ρ, r0, q⟩ => ⟨ρ, r0, q.bind.imp fun x ρ1 H1 r1 s1 h1 v1 p1 => ⟨ρ1, r1, h1.bind.imp fun y ρ2 H2 r2 s2 h2 v2 p2 => ⟨ρ2, r2, h2.bind.imp fun z ρ3 H3 r3 s3 h3 v3 p3 => by
    obtain ⟨d, e, hq, _⟩ := h3.opt r3
    obtain ⟨is, e1, e2⟩ := Option.map_eq_some_iff.mp e
    subst e2
    have pa : RpA G.K H3 (G.B ρ3 σ) [x, y, z] [v1, v2, v3] := .cons (r2.keep s3 (r1.keep s2 p1)) (.cons (r2.keep s3 p2) (.cons p3 .nil))
    rcases rng1 (a := a) pa e1 with ⟨n, ev, _⟩ | ⟨i, j, ev, _⟩ | ⟨i, j, k, ev, hk, rfl, ed⟩
    · simp at ev
    · simp at ev
    · cases ev
      have hg := rgC hk
      refine ⟨i, j, k, rfl, ⟨by omega, by omega⟩, _, hg.1, hg.2, fun l hl => hq _ _ ((Out.tup hl ?_ ?_).newV r3.bs_lst)⟩
      · unfold rcV; rw [List.length_map, List.length_range, sl_eq]; exact hg.2
      · have e4 : rangeC i k (rangeN i j k) = ((List.range (rangeN i j k)).map fun (m : Nat) => i + (m : Int) * k).map PyData.int := by unfold rangeC; rw [List.map_map]; rfl
        have e5 : rcV i k (rangeN i j k) = ((List.range (rangeN i j k)).map fun (m : Nat) => i + (m : Int) * k).map V.int := by unfold rcV; rw [List.map_map]; rfl
        rw [e4, e5]
        exact RpA.ofInts _⟩⟩⟩

theorem btVal_kind (bt : Bt) : (∃ id, btVal bt = .builtin id) ∨ ∃ T, btVal bt = .type T := by
  cases bt <;> first | exact .inl ⟨_, rfl⟩ | exact .inr ⟨_, rfl⟩
theorem n_bt {bt : Bt} {x : Str} {es : List Expr} {p : Pos} {ms : Rho → Res (List PArg)} (eK : X.K = G.K) (hc : X.calm = true) (hu : X.A.units + 70 < cLine) (hg : isRepr bt = true → X.A.guards = some []) (hgl : Gl X x) (hm : X.mg x = none) (hv : bootBuiltins x = some (btVal bt))
    (ha : PA X (e :: es) (tMqs G ms)) (hn : x ≠ "__name__") (hd : (x == ("__debug__" : Str)) = false) (he : starEach (e :: es) X.env = (false, eval e X.env) :: starEach es X.env) (hp : (backTo pos (starEach es X.env)).any (·.1) = false) :
    PE X (.Call (.Name x p) (e :: es) [] pos) (tN G fun ρ => (ms ρ).bind fun ps ρ1 => .opt ((looks ρ1 ps).bind (btD bt)) ρ1) := by
  have cr := o_bt (X := X) hc hu bt hg
  rw [eK] at cr
  have pe : PE X (.Call (.Name x p) (e :: es) [] pos) (tCB (oBt G.K bt) (tMqs G ms)) := by
    rcases btVal_kind bt with ⟨id, ev⟩ | ⟨T, ev⟩
    · rw [ev] at hv cr
      exact pe_callB cr hgl hm hv ha hn hd he hp
    · rw [ev] at hv cr
      exact pe_callTy cr hgl hm hv ha hn hd he hp
  refine wkE pe fun σ H Q ⟨ρ, r0, q⟩ => ⟨ρ, r0, q.bind.imp fun ps ρ1 H1 r1 s1 h1 vs p1 => ?_⟩
  obtain ⟨d, e, hq, _⟩ := h1.opt r1
  obtain ⟨ds, e1, e2⟩ := Option.bind_eq_some_iff.mp e
  exact z_bt bt (looks_ok r1 e1 p1) e2 fun z H' o => hq z H' (o.newV r1.bs_lst)
def tyStr : Ty → String
  | .int => "int" | .bool => "bool" | .tuple => "tuple" | .list => "list" | .str => "str"
theorem kit_ok (t : Ty) (d : D) : kitB (tyName d) (tyStr t) = some (isiD t d) := by
  cases d with
  | dict kv => cases t with
    | int => exact (by decide +kernel : kitB "dict" "int" = some false)
    | bool => exact (by decide +kernel : kitB "dict" "bool" = some false)
    | tuple => exact (by decide +kernel : kitB "dict" "tuple" = some false)
    | list => exact (by decide +kernel : kitB "dict" "list" = some false)
    | str => exact (by decide +kernel : kitB "dict" "str" = some false)
  | none => cases t with
    | int => exact (by decide +kernel : kitB "NoneType" "int" = some false)
    | bool => exact (by decide +kernel : kitB "NoneType" "bool" = some false)
    | tuple => exact (by decide +kernel : kitB "NoneType" "tuple" = some false)
    | list => exact (by decide +kernel : kitB "NoneType" "list" = some false)
    | str => exact (by decide +kernel : kitB "NoneType" "str" = some false)
  | bool b => cases t with
    | int => exact (by decide +kernel : kitB "bool" "int" = some true)
    | bool => exact (by decide +kernel : kitB "bool" "bool" = some true)
    | tuple => exact (by decide +kernel : kitB "bool" "tuple" = some false)
    | list => exact (by decide +kernel : kitB "bool" "list" = some false)
    | str => exact (by decide +kernel : kitB "bool" "str" = some false)
  | int b => cases t with
    | int => exact (by decide +kernel : kitB "int" "int" = some true)
    | bool => exact (by decide +kernel : kitB "int" "bool" = some false)
    | tuple => exact (by decide +kernel : kitB "int" "tuple" = some false)
    | list => exact (by decide +kernel : kitB "int" "list" = some false)
    | str => exact (by decide +kernel : kitB "int" "str" = some false)
  | str b => cases t with
    | int => exact (by decide +kernel : kitB "str" "int" = some false)
    | bool => exact (by decide +kernel : kitB "str" "bool" = some false)
    | tuple => exact (by decide +kernel : kitB "str" "tuple" = some false)
    | list => exact (by decide +kernel : kitB "str" "list" = some false)
    | str => exact (by decide +kernel : kitB "str" "str" = some true)
  | list b => cases t with
    | int => exact (by decide +kernel : kitB "list" "int" = some false)
    | bool => exact (by decide +kernel : kitB "list" "bool" = some false)
    | tuple => exact (by decide +kernel : kitB "list" "tuple" = some false)
    | list => exact (by decide +kernel : kitB "list" "list" = some true)
    | str => exact (by decide +kernel : kitB "list" "str" = some false)
  | tuple b => cases t with
    | int => exact (by decide +kernel : kitB "tuple" "int" = some false)
    | bool => exact (by decide +kernel : kitB "tuple" "bool" = some false)
    | tuple => exact (by decide +kernel : kitB "tuple" "tuple" = some true)
    | list => exact (by decide +kernel : kitB "tuple" "list" = some false)
    | str => exact (by decide +kernel : kitB "tuple" "str" = some false)
theorem m_isi {t : Ty} {p p1 p2 : Pos} {ma : Rho → Res PArg} (eK : X.K = G.K) (hgl : Gl X "isinstance") (hm : X.mg "isinstance" = none) (hgt : Gl X (tyStr t : Str)) (hmt : X.mg (tyStr t : Str) = none) (hbt : bootBuiltins (tyStr t : Str) = some (.type (tyStr t)))
    (ha : PE X a (tMq G ma)) (he : starEach (a :: [.Name (tyStr t : Str) p1]) X.env = (false, eval a X.env) :: starEach [.Name (tyStr t : Str) p1] X.env) (hnn : (tyStr t : Str) ≠ "__name__") (hd : ((tyStr t : Str) == ("__debug__" : Str)) = false) :
    PE X (.Call (.Name "isinstance" p) [a, .Name (tyStr t : Str) p1] [] pos) (tM G fun ρ => (ma ρ).bind fun p ρ1 => .opt ((look ρ1 p).bind fun x => if isFn x = true then none else some (.bool (isiD t x))) ρ1) := by
  have pt : PE X (.Name (tyStr t : Str) p1) (tC (.ty (tyStr t))) := pe_bltn hgt hmt hbt rfl hnn hd
  have e2 : starEach [PySem.Expr.Name (tyStr t : Str) p1] X.env = (false, eval (PySem.Expr.Name (tyStr t : Str) p1) X.env) :: starEach [] X.env := rfl
  have pe := pe_callB (pos := pos) (p := p) call_isi hgl hm (by decide +kernel) (pa_cons ha (pa_cons pt pa_nil e2) he) (by decide) (by decide) he rfl
  refine wkE pe fun σ H Q ⟨ρ, r0, q⟩ => ⟨ρ, r0, q.bind.imp fun ps ρ1 H1 r1 s1 h1 v p1 => ?_⟩
  obtain ⟨d, e, hq, _⟩ := h1.opt r1
  obtain ⟨x, e1, e2⟩ := Option.bind_eq_some_iff.mp e
  have ro := look_ok r1 e1 p1
  rw [eK]
  split at e2
  · cases e2
  · rename_i hf
    cases e2
    exact ⟨v, .ty (tyStr t), .type (tyName x), .type (tyStr t), isiD t x, rfl, .ty _, ty_of ro (by simpa using hf), kit_ty (kit_ok t x), hq _ (.bl _)⟩
/-- sorted(set(a)) -/
theorem n_sset {p p1 p2 p3 : Pos} {ma : Rho → Res PArg} (eK : X.K = G.K) (hc : X.calm = true) (hg1 : Gl X "sorted") (hm1 : X.mg "sorted" = none) (hg2 : Gl X "set") (hm2 : X.mg "set" = none) (ha : PE X a (tMq G ma)) (he : starEach [a] X.env = (false, eval a X.env) :: starEach [] X.env) :
    PE X (.Call (.Name "sorted" p) [.Call (.Name "set" p1) [a] [] p2] [] pos) (tN G fun ρ => (ma ρ).bind fun p ρ1 => .opt ((look ρ1 p).bind ssetD) ρ1) := by
  have cs := o_set (X := X) hc
  rw [eK] at cs
  have pe := pe_callB (pos := pos) (p := p) (cr_sortedSet (X := X) hc) hg1 hm1 (by decide +kernel) (pa_cons (pe_callTy (pos := p2) (p := p1) cs hg2 hm2 PyProof.Rows.boot_set (pa_cons ha pa_nil he) (by decide) (by decide) he rfl) pa_nil rfl) (by decide) (by decide) rfl rfl
  refine wkE pe fun σ H Q ⟨ρ, r0, q⟩ => ⟨ρ, r0, q.bind.imp fun ps ρ1 H1 r1 s1 h1 v p1 => ?_⟩
  obtain ⟨d, e, hq, _⟩ := h1.opt r1
  obtain ⟨x, e1, e2⟩ := Option.bind_eq_some_iff.mp e
  exact z_sset r1.bs_lst (look_ok r1 e1 p1) e2 fun z H' nv => hq z H' nv
/-- len(set(a)) -/
theorem m_lset {p p1 p2 p3 : Pos} {ma : Rho → Res PArg} (eK : X.K = G.K) (hc : X.calm = true) (hg1 : Gl X "len") (hm1 : X.mg "len" = none) (hg2 : Gl X "set") (hm2 : X.mg "set" = none) (ha : PE X a (tMq G ma)) (he : starEach [a] X.env = (false, eval a X.env) :: starEach [] X.env) :
    PE X (.Call (.Name "len" p) [.Call (.Name "set" p1) [a] [] p2] [] pos) (tM G fun ρ => (ma ρ).bind fun p ρ1 => .opt ((look ρ1 p).bind lsetD) ρ1) := by
  have cs := o_set (X := X) hc
  rw [eK] at cs
  have pe := pe_callB (pos := pos) (p := p) (o_lenS (X := X)) hg1 hm1 PySem.boot_len (pa_cons (pe_callTy (pos := p2) (p := p1) cs hg2 hm2 PyProof.Rows.boot_set (pa_cons ha pa_nil he) (by decide) (by decide) he rfl) pa_nil rfl) (by decide) (by decide) rfl rfl
  refine wkE pe fun σ H Q ⟨ρ, r0, q⟩ => ⟨ρ, r0, q.bind.imp fun ps ρ1 H1 r1 s1 h1 v p1 => ?_⟩
  obtain ⟨d, e, _, hq⟩ := h1.opt r1
  obtain ⟨x, e1, e2⟩ := Option.bind_eq_some_iff.mp e
  exact z_lset (look_ok r1 e1 p1) e2 fun z H' g rp _ => hq H' g z rp
end
end Tw

set_option Elab.async false
set_option linter.all false
set_option maxRecDepth 100000
namespace TwE
open PySem PySem.W
open Sem (wp)
set_option maxHeartbeats 1000000 in
theorem meets_enum1 {v : Value} {o : Obj} {H : Heap → Prop} (B : Begins v o H) :
    Meets (Builtin.«enumerate.__new__» ⟨[.type "enumerate", v], []⟩) (fun _ R s => H s.heap ∧
      R (.ok (.ret (.ref (s.heap.push o).objs.size))) { s with heap := (s.heap.push o).push { cls := .type "enumerate", data := .fields #[.none, .bool false, .ref s.heap.objs.size, rawInt 0, .none, .none] } }) :=
  .of_wp fun prog w A R s h => by
    obtain ⟨hp, g, d, tk, os⟩ := s; obtain ⟨h1, h⟩ := h
    have hsub := sub_enumerate
    have q1 : ∀ {A' : Around} {E : Value → Shared → Prop} {Q : Value → Shared → Prop}, Q (.ref hp.objs.size) ⟨hp.push o, g, d, tk, os⟩ → wpAny (model prog w) A' (pyIter v) Q E ⟨hp, g, d, tk, os⟩ :=
      fun q => B.iter prog w _ _ ⟨hp, g, d, tk, os⟩ _ h1 q
    wp_walk using q1
    refine wpAny_stack_any fun st => wpAny_pure ?_
    split
    · rename_i c _ _ _ _ _
      cases (c == Value.type "enumerate")
      · wp_walk using q1
        exact ⟨_, rfl, h⟩
      · wp_walk using q1
        exact ⟨_, rfl, h⟩
    · wp_walk using q1
      exact ⟨_, rfl, h⟩
section
variable {prog : Program} {w : World} {A : Around} {E : Value → Shared → Prop} {s : Shared}
theorem call_enum1 {v : Value} {o : Obj} {H : Heap → Prop} {Q : Value → Shared → Prop} (B : Begins v o H) (h1 : H s.heap)
    (h : ∀ h', IsEnum h' (s.heap.objs.size + 1) s.heap.objs.size 0 .none → h'.get? s.heap.objs.size = some o → h'.objs.size = s.heap.objs.size + 2 →
      (∀ b o, s.heap.get? b = some o → h'.get? b = some o) → Q (.ref (s.heap.objs.size + 1)) { s with heap := h' }) :
    wpAny (model prog w) A (call (.type "enumerate") [v]) Q E s := by
  refine callType_new F.called_enumerate (by decide) (F.typeCall_enumerate_1 _) (F.newCall_enumerate_1 _) (fun obj => F.args_object_init_2 obj _) F.entry_enumerate_new
    (meets_enum1 B) ⟨h1, ?_⟩
  have hz : (s.heap.push o).objs.size = s.heap.objs.size + 1 := Heap.size_push ..
  show _ ∧ _
  rw [hz]
  have he : IsEnum ((s.heap.push o).push { cls := .type "enumerate", data := .fields #[.none, .bool false, .ref s.heap.objs.size, rawInt 0, .none, .none] }) (s.heap.objs.size + 1) s.heap.objs.size 0 .none := by
    have := Heap.get?_push_size (s.heap.push o) (o := { cls := .type "enumerate", data := .fields #[.none, .bool false, .ref s.heap.objs.size, rawInt 0, .none, .none] }) rfl
    rw [hz] at this; exact this
  refine ⟨⟨_, he, rfl⟩, h _ he (Heap.get?_push_of_some _ (Heap.get?_push_size _ B.free)) (by rw [Heap.size_push, hz]) fun b o x => Heap.get?_push_of_some _ (Heap.get?_push_of_some _ x)⟩
end
end TwE
namespace Tw
open PySem PySem.Spec PyProof.Rows L2
/-- the tuple at a, each item in a new pair -/
def IteT (K : PySem.W.Frag) (a : Addr) : It :=
  ⟨fun i H => ∃ (xs : List V) (x : V), SqT K H a xs ∧ xs[i]? = some x, fun i H v H' => ∃ T x, v = .ref T ∧ H T = none ∧ H' = upd H T (.tup [.int (i : Nat), x]) ∧ ∀ xs, SqT K H a xs → xs[i]? = some x, fun i H => ∃ xs : List V, SqT K H a xs ∧ xs.length ≤ i⟩
theorem turn_enumT {P : Program} {w : World} {K : PySem.W.Frag} {elts : List Expr} {kk : Nat} {tpos : Pos} (a e it : Addr) (hai : a ≠ it) (hae : a ≠ e) :
    Turn P w K (.Tuple elts kk tpos) (IteT K a) [e, it] e (fun i h => (∃ old, IsEnum h e it ((i : Nat) : Int) old) ∧ h.IsTupleIter it a i ∧ e ≠ it) where
  mem := by simp
  obj := fun i h st b hb => by
    obtain ⟨⟨old, he⟩, ⟨o, ho, hc, hd⟩, _⟩ := st
    have e' : b = e ∨ b = it := by simpa using hb
    rcases e' with z | z
    · rw [z]; exact ⟨_, he, fun v q => nomatch q⟩
    · rw [z]; exact ⟨o, ho, fun v q => by rw [hd] at q; cases q⟩
  keep := fun i h h' st k => let ⟨⟨old, he⟩, hi, hne⟩ := st; ⟨⟨old, k e (by simp) _ he⟩, hi.at fun o q => k it (by simp) o q, hne⟩
  item := by
    intro X hP hw hK hc i pins s σ H E I hf st hg
    subst hP hw hK
    obtain ⟨⟨old, he⟩, hit, hne⟩ := st
    obtain ⟨xs, x, hq, hx⟩ := hg
    obtain ⟨its, rv, p, hz⟩ := I.tuple hq
    obtain ⟨u, hu, ru⟩ := rv.get hx
    have hel : e < s.heap.objs.size := Heap.lt_size he
    have hil : it < s.heap.objs.size := by obtain ⟨_, q, _⟩ := hit; exact Heap.lt_size q
    have hlt : i < its.toArray.size := by
      have := (List.getElem?_eq_some_iff.mp hu).1
      simpa using this
    refine wpAny_pyNext_enum_itemD (Draws.tuple (A := X.A.in1) (show X.A.in1.handled = none from I.ok.hd hc) it a hai its.toArray) he ⟨hit, (show s.heap.IsTuple a its.toArray from p)⟩ hlt hne (by simp [hne, Ne.symm hae]) fun x' h' tk hP ho hs' hT hsz hk => ?_
    have ex : x' = u := by
      have h1 : its.toArray[i]? = some x' := hP
      have h2 : its.toArray[i]? = some u := by simpa using hu
      rw [h1] at h2; exact Option.some.inj h2
    subst ex
    obtain ⟨hit', _⟩ := hs'
    refine ⟨_, rfl, wpAny_letOwnedTupleGo_enum (s := { s with heap := h', toks := tk + 1 }) ho fun h'' he' sb => ?_⟩
    have hT2 : h''.get? s.heap.objs.size = some { cls := .type "tuple", data := .seq #[.int i tk, x'] } := (sb.2 _ (Nat.ne_of_gt hel)).trans hT
    have new : ObjOk X.prog X.w (upd H s.heap.objs.size (.tup [.int (i : Nat), x])) h'' s.heap.objs.size (.tup [.int (i : Nat), x]) :=
      ⟨by show 2 ≤ sizeLine; decide, [.int i tk, x'], .cons ⟨_, rfl⟩ (.cons ru .nil), ⟨_, hT2, rfl, _, rfl⟩⟩
    have I1 : Inv X pins σ (upd H s.heap.objs.size (.tup [.int (i : Nat), x])) { s with heap := h'', toks := tk + 1 } :=
      I.turnedNew (ch := [e, it]) (fun b ob hb q => (sb.2 b (fun z => hb (by simp [z]))).trans (hk b ob (fun z => hb (by simp [z])) (fun z => hb (by simp [z])) q)) hf (Nat.le_refl _) new
    refine ⟨.ref s.heap.objs.size, _, I1, rfl, ⟨_, x, rfl, I.hok.fresh (Nat.le_refl _), rfl, fun ys hy => by rw [I.tuple_inj hy hq]; exact hx⟩, ⟨⟨x', ?_⟩, hit'.at fun o q => (sb.2 it (Ne.symm hne)).trans q, hne⟩, fun b hb => ?_⟩
    · have e1 : ((i + 1 : Nat) : Int) = (i : Int) + 1 := by omega
      rw [e1]; exact he'
    · have hb' : b < s.heap.objs.size := by
        have e' : b = e ∨ b = it := by simpa using hb
        rcases e' with z | z
        · rw [z]; exact hel
        · rw [z]; exact hil
      rw [upd_ne (Nat.ne_of_lt hb')]
      exact (hf b hb).1
  done := by
    intro X hP hw hK hc i pins s σ H E I hf st hg
    subst hP hw hK
    obtain ⟨⟨old, he⟩, hit, hne⟩ := st
    obtain ⟨xs, hq, hx⟩ := hg
    obtain ⟨its, rv, p, hz⟩ := I.tuple hq
    obtain ⟨f0, f1, f2, f3, f4, f5⟩ := hf it (by simp)
    have hl := rv.length
    have hno : its.toArray[i]? = none := by simp; omega
    have D : Draws X.prog X.w X.A.in1 it [it, a] i (fun _ _ => False) (fun j h => j = i ∧ h.IsTupleIter it a i ∧ h.IsTuple a its.toArray) := by
      refine ⟨fun _ _ st => by obtain ⟨o, q, _⟩ := st.2.1; exact ⟨o, q⟩, fun j h h' st k => ⟨st.1, st.2.1.at fun o q => k it (by simp) o q, st.2.2.at fun o q => k a (by simp) o q⟩, fun j s Q E hj st => by obtain ⟨e1, _⟩ := st; omega, fun s Q E st hE => ?_⟩
      exact wpAny_nextOf_tuple_end (I.ok.hd hc) st.2.1 st.2.2 hno hE
    exact wpAny_pyNext_enum_endD D he ⟨rfl, hit, (show s.heap.IsTuple a its.toArray from p)⟩ fun h' eb => ⟨rfl, I.turned (t' := s.toks) (fun b o hb q => eb b o hb q) f0 f1 f3 f4 f5⟩
  self := fun A i s Q E st h => let ⟨⟨_, he⟩, _⟩ := st; wpAny_pyIter_enum he h
def iEnumA (K : PySem.W.Frag) (ta : TA) : TI := fun σ H R => ta σ H fun vs H1 => ∃ a xs, vs = [.ref a] ∧ ((SqL K H1 a xs ∧ R (Ite K a) H1) ∨ (SqT K H1 a xs ∧ R (IteT K a) H1))
theorem pi_enumA {X : Cx} {e : Expr} {ta : TA} {p pos tpos : Pos} {elts : List Expr} {kk : Nat} (hg : Gl X "enumerate") (hm : X.mg "enumerate" = none) (ha : PA X [e] ta) (hs : starEach [e] X.env = [(false, eval e X.env)] := by rfl) :
    PI X (.Tuple elts kk tpos) (.Call (.Name "enumerate" p) [e] [] pos) (iEnumA X.K ta) := by
  refine ⟨fun pins s σ H R I h => ?_⟩
  refine Call_ (ld_blt I hg hm boot_enumerate (PyProof.Rows.callWith_type1 (thn (ha.run pos pins s σ H _ I h) fun us s1 ⟨vs, H1, I1, r1, q1⟩ => ?_) hs rfl))
  obtain ⟨a, xs, ex, q⟩ := q1
  subst ex
  cases r1 with
  | cons r rr =>
    cases rr
    cases r
    have fresh2 : ∀ b, b ∈ [s1.heap.objs.size + 1, s1.heap.objs.size] → FpOk X pins H1 b := fun b hb => by
      have e' : b = s1.heap.objs.size + 1 ∨ b = s1.heap.objs.size := by simpa using hb
      have hle : s1.heap.objs.size ≤ b := by
        rcases e' with z | z
        · rw [z]; exact Nat.le_add_right _ _
        · rw [z]; exact Nat.le_refl _
      exact I1.fpOk hle (I1.hok.fresh hle)
    rcases q with ⟨hq, q⟩ | ⟨hq, q⟩
    · obtain ⟨its, rv, p', hz⟩ := I1.list hq
      refine call_enumerate_list p'.isList fun h' he hit hsz hk => wpAny_pyIter_enum he ?_
      have I2 : Inv X pins σ H1 { s1 with heap := h' } := I1.kept (t' := s1.toks) hk
      exact ⟨s1.heap.objs.size + 1, [s1.heap.objs.size + 1, s1.heap.objs.size], _, _, H1, rfl, I2, turn_enum a (s1.heap.objs.size + 1) s1.heap.objs.size, ⟨⟨.none, he⟩, hit, Nat.succ_ne_self _⟩, fresh2, q⟩
    · obtain ⟨its, rv, p', hz⟩ := I1.tuple hq
      obtain ⟨oa, hoa, _⟩ := id p'
      have hlt : a < s1.heap.objs.size := Heap.lt_size hoa
      refine TwE.call_enum1 (begins_tuple a its.toArray) (show s1.heap.IsTuple a its.toArray from p') fun h' he hit hsz hk => wpAny_pyIter_enum he ?_
      have I2 : Inv X pins σ H1 { s1 with heap := h' } := I1.kept (t' := s1.toks) hk
      exact ⟨s1.heap.objs.size + 1, [s1.heap.objs.size + 1, s1.heap.objs.size], _, _, H1, rfl, I2, turn_enumT a (s1.heap.objs.size + 1) s1.heap.objs.size (Nat.ne_of_lt hlt) (Nat.ne_of_lt (Nat.lt_succ_of_lt hlt)), ⟨⟨.none, he⟩, ⟨_, hit, rfl, rfl⟩, Nat.succ_ne_self _⟩, fresh2, q⟩
end Tw

set_option Elab.async false
set_option linter.all false
set_option maxRecDepth 100000
set_option maxHeartbeats 1000000
namespace Tw
open PySem PySem.Spec PyProof.Rows L2
open PySem.Sem (wp)

section
variable {prog : Program} {w : World} {A : Around} {E : Value → Shared → Prop} {s : Shared}
/-- the iterator at it gives u, and is then as Aft says -/
def Gives (prog : Program) (w : World) (it : Addr) (u : Value) (Aft : Heap → Prop) (g : Shared) : Prop :=
  ∀ (B : Around) (F : Value → Shared → Prop) (R : Value → Shared → Prop), (∀ k, Aft k → Heap.SameBut it g.heap k → R u { g with heap := k }) → wpAny (model prog w) B (Builtin.SmallTypes.nextOf (.ref it)) R F g
/-- the iterator at it is through -/
def Ends0 (prog : Program) (w : World) (it : Addr) (g : Shared) : Prop :=
  ∀ (B : Around) (F : Value → Shared → Prop) (R : Value → Shared → Prop), B.handled = none → (∀ k e, Heap.ExtBut it g.heap k → (∃ o, k.get? e = some o ∧ o.cls = .type "StopIteration") → F (.ref e) { g with heap := k }) → wpAny (model prog w) B (Builtin.SmallTypes.nextOf (.ref it)) R F g
/-- all but three, then four places are kept -/
def But (l : List Addr) (g k : Heap) : Prop := ∀ c o, c ∉ l → g.get? c = some o → k.get? c = some o
structure Apt (zz pI pO ia ib : Addr) : Prop where
  a1 : pI ≠ zz
  a2 : pO ≠ zz
  a3 : ia ≠ zz
  a4 : ib ≠ zz
  a5 : pO ≠ ia
  a6 : pO ≠ ib
  a7 : ia ≠ ib
theorem zipG_item {zz pI pO ia ib : Addr} {u v d e : Value} {F1 F2 : Heap → Prop} {R : Value → Shared → Prop} (Z : Apt zz pI pO ia ib)
    (hz : IsZip s.heap zz pI pO .none) (hI : IsPair s.heap pI (.ref ia) (.ref ib)) (hO : IsPair s.heap pO d e)
    (n1 : ∀ k, But [zz] s.heap k → Gives prog w ia u F1 { s with heap := k }) (n2 : ∀ k, But [zz, pO, ia] s.heap k → Gives prog w ib v F2 { s with heap := k })
    (f1 : ∀ g k, F1 g → (∀ o, g.get? ia = some o → k.get? ia = some o) → F1 k) (f2 : ∀ g k, F2 g → (∀ o, g.get? ib = some o → k.get? ib = some o) → F2 k) (l1 : ia < s.heap.objs.size) (l2 : ib < s.heap.objs.size)
    (x1 : ∀ k, F1 k → ∃ o, k.get? ia = some o) (x2 : ∀ k, F2 k → ∃ o, k.get? ib = some o)
    (hR : ∀ k, IsZip k zz pI pO (rawInt s.heap.objs.size) → IsPair k pO u v → F1 k → F2 k → IsPair k s.heap.objs.size u v → k.objs.size = s.heap.objs.size + 1 → But [zz, pO, ia, ib] s.heap k → R (.ref s.heap.objs.size) { s with heap := k }) :
    wpAny (model prog w) A (Builtin.«zip.__next__» ⟨[.ref zz], []⟩) (fun fin t => ∃ r, fin = .done (.ret r) ∧ R r t) E s := by
  show wpAny _ _ (field (.ref zz) 2 >>= _) _ _ _
  refine wpAny_bind (wpAny_field hz rfl (x := .bool false) rfl ?_)
  show wpAny _ _ (field (.ref zz) 3 >>= _) _ _ _
  refine wpAny_bind (wpAny_field hz rfl (x := .ref pI) rfl ?_)
  refine wpAny_bind (wpAny_seqItems hI rfl ?_)
  show wpAny _ _ (Builtin.SmallTypes.ownedTupleIsFree (.ref zz) >>= _) _ _ _
  refine wpAny_bind (by
    unfold Builtin.SmallTypes.ownedTupleIsFree
    exact wpAny_bind (wpAny_field hz rfl (x := .none) rfl (wpAny_pure (by
      simp only [if_true]
      refine wpAny_bind (wpAny_rule ?_)
      refine wpAny_bind (wpAny_field hz rfl (x := .ref pO) rfl ?_)
      refine wpAny_bind (wpAny_setField_rec hz (by simp) fun k1 z1 b1 => ?_)
      replace z1 : IsZip k1 zz pI pO .ellipsis := z1
      simp only [List.zipIdx_cons, List.zipIdx_nil, List.forIn_cons, List.forIn_nil]
      have w1 : But [zz] s.heap k1 := fun c o n q => b1.extBut _ _ (by simpa using n) q
      refine wpAny_bind (wpAny_bind (wpAny_bind (wpAny_onRaise ?_)))
      show wpAny _ _ (Builtin.SmallTypes.nextOf (.ref ia) >>= _) _ _ _
      refine wpAny_bind (n1 k1 w1 _ _ _ fun k2 g2 b2 => wpAny_pure ?_)
      have o2 : IsPair k2 pO d e := b2.extBut _ _ Z.a5 (b1.extBut _ _ Z.a2 hO)
      refine wpAny_bind (wpAny_seqItems o2 rfl ?_)
      refine wpAny_bind (wpAny_updateSeq_pair o2 fun k3 o3 b3 => ?_)
      replace o3 : IsPair k3 pO u e := o3
      refine wpAny_bind (wpAny_letGo (wpAny_pure ?_))
      have w3 : But [zz, pO, ia] s.heap k3 := fun c o n q => by
        simp only [List.mem_cons, List.not_mem_nil, or_false, not_or] at n
        exact b3.extBut _ _ n.2.1 (b2.extBut _ _ n.2.2 (b1.extBut _ _ n.1 q))
      refine wpAny_bind (wpAny_bind (wpAny_onRaise ?_))
      show wpAny _ _ (Builtin.SmallTypes.nextOf (.ref ib) >>= _) _ _ _
      refine wpAny_bind (n2 k3 w3 _ _ _ fun k4 g4 b4 => wpAny_pure ?_)
      have o4 : IsPair k4 pO u e := b4.extBut _ _ Z.a6 o3
      refine wpAny_bind (wpAny_seqItems o4 rfl ?_)
      refine wpAny_bind (wpAny_updateSeq_pair o4 fun k5 o5 b5 => ?_)
      replace o5 : IsPair k5 pO u v := o5
      refine wpAny_bind (wpAny_letGo (wpAny_pure (wpAny_pure ?_)))
      refine wpAny_bind (wpAny_seqItems o5 rfl ?_)
      refine wpAny_bind (wpAny_newTuple ?_)
      have sz : k5.objs.size = s.heap.objs.size := by rw [b5.1, b4.1, b3.1, b2.1, b1.1]
      have z5 : IsZip k5 zz pI pO .ellipsis := b5.extBut _ _ Z.a2.symm (b4.extBut _ _ Z.a4.symm (b3.extBut _ _ Z.a2.symm (b2.extBut _ _ Z.a3.symm z1)))
      have w5 : But [zz, pO, ia, ib] s.heap k5 := fun c o n q => by
        simp only [List.mem_cons, List.not_mem_nil, or_false, not_or] at n
        obtain ⟨n1, n2, n3, n4⟩ := n
        exact b5.extBut _ _ n2 (b4.extBut _ _ n4 (w3 c o (by simp [n1, n2, n3]) q))
      have g5 : F1 k5 := f1 k2 k5 g2 fun o q => b5.extBut _ _ (Ne.symm Z.a5) (b4.extBut _ _ Z.a7 (b3.extBut _ _ (Ne.symm Z.a5) q))
      have g6 : F2 k5 := f2 k4 k5 g4 fun o q => b5.extBut _ _ (Ne.symm Z.a6) q
      have zl : zz < k5.objs.size := Heap.lt_size z5
      show wpAny _ _ (Builtin.SmallTypes.ownedTupleHandOut (.ref zz) (.ref k5.objs.size) >>= _) _ _ _
      refine wpAny_bind ?_
      unfold Builtin.SmallTypes.ownedTupleHandOut
      have z6 : IsZip (k5.push { cls := .type "tuple", data := .seq #[u, v] }) zz pI pO .ellipsis := Heap.get?_push_of_some _ z5
      refine wpAny_bind (wpAny_setField_rec z6 (by simp) fun k7 z7 b7 => ?_)
      replace z7 : IsZip k7 zz pI pO (rawInt k5.objs.size) := z7
      refine wpAny_setField_rec z7 (by simp) fun k8 z8 b8 => ?_
      replace z8 : IsZip k8 zz pI pO (rawInt k5.objs.size) := z8
      have up : ∀ c o, c ≠ zz → k5.get? c = some o → k8.get? c = some o := fun c o n q => b8.extBut _ _ n (b7.extBut _ _ n (Heap.get?_push_of_some _ q))
      have t8 : IsPair k8 k5.objs.size u v := b8.extBut _ _ (Nat.ne_of_gt zl) (b7.extBut _ _ (Nat.ne_of_gt zl) (Heap.get?_push_size _ rfl))
      have s8 : k8.objs.size = k5.objs.size + 1 := by rw [b8.1, b7.1, Heap.size_push]
      rw [sz] at z8 t8 s8
      refine wpAny_pure ⟨_, rfl, ?_⟩
      show R (.ref k5.objs.size) _
      rw [sz]
      exact hR k8 z8 (up _ _ Z.a2 o5) (f1 k5 k8 g5 fun o q => up _ o Z.a3 q) (f2 k5 k8 g6 fun o q => up _ o Z.a4 q) t8 s8 fun c o n q => up c o (fun z => n (by simp [z])) (w5 c o n q)))))
theorem zipG_end {zz pI pO ia ib : Addr} {d e : Value} {R : Fin → Shared → Prop} (hd : A.handled = none) (Z : Apt zz pI pO ia ib)
    (hz : IsZip s.heap zz pI pO .none) (hI : IsPair s.heap pI (.ref ia) (.ref ib)) (hO : IsPair s.heap pO d e)
    (n : (∀ k, But [zz] s.heap k → Ends0 prog w ia { s with heap := k }) ∨ ∃ u, (∀ k, But [zz] s.heap k → Gives prog w ia u (fun _ => True) { s with heap := k }) ∧ ∀ k, But [zz, pO, ia] s.heap k → Ends0 prog w ib { s with heap := k })
    (hE : ∀ k x, But [zz, pO, ia, ib] s.heap k → (∃ o, k.get? x = some o ∧ o.cls = .type "StopIteration") → E (.ref x) { s with heap := k }) :
    wpAny (model prog w) A (Builtin.«zip.__next__» ⟨[.ref zz], []⟩) R E s := by
  show wpAny _ _ (field (.ref zz) 2 >>= _) _ _ _
  refine wpAny_bind (wpAny_field hz rfl (x := .bool false) rfl ?_)
  show wpAny _ _ (field (.ref zz) 3 >>= _) _ _ _
  refine wpAny_bind (wpAny_field hz rfl (x := .ref pI) rfl ?_)
  refine wpAny_bind (wpAny_seqItems hI rfl ?_)
  show wpAny _ _ (Builtin.SmallTypes.ownedTupleIsFree (.ref zz) >>= _) _ _ _
  refine wpAny_bind (by
    unfold Builtin.SmallTypes.ownedTupleIsFree
    exact wpAny_bind (wpAny_field hz rfl (x := .none) rfl (wpAny_pure (by
      simp only [if_true]
      refine wpAny_bind (wpAny_rule ?_)
      refine wpAny_bind (wpAny_field hz rfl (x := .ref pO) rfl ?_)
      refine wpAny_bind (wpAny_setField_rec hz (by simp) fun k1 z1 b1 => ?_)
      replace z1 : IsZip k1 zz pI pO .ellipsis := z1
      simp only [List.zipIdx_cons, List.zipIdx_nil, List.forIn_cons, List.forIn_nil]
      have w1 : But [zz] s.heap k1 := fun c o n q => b1.extBut _ _ (by simpa using n) q
      refine wpAny_bind (wpAny_bind (wpAny_bind (wpAny_onRaise ?_)))
      show wpAny _ _ (Builtin.SmallTypes.nextOf (.ref ia) >>= _) _ _ _
      rcases n with n | ⟨u, n1, n2⟩
      · refine wpAny_bind (n k1 w1 _ _ _ hd fun k2 x b2 hx => ?_)
        obtain ⟨ox, hox, hcx⟩ := hx
        have z2 : IsZip k2 zz pI pO .ellipsis := b2 _ _ Z.a3.symm z1
        have xz : x ≠ zz := fun q => by
          subst q
          rw [z2] at hox
          cases hox
          simp at hcx
        refine wpAny_setField_rec z2 (by simp) fun k3 _ b3 => hE k3 x (fun c o n q => ?_) ⟨ox, b3.extBut _ _ xz hox, hcx⟩
        simp only [List.mem_cons, List.not_mem_nil, or_false, not_or] at n
        exact b3.extBut _ _ n.1 (b2 _ _ n.2.2.1 (b1.extBut _ _ n.1 q))
      · refine wpAny_bind (n1 k1 w1 _ _ _ fun k2 _ b2 => wpAny_pure ?_)
        have o2 : IsPair k2 pO d e := b2.extBut _ _ Z.a5 (b1.extBut _ _ Z.a2 hO)
        refine wpAny_bind (wpAny_seqItems o2 rfl ?_)
        refine wpAny_bind (wpAny_updateSeq_pair o2 fun k3 o3 b3 => ?_)
        refine wpAny_bind (wpAny_letGo (wpAny_pure ?_))
        have w3 : But [zz, pO, ia] s.heap k3 := fun c o n q => by
          simp only [List.mem_cons, List.not_mem_nil, or_false, not_or] at n
          exact b3.extBut _ _ n.2.1 (b2.extBut _ _ n.2.2 (b1.extBut _ _ n.1 q))
        refine wpAny_bind (wpAny_bind (wpAny_onRaise ?_))
        show wpAny _ _ (Builtin.SmallTypes.nextOf (.ref ib) >>= _) _ _ _
        refine wpAny_bind (n2 k3 w3 _ _ _ hd fun k4 x b4 hx => ?_)
        obtain ⟨ox, hox, hcx⟩ := hx
        have z4 : IsZip k4 zz pI pO .ellipsis := b4 _ _ Z.a4.symm (b3.extBut _ _ Z.a2.symm (b2.extBut _ _ Z.a3.symm z1))
        have xz : x ≠ zz := fun q => by
          subst q
          rw [z4] at hox
          cases hox
          simp at hcx
        refine wpAny_setField_rec z4 (by simp) fun k5 _ b5 => hE k5 x (fun c o n q => ?_) ⟨ox, b5.extBut _ _ xz hox, hcx⟩
        simp only [List.mem_cons, List.not_mem_nil, or_false, not_or] at n
        obtain ⟨n1, n2, n3, n4⟩ := n
        exact b5.extBut _ _ n1 (b4 _ _ n4 (w3 c o (by simp [n1, n2, n3]) q))))))

theorem pyNext_TL {zz pI pO ia ib t l : Addr} {i : Nat} {us vs : Array Value} {u v d e : Value} {R : Option Value → Shared → Prop} (D : ZipApart zz pI pO ia ib t l)
    (hz : IsZip s.heap zz pI pO .none) (hI : IsPair s.heap pI (.ref ia) (.ref ib)) (hO : IsPair s.heap pO d e) (h1 : s.heap.IsTupleIter ia t i) (h2 : s.heap.IsListIter ib l i) (ht : s.heap.IsTuple t us) (hl : s.heap.IsList l vs) (hu : us[i]? = some u) (hv : vs[i]? = some v)
    (hR : ∀ k, IsZip k zz pI pO (rawInt s.heap.objs.size) → IsPair k pO u v → k.IsTupleIter ia t (i + 1) → k.IsListIter ib l (i + 1) → IsPair k s.heap.objs.size u v → k.objs.size = s.heap.objs.size + 1 → But [zz, pO, ia, ib] s.heap k → R (some (.ref s.heap.objs.size)) { s with heap := k }) :
    wpAny (model prog w) A (pyNext (.ref zz)) R E s := by
  have hT : s.TypeIs (.ref zz) "zip" := ⟨_, hz, rfl⟩
  unfold pyNext
  refine wpAny_bind (wpAny_attempt (wpAny_callSpecial?_slot (name := Str.ofString "__next__") hT F.slot_zip_next (wpAny_call_entry F.slot_zip_next hT F.entry_zip_next ?_ (F.args_zip_next_1 _))))
  obtain ⟨o1, e1, _⟩ := id h1
  obtain ⟨o2, e2, _⟩ := id h2
  refine zipG_item (u := u) (v := v) (F1 := fun k => k.IsTupleIter ia t (i + 1)) (F2 := fun k => k.IsListIter ib l (i + 1)) ⟨D.TIz, D.TOz, D.i1z, D.i2z, D.TOi1, D.TOi2, D.i12⟩ hz hI hO (fun k b B F R q => ?_) (fun k b B F R q => ?_)
    (fun g k q f => q.at f) (fun g k q f => q.at f) (Heap.lt_size e1) (Heap.lt_size e2) (fun k ⟨o, e, _⟩ => ⟨o, e⟩) (fun k ⟨o, e, _⟩ => ⟨o, e⟩) fun k a1 a2 a3 a4 a5 a6 a7 => wpAny_pure (hR k a1 a2 a3 a4 a5 a6 a7)
  · refine RZ.nextOf_tuple_item (h1.at fun o z => b _ _ (by simpa using D.i1z) z) ?_ hu fun k2 h3 b2 => q k2 h3 b2
    obtain ⟨o, e, c⟩ := ht
    exact ⟨o, b _ _ (by simpa using D.l1z) e, c⟩
  · refine wpAny_nextOf_list_item (h2.at fun o z => b _ _ (by simp [D.i2z, D.TOi2.symm, D.i12.symm]) z) ?_ hv fun k2 h3 b2 => q k2 h3 b2
    obtain ⟨o, e, c⟩ := hl
    exact ⟨o, b _ _ (by simp [D.l2z, D.l2TO, D.l2i1]) e, c⟩
theorem pyNext_TL_end {zz pI pO ia ib t l : Addr} {i : Nat} {us vs : Array Value} {d e : Value} {R : Option Value → Shared → Prop} (hd : A.handled = none) (D : ZipApart zz pI pO ia ib t l)
    (hz : IsZip s.heap zz pI pO .none) (hI : IsPair s.heap pI (.ref ia) (.ref ib)) (hO : IsPair s.heap pO d e) (h1 : s.heap.IsTupleIter ia t i) (h2 : s.heap.IsListIter ib l i) (ht : s.heap.IsTuple t us) (hl : s.heap.IsList l vs) (hx : us[i]? = none ∨ vs[i]? = none)
    (hR : ∀ k, But [zz, pO, ia, ib] s.heap k → R none { s with heap := k }) : wpAny (model prog w) A (pyNext (.ref zz)) R E s := by
  have hT : s.TypeIs (.ref zz) "zip" := ⟨_, hz, rfl⟩
  unfold pyNext
  refine wpAny_bind (wpAny_attempt (wpAny_callSpecial?_slot (name := Str.ofString "__next__") hT F.slot_zip_next (wpAny_call_entry F.slot_zip_next hT F.entry_zip_next (zipG_end hd ⟨D.TIz, D.TOz, D.i1z, D.i2z, D.TOi1, D.TOi2, D.i12⟩ hz hI hO ?_ fun k x b hc => ?_) (F.args_zip_next_1 _))))
  · have ht' : ∀ k, But [zz] s.heap k → k.IsTuple t us := fun k b => by
      obtain ⟨o, e, c⟩ := ht
      exact ⟨o, b _ _ (by simpa using D.l1z) e, c⟩
    have hl' : ∀ k, But [zz, pO, ia] s.heap k → k.IsList l vs := fun k b => by
      obtain ⟨o, e, c⟩ := hl
      exact ⟨o, b _ _ (by simp [D.l2z, D.l2TO, D.l2i1]) e, c⟩
    cases hu : us[i]? with
    | none => exact .inl fun k b B F R hb q => RZ.nextOf_tuple_end hb (h1.at fun o z => b _ _ (by simpa using D.i1z) z) (ht' k b) hu fun k2 x b2 c => q k2 x b2 c
    | some u =>
      have hv : vs[i]? = none := by
        rcases hx with q | q
        · rw [hu] at q; cases q
        · exact q
      exact .inr ⟨u, fun k b B F R q => RZ.nextOf_tuple_item (h1.at fun o z => b _ _ (by simpa using D.i1z) z) (ht' k b) hu fun k2 _ b2 => q k2 trivial b2,
        fun k b B F R hb q => wpAny_nextOf_list_end hb (h2.at fun o z => b _ _ (by simp [D.i2z, D.TOi2.symm, D.i12.symm]) z) (hl' k b) hv fun k2 x b2 c => q k2 x b2 c⟩
  · obtain ⟨o, ho, hcl⟩ := hc
    exact wpAny_bind (wpAny_isInstance (T := "StopIteration") (b := true) ⟨o, ho, hcl⟩ isSubtype_stop (wpAny_pure (hR _ b)))
end
abbrev zs1 (k : Heap) (t : Addr) : Heap := k.push { cls := .type "tuple_iterator", data := .fields #[.ref t, .int 0 0] }
abbrev zs2 (k : Heap) (t l : Addr) : Heap := (zs1 k t).push { cls := .type "list_iterator", data := .fields #[.ref l, .int 0 0] }
abbrev zs3 (k : Heap) (t l : Addr) : Heap := (zs2 k t l).push { cls := .type "tuple", data := .seq #[.ref k.objs.size, .ref (zs1 k t).objs.size] }
abbrev zs4 (k : Heap) (t l : Addr) : Heap := (zs3 k t l).push { cls := .type "tuple", data := .seq #[.none, .none] }
abbrev zs5 (k : Heap) (t l : Addr) : Heap := (zs4 k t l).push { cls := .type "zip", data := .fields #[.none, .bool false, .bool false, .ref (zs2 k t l).objs.size, .ref (zs3 k t l).objs.size] }
theorem meets_TL (t l : Addr) (us vs : Array Value) :
    Meets (Builtin.«zip.__new__» ⟨[.type "zip", .ref t, .ref l], []⟩) (fun _ R s => s.heap.IsTuple t us ∧ s.heap.IsList l vs ∧ R (.ok (.ret (.ref (zs4 s.heap t l).objs.size))) { s with heap := zs5 s.heap t l }) :=
  .of_wp fun prog w A R s q => by
    obtain ⟨k, g, dd, tk, os⟩ := s
    obtain ⟨q1, q2, q⟩ := q
    have hsub := sub_zip
    have i1 : Heap.IsTuple (Shared.heap ⟨k, g, dd, tk, os⟩) t us := q1
    have i2 : Heap.IsList (Shared.heap ⟨k.push { cls := .type "tuple_iterator", data := .fields #[.ref t, .int 0 0] }, g, dd, tk, os⟩) l vs := Heap.IsList.push q2 _
    wp_walk using wpAny_pyIter_tuple i1, wpAny_pyIter_list i2
    exact ⟨_, rfl, q⟩
section
variable {prog : Program} {w : World} {A : Around} {E : Value → Shared → Prop} {s : Shared}
theorem call_TL {t l : Addr} {us vs : Array Value} {R : Value → Shared → Prop} (ht : s.heap.IsTuple t us) (hl : s.heap.IsList l vs)
    (q : ∀ k, IsZip k (s.heap.objs.size + 4) (s.heap.objs.size + 2) (s.heap.objs.size + 3) .none → IsPair k (s.heap.objs.size + 2) (.ref s.heap.objs.size) (.ref (s.heap.objs.size + 1)) → IsPair k (s.heap.objs.size + 3) .none .none →
      k.IsTupleIter s.heap.objs.size t 0 → k.IsListIter (s.heap.objs.size + 1) l 0 → (∀ c o, s.heap.get? c = some o → k.get? c = some o) → R (.ref (s.heap.objs.size + 4)) { s with heap := k }) :
    wpAny (model prog w) A (call (.type "zip") [.ref t, .ref l]) R E s := by
  refine callType_new F.called_zip (by decide) (F.typeCall_zip_2 _ _) (F.newCall_zip_2 _ _) (fun obj => F.args_object_init_3 obj _ _) F.entry_zip_new (meets_TL t l us vs) ⟨ht, hl, ?_⟩
  have m1 : (zs1 s.heap t).objs.size = s.heap.objs.size + 1 := Heap.size_push ..
  have m2 : (zs2 s.heap t l).objs.size = s.heap.objs.size + 2 := (Heap.size_push ..).trans (congrArg (· + 1) m1)
  have m3 : (zs3 s.heap t l).objs.size = s.heap.objs.size + 3 := (Heap.size_push ..).trans (congrArg (· + 1) m2)
  have m4 : (zs4 s.heap t l).objs.size = s.heap.objs.size + 4 := (Heap.size_push ..).trans (congrArg (· + 1) m3)
  have up {k : Heap} {c : Addr} {o o' : Obj} (e : k.get? c = some o) : (k.push o').get? c = some o := Heap.get?_push_of_some _ e
  have v5 : (zs5 s.heap t l).get? (zs4 s.heap t l).objs.size = some _ := Heap.get?_push_size _ rfl
  have v4 : (zs5 s.heap t l).get? (zs3 s.heap t l).objs.size = some _ := up (Heap.get?_push_size _ rfl)
  have v3 : (zs5 s.heap t l).get? (zs2 s.heap t l).objs.size = some _ := up (up (Heap.get?_push_size _ rfl))
  have v2 : (zs5 s.heap t l).get? (zs1 s.heap t).objs.size = some _ := up (up (up (Heap.get?_push_size _ rfl)))
  have v1 : (zs5 s.heap t l).get? s.heap.objs.size = some _ := up (up (up (up (Heap.get?_push_size _ rfl))))
  rw [m2, m3, m4] at v5
  rw [m3] at v4
  rw [m1, m2] at v3
  rw [m1] at v2
  show _ ∧ _
  rw [m4]
  exact ⟨⟨_, v5, rfl⟩, q _ v5 v3 v4 ⟨_, v1, rfl, rfl⟩ ⟨_, v2, rfl, rfl⟩ fun c o e => up (up (up (up (up e))))⟩
end
/-- the tuple at a, the list at b -/
def ItzM (K : PySem.W.Frag) (a b : Addr) : It :=
  ⟨fun i H => ∃ (xs ys : List V) (x y : V), (SqT K H a xs ∧ xs[i]? = some x) ∧ SqL K H b ys ∧ ys[i]? = some y,
    fun i H v H' => ∃ T x y, (v = .ref T ∧ H T = none ∧ H' = upd H T (.tup [x, y])) ∧ (∀ xs, SqT K H a xs → xs[i]? = some x) ∧ ∀ ys, SqL K H b ys → ys[i]? = some y,
    fun i H => ∃ xs ys : List V, SqT K H a xs ∧ SqL K H b ys ∧ (xs.length ≤ i ∨ ys.length ≤ i)⟩
theorem turn_TL {P : Program} {w : World} {K : PySem.W.Frag} {es : List Expr} {kk : Nat} {tp : Pos} {a b zz pI pO ia ib : Addr} (D : ZipApart zz pI pO ia ib a b) :
    Turn P w K (.Tuple es kk tp) (ItzM K a b) [zz, pI, pO, ia, ib] zz (fun i k => IsZip k zz pI pO .none ∧ IsPair k pI (.ref ia) (.ref ib) ∧ (∃ x y, IsPair k pO x y) ∧ k.IsTupleIter ia a i ∧ k.IsListIter ib b i) where
  mem := by simp
  obj := fun i k st c hc => by
    obtain ⟨q1, q2, ⟨x, y, q3⟩, ⟨o1, e1, _, d1⟩, ⟨o2, e2, _, d2⟩⟩ := st
    simp only [List.mem_cons, List.not_mem_nil, or_false] at hc
    rcases hc with rfl | rfl | rfl | rfl | rfl
    · exact ⟨_, q1, fun v q => nomatch q⟩
    · exact ⟨_, q2, fun v q => nomatch q⟩
    · exact ⟨_, q3, fun v q => nomatch q⟩
    · exact ⟨o1, e1, fun v q => by rw [d1] at q; cases q⟩
    · exact ⟨o2, e2, fun v q => by rw [d2] at q; cases q⟩
  keep := fun i k k' st m => by
    obtain ⟨q1, q2, ⟨x, y, q3⟩, q4, q5⟩ := st
    exact ⟨m zz (by simp) _ q1, m pI (by simp) _ q2, ⟨x, y, m pO (by simp) _ q3⟩, q4.at fun o q => m ia (by simp) o q, q5.at fun o q => m ib (by simp) o q⟩
  item := by
    intro X hP hw hK hc i pins s σ H E I hf st hg
    subst hP hw hK
    obtain ⟨q1, q2, ⟨x0, y0, q3⟩, q4, q5⟩ := st
    obtain ⟨xs, ys, x, y, ⟨sx, hx⟩, sy, hy⟩ := hg
    obtain ⟨us, rv, p, _⟩ := I.tuple sx
    obtain ⟨vs, rv2, p2, _⟩ := I.list sy
    obtain ⟨u, hu, ru⟩ := rv.get hx
    obtain ⟨v, hv, rw2⟩ := rv2.get hy
    have zl : zz < s.heap.objs.size := Heap.lt_size q1
    refine pyNext_TL D q1 q2 q3 q4 q5 p p2.isList (u := u) (v := v) (by simpa using hu) (by simpa using hv) fun k z1 z2 z3 z4 z5 z6 bt => ?_
    refine ⟨_, rfl, wpAny_letOwnedTupleGo_zip (s := { s with heap := k }) z1 fun k2 z1' sb => ?_⟩
    have hT : k2.get? s.heap.objs.size = some { cls := .type "tuple", data := .seq #[u, v] } := (sb.2 _ (Nat.ne_of_gt zl)).trans z5
    have mem : ∀ c, c ∉ [zz, pI, pO, ia, ib] → c ∉ [zz, pO, ia, ib] ∧ c ≠ zz := fun c hb => by
      simp only [List.mem_cons, List.not_mem_nil, or_false, not_or] at hb ⊢
      exact ⟨⟨hb.1, hb.2.2.1, hb.2.2.2.1, hb.2.2.2.2⟩, hb.1⟩
    have I1 : Inv X pins σ (upd H s.heap.objs.size (.tup [x, y])) { s with heap := k2 } :=
      I.turnedNew (t' := s.toks) (ch := [zz, pI, pO, ia, ib]) (fun c o hb q => (sb.2 c (mem c hb).2).trans (bt c o (mem c hb).1 q)) hf (Nat.le_refl _)
        ⟨show 2 ≤ sizeLine by decide, [u, v], .cons ru (.cons rw2 .nil), ⟨_, hT, rfl, _, rfl⟩⟩
    refine ⟨.ref s.heap.objs.size, _, I1, rfl, ⟨_, x, y, ⟨rfl, I.hok.fresh (Nat.le_refl _), rfl⟩, fun l hl => by rw [I.tuple_inj hl sx]; exact hx, fun l hl => by rw [I.list_inj hl sy]; exact hy⟩, ⟨z1', ?_, ⟨u, v, ?_⟩, ?_, ?_⟩, fun c hcm => ?_⟩
    · exact (sb.2 _ D.TIz).trans (bt _ _ (by simp [D.TIz, D.TITO, D.TIi1, D.TIi2]) q2)
    · exact (sb.2 _ D.TOz).trans z2
    · exact z3.at fun o q => (sb.2 _ D.i1z).trans q
    · exact z4.at fun o q => (sb.2 _ D.i2z).trans q
    · have hlt : c < s.heap.objs.size := by
        have hcm' := hcm
        simp only [List.mem_cons, List.not_mem_nil, or_false] at hcm'
        obtain ⟨_, e1, _⟩ := q4
        obtain ⟨_, e2, _⟩ := q5
        rcases hcm' with rfl | rfl | rfl | rfl | rfl
        · exact zl
        · exact Heap.lt_size q2
        · exact Heap.lt_size q3
        · exact Heap.lt_size e1
        · exact Heap.lt_size e2
      rw [upd_ne (Nat.ne_of_lt hlt)]
      exact (hf c hcm).1
  done := by
    intro X hP hw hK hc i pins s σ H E I hf st hg
    subst hP hw hK
    obtain ⟨q1, q2, ⟨x0, y0, q3⟩, q4, q5⟩ := st
    obtain ⟨xs, ys, sx, sy, he⟩ := hg
    obtain ⟨us, rv, p, _⟩ := I.tuple sx
    obtain ⟨vs, rv2, p2, _⟩ := I.list sy
    have n1 := rv.length
    have n2 := rv2.length
    have hx : us.toArray[i]? = none ∨ vs.toArray[i]? = none := he.imp (fun q => by simp; omega) fun q => by simp; omega
    refine pyNext_TL_end (I.ok.hd hc) D q1 q2 q3 q4 q5 p p2.isList hx fun k bt => ⟨rfl, I.turnedL (t' := s.toks) (ch := [zz, pI, pO, ia, ib]) (fun c o hb q => bt c o ?_ q) hf⟩
    simp only [List.mem_cons, List.not_mem_nil, or_false, not_or] at hb ⊢
    exact ⟨hb.1, hb.2.2.1, hb.2.2.2.1, hb.2.2.2.2⟩
  self := fun A i s Q E st h => wpAny_pyIter_zip st.1 h
def iZipM (K : PySem.W.Frag) (ta : TA) : TI := fun σ H R => ta σ H fun vs H1 => ∃ a b xs ys, vs = [.ref a, .ref b] ∧ ((SqL K H1 a xs ∧ SqL K H1 b ys ∧ R (Itz K a b) H1) ∨ (SqT K H1 a xs ∧ SqT K H1 b ys ∧ R (RZ.ItzT K a b) H1) ∨ (SqT K H1 a xs ∧ SqL K H1 b ys ∧ R (ItzM K a b) H1))
theorem pi_zipM {X : Cx} {e e2 : Expr} {ta : TA} {p pos tp : Pos} {es : List Expr} {kk : Nat} (hg : Gl X "zip") (hm : X.mg "zip" = none) (ha : PA X [e, e2] ta)
    (hs : starEach [e, e2] X.env = (false, eval e X.env) :: starEach [e2] X.env) (hpl : (backTo pos (starEach [e2] X.env)).any (·.1) = false) : PI X (.Tuple es kk tp) (.Call (.Name "zip" p) [e, e2] [] pos) (iZipM X.K ta) := by
  refine ⟨fun pins s σ H R I h => Call_ (ld_blt I hg hm PyProof.Rows.boot_zip (PyProof.Rows.callWith_type1 (thn (ha.run pos pins s σ H _ I h) fun us s1 ⟨vs, H1, I1, r1, q1⟩ => ?_) hs hpl))⟩
  obtain ⟨a, b, xs, ys, ex, q1⟩ := q1
  subst ex
  obtain ⟨u1, u2, rfl, ra, rb⟩ : ∃ u1 u2, us = [u1, u2] ∧ RelV (.ref a) u1 ∧ RelV (.ref b) u2 := by
    cases r1 with
    | cons r rr =>
      cases rr with
      | cons r' rr =>
        cases rr
        exact ⟨_, _, rfl, r, r'⟩
  cases ra
  cases rb
  have fr : ∀ c, c ∈ [s1.heap.objs.size + 4, s1.heap.objs.size + 2, s1.heap.objs.size + 3, s1.heap.objs.size, s1.heap.objs.size + 1] → FpOk X pins H1 c := fun c hc => by
    have le : s1.heap.objs.size ≤ c := by
      simp only [List.mem_cons, List.not_mem_nil, or_false] at hc
      rcases hc with rfl | rfl | rfl | rfl | rfl <;> omega
    exact I1.fpOk le (I1.hok.fresh le)
  rcases q1 with ⟨sx, sy, q⟩ | ⟨sx, sy, q⟩ | ⟨sx, sy, q⟩
  · obtain ⟨its, rv, p1, _⟩ := I1.list sx
    obtain ⟨its2, rv2, p2, _⟩ := I1.list sy
    exact call_zip_2 p1.isList p2.isList fun k z1 z2 z3 z4 z5 _ hk => wpAny_pyIter_zip z1 ⟨_, _, _, _, H1, rfl, I1.kept (t' := s1.toks) hk, turn_zip (PySem.W.ktu_apart s1.heap.objs.size a b p1.lt p2.lt), ⟨z1, z2, ⟨_, _, z3⟩, z4, z5⟩, fr, q⟩
  · obtain ⟨its, rv, p1, _⟩ := I1.tuple sx
    obtain ⟨its2, rv2, p2, _⟩ := I1.tuple sy
    exact RZ.call_zipT p1 p2 fun k z1 z2 z3 z4 z5 _ hk => wpAny_pyIter_zip z1 ⟨_, _, _, _, H1, rfl, I1.kept (t' := s1.toks) hk, RZ.turn_zipT (PySem.W.ktu_apart s1.heap.objs.size a b p1.lt p2.lt), ⟨z1, z2, ⟨_, _, z3⟩, z4, z5⟩, fr, q⟩
  · obtain ⟨its, rv, p1, _⟩ := I1.tuple sx
    obtain ⟨its2, rv2, p2, _⟩ := I1.list sy
    exact call_TL p1 p2.isList fun k z1 z2 z3 z4 z5 hk => wpAny_pyIter_zip z1 ⟨_, _, _, _, H1, rfl, I1.kept (t' := s1.toks) hk, turn_TL (PySem.W.ktu_apart s1.heap.objs.size a b p1.lt p2.lt), ⟨z1, z2, ⟨_, _, z3⟩, z4, z5⟩, fr, q⟩
end Tw

set_option Elab.async false
set_option linter.all false
set_option maxRecDepth 100000
set_option maxHeartbeats 1000000
namespace Tw
open PySem PySem.Spec PyProof.Rows L2

/-- the iterator J gives the data ds, as long as its sources stand -/
structure Gd (K : PySem.W.Frag) (J : It) (srcs : List D) (vs : List V) (ds : List D) : Prop where
  go : ∀ H B i, RpA K H B srcs vs → i < ds.length → J.go i H
  stop : ∀ H B i, RpA K H B srcs vs → ds.length ≤ i → J.stop i H
  yld : ∀ H B i x H', RpA K H B srcs vs → J.yld i H x H' → ∀ d, ds[i]? = some d → Rp K H' B d x ∧ Grw H H'
def tMi (G : Gv) (m : Rho → Res (List D)) : TI := fun σ H R => ∃ ρ, Rl G.K G.B0 ρ σ H ∧ post G σ ρ H (fun ds ρ' H' => ∀ J srcs vs, Gd G.K J srcs vs ds → RpA G.K H' (G.B ρ' σ) srcs vs → ds.length ≤ sizeLine → R J H') (m ρ)

section
variable {K : PySem.W.Frag}
theorem inj_list {H : Hp} {a : Addr} {xs ys : List V} (h1 : Rd H a (.lst xs)) (h2 : SqL K H a ys) (hk : K.lookup a = none) : xs = ys := by
  rcases h2 with h2 | ⟨o, _, _, e, _⟩
  · rcases h1 with h1 | ⟨o, h1⟩ <;> rcases h2 with h2 | ⟨o2, h2⟩ <;> (rw [h1] at h2; cases h2) <;> rfl
  · rw [hk] at e; cases e
theorem gd_list {a : Addr} {vs : List V} {ds : List D} : Gd K (Itl K a) [.list ds] [.ref a] ds where
  go := fun H B i h hi => by
    cases h with
    | cons h t => cases h with
      | lst r n z ra => exact ⟨_, _, .inl r, List.getElem?_eq_getElem (by rw [← ra.length]; exact hi)⟩
  stop := fun H B i h hi => by
    cases h with
    | cons h t => cases h with
      | lst r n z ra => exact ⟨_, .inl r, by rw [← ra.length]; exact hi⟩
  yld := fun H B i x H' h y d e => by
    obtain ⟨rfl, y⟩ := y
    cases h with
    | cons h t => cases h with
      | lst r n z ra =>
        obtain ⟨v, e1, e2⟩ := ra.get e
        have e3 := y _ (.inl r)
        rw [e1] at e3
        cases e3
        exact ⟨e2, Grw.refl⟩
theorem gd_tup {a : Addr} {vs : List V} {ds : List D} : Gd K (Itt K a) [.tuple ds] [.ref a] ds where
  go := fun H B i h hi => by
    cases h with
    | cons h t => cases h with
      | tup r z ra => exact ⟨_, _, r, List.getElem?_eq_getElem (by rw [← ra.length]; exact hi)⟩
  stop := fun H B i h hi => by
    cases h with
    | cons h t => cases h with
      | tup r z ra => exact ⟨_, r, by rw [← ra.length]; exact hi⟩
  yld := fun H B i x H' h y d e => by
    obtain ⟨rfl, y⟩ := y
    cases h with
    | cons h t => cases h with
      | tup r z ra =>
        obtain ⟨v, e1, e2⟩ := ra.get e
        have e3 := y _ r
        rw [e1] at e3
        cases e3
        exact ⟨e2, Grw.refl⟩
theorem charsD_len (x : Str) : (charsD x).length = x.length := by unfold charsD; rw [List.length_map, Array.length_toList]; rfl
theorem gd_str {x : Str} : Gd K (Its x) [] [] (charsD x) where
  go := fun H B i h hi => by rw [charsD_len] at hi; exact hi
  stop := fun H B i h hi => by rw [charsD_len] at hi; exact hi
  yld := fun H B i v H' h y d e => by
    obtain ⟨rfl, c, hc, rfl⟩ := y
    unfold charsD at e
    rw [List.getElem?_map, Array.getElem?_toList, hc] at e
    cases e
    exact ⟨.str _, Grw.refl⟩
theorem rangeL_get {lo : Int} {n i : Nat} {d : D} (e : (rangeL lo n)[i]? = some d) : d = .int (lo + (i : Int)) := by
  unfold rangeL at e
  rw [List.getElem?_map] at e
  obtain ⟨k, e1, e2⟩ := Option.map_eq_some_iff.mp e
  rw [List.getElem?_range (by
    obtain ⟨h, _⟩ := List.getElem?_eq_some_iff.mp e1
    simpa using h)] at e1
  cases e1
  exact e2.symm
theorem rangeL_len (lo : Int) (n : Nat) : (rangeL lo n).length = n := by simp [rangeL]
theorem gd_range {lo : Int} {n : Nat} : Gd K (Itr lo n) [] [] (rangeL lo n) where
  go := fun H B i h hi => by rw [rangeL_len] at hi; exact hi
  stop := fun H B i h hi => by rw [rangeL_len] at hi; exact hi
  yld := fun H B i x H' h y d e => by
    obtain ⟨rfl, rfl⟩ := y
    rw [rangeL_get e]
    exact ⟨.int _, Grw.refl⟩
theorem gd_rangeC {lo c : Int} {n : Nat} : Gd K (Itc lo c n) [] [] (rangeC lo c n) where
  go := fun H B i h hi => by rw [rangeC_len] at hi; exact hi
  stop := fun H B i h hi => by rw [rangeC_len] at hi; exact hi
  yld := fun H B i x H' h y d e => by
    obtain ⟨rfl, rfl⟩ := y
    rw [rangeC_get e]
    exact ⟨.int _, Grw.refl⟩
theorem enum_len : ∀ (k : Nat) (ds : List D), (enumFrom k ds).length = ds.length
  | _, [] => rfl
  | k, _ :: r => by show (enumFrom (k + 1) r).length + 1 = _; rw [enum_len]; rfl
theorem enum_get : ∀ {k : Nat} {ds : List D} {i : Nat} {d : D}, (enumFrom k ds)[i]? = some d → ∃ x, ds[i]? = some x ∧ d = .tuple [.int ((k + i : Nat) : Int), x]
  | k, [], i, d, e => by simp [enumFrom] at e
  | k, x :: r, 0, d, e => by
    have e' : some (PyData.tuple [.int k, x]) = some d := e
    cases e'
    exact ⟨x, rfl, by simp⟩
  | k, x :: r, i + 1, d, e => by
    obtain ⟨y, e1, e2⟩ := enum_get (k := k + 1) (ds := r) (i := i) (show (enumFrom (k + 1) r)[i]? = some d by simpa [enumFrom] using e)
    refine ⟨y, by simpa using e1, ?_⟩
    rw [e2]
    congr 3
    omega
theorem gd_enum {a : Addr} {ds : List D} : Gd K (Ite K a) [.list ds] [.ref a] (enumFrom 0 ds) where
  go := fun H B i h hi => by
    rw [enum_len] at hi
    cases h with
    | cons h t => cases h with
      | lst r n z ra => exact ⟨_, _, .inl r, List.getElem?_eq_getElem (by rw [← ra.length]; exact hi)⟩
  stop := fun H B i h hi => by
    rw [enum_len] at hi
    cases h with
    | cons h t => cases h with
      | lst r n z ra => exact ⟨_, .inl r, by rw [← ra.length]; exact hi⟩
  yld := fun H B i x H' h y d e => by
    obtain ⟨T, w, rfl, hT, rfl, y⟩ := y
    obtain ⟨dx, e1, rfl⟩ := enum_get e
    cases h with
    | cons h t => cases h with
      | lst r n z ra =>
        obtain ⟨v, e2, e3⟩ := ra.get e1
        have e4 := y _ (.inl r)
        rw [e2] at e4
        cases e4
        refine ⟨.tup (.inl (.inl upd_same)) (show 2 ≤ sizeLine by decide) (.cons ?_ (.cons (e3.grw (Grw.new hT)) .nil)), Grw.new hT⟩
        rw [Nat.zero_add]
        exact .int _
theorem gd_enumT {a : Addr} {ds : List D} : Gd K (IteT K a) [.tuple ds] [.ref a] (enumFrom 0 ds) where
  go := fun H B i h hi => by
    rw [enum_len] at hi
    cases h with
    | cons h t => cases h with
      | tup r z ra => exact ⟨_, _, r, List.getElem?_eq_getElem (by rw [← ra.length]; exact hi)⟩
  stop := fun H B i h hi => by
    rw [enum_len] at hi
    cases h with
    | cons h t => cases h with
      | tup r z ra => exact ⟨_, r, by rw [← ra.length]; exact hi⟩
  yld := fun H B i x H' h y d e => by
    obtain ⟨T, w, rfl, hT, rfl, y⟩ := y
    obtain ⟨dx, e1, rfl⟩ := enum_get e
    cases h with
    | cons h t => cases h with
      | tup r z ra =>
        obtain ⟨v, e2, e3⟩ := ra.get e1
        have e4 := y _ r
        rw [e2] at e4
        cases e4
        refine ⟨.tup (.inl (.inl upd_same)) (show 2 ≤ sizeLine by decide) (.cons ?_ (.cons (e3.grw (Grw.new hT)) .nil)), Grw.new hT⟩
        rw [Nat.zero_add]
        exact .int _
theorem zip_len : ∀ (xs ys : List D), (zipL xs ys).length = min xs.length ys.length
  | [], ys => by simp [zipL]
  | _ :: _, [] => by simp [zipL]
  | _ :: r, _ :: s => by show (zipL r s).length + 1 = _; rw [zip_len]; simp
theorem zip_get : ∀ {xs ys : List D} {i : Nat} {d : D}, (zipL xs ys)[i]? = some d → ∃ x y, xs[i]? = some x ∧ ys[i]? = some y ∧ d = .tuple [x, y]
  | [], ys, i, d, e => by simp [zipL] at e
  | x :: r, [], i, d, e => by simp [zipL] at e
  | x :: r, y :: s, 0, d, e => by
    have e' : some (PyData.tuple [x, y]) = some d := e
    cases e'
    exact ⟨x, y, rfl, rfl, rfl⟩
  | x :: r, y :: s, i + 1, d, e => by
    obtain ⟨a, b, e1, e2, e3⟩ := zip_get (xs := r) (ys := s) (i := i) (show (zipL r s)[i]? = some d by simpa [zipL] using e)
    exact ⟨a, b, by simpa using e1, by simpa using e2, e3⟩
theorem gd_zipL {a b : Addr} {xs ys : List D} : Gd K (Itz K a b) [.list xs, .list ys] [.ref a, .ref b] (zipL xs ys) where
  go := fun H B i h hi => by
    rw [zip_len] at hi
    cases h with
    | cons h t => cases t with
      | cons h2 t => cases h with
        | lst r n z ra => cases h2 with
          | lst r2 n2 z2 ra2 => exact ⟨_, _, _, _, .inl r, .inl r2, List.getElem?_eq_getElem (by rw [← ra.length]; omega), List.getElem?_eq_getElem (by rw [← ra2.length]; omega)⟩
  stop := fun H B i h hi => by
    rw [zip_len] at hi
    cases h with
    | cons h t => cases t with
      | cons h2 t => cases h with
        | lst r n z ra => cases h2 with
          | lst r2 n2 z2 ra2 => exact ⟨_, _, .inl r, .inl r2, by rw [← ra.length, ← ra2.length]; omega⟩
  yld := fun H B i x H' h y d e => by
    obtain ⟨T, w1, w2, rfl, hT, rfl, y1, y2⟩ := y
    obtain ⟨dx, dy, e1, e2, rfl⟩ := zip_get e
    cases h with
    | cons h t => cases t with
      | cons h2 t => cases h with
        | lst r n z ra => cases h2 with
          | lst r2 n2 z2 ra2 =>
            obtain ⟨v, e3, e4⟩ := ra.get e1
            obtain ⟨v2, e5, e6⟩ := ra2.get e2
            have e7 := y1 _ (.inl r)
            have e8 := y2 _ (.inl r2)
            rw [e3] at e7
            rw [e5] at e8
            cases e7; cases e8
            exact ⟨.tup (.inl (.inl upd_same)) (show 2 ≤ sizeLine by decide) (.cons (e4.grw (Grw.new hT)) (.cons (e6.grw (Grw.new hT)) .nil)), Grw.new hT⟩
theorem gd_zipT {a b : Addr} {xs ys : List D} : Gd K (RZ.ItzT K a b) [.tuple xs, .tuple ys] [.ref a, .ref b] (zipL xs ys) where
  go := fun H B i h hi => by
    rw [zip_len] at hi
    cases h with
    | cons h t => cases t with
      | cons h2 t => cases h with
        | tup r z ra => cases h2 with
          | tup r2 z2 ra2 => exact ⟨_, _, _, _, r, r2, List.getElem?_eq_getElem (by rw [← ra.length]; omega), List.getElem?_eq_getElem (by rw [← ra2.length]; omega)⟩
  stop := fun H B i h hi => by
    rw [zip_len] at hi
    cases h with
    | cons h t => cases t with
      | cons h2 t => cases h with
        | tup r z ra => cases h2 with
          | tup r2 z2 ra2 => exact ⟨_, _, r, r2, by rw [← ra.length, ← ra2.length]; omega⟩
  yld := fun H B i x H' h y d e => by
    obtain ⟨T, w1, w2, rfl, hT, rfl, y1, y2⟩ := y
    obtain ⟨dx, dy, e1, e2, rfl⟩ := zip_get e
    cases h with
    | cons h t => cases t with
      | cons h2 t => cases h with
        | tup r z ra => cases h2 with
          | tup r2 z2 ra2 =>
            obtain ⟨v, e3, e4⟩ := ra.get e1
            obtain ⟨v2, e5, e6⟩ := ra2.get e2
            have e7 := y1 _ r
            have e8 := y2 _ r2
            rw [e3] at e7
            rw [e5] at e8
            cases e7; cases e8
            exact ⟨.tup (.inl (.inl upd_same)) (show 2 ≤ sizeLine by decide) (.cons (e4.grw (Grw.new hT)) (.cons (e6.grw (Grw.new hT)) .nil)), Grw.new hT⟩
end
section
variable {X : Cx} {G : Gv} {e a b tg : Expr} {pos p : Pos}
def iSeq (K : PySem.W.Frag) (tl : TE) : TI := fun σ H R => tl σ H fun x H1 => (∃ a, x = .ref a ∧ (((∃ xs, SqL K H1 a xs) ∧ R (Itl K a) H1) ∨ ((∃ xs, SqT K H1 a xs) ∧ R (Itt K a) H1))) ∨ ∃ z, x = .str z ∧ R (Its z) H1
theorem pi_seq {tl : TE} (hl : PE X e tl) : PI X tg e (iSeq X.K tl) := by
  refine ⟨fun pins s σ H R I h => thn (hl.run pins s σ H _ I h) fun v s1 ⟨x, H1, I1, r1, q1⟩ => ?_⟩
  rcases q1 with ⟨a, rfl, q⟩ | ⟨z, rfl, q⟩
  rotate_left
  · obtain ⟨t, rfl⟩ := r1
    cases hz : z.cps.all (· < 128)
    · exact wpAny_pyIter_wide hz (pi_one (tk := s1.toks) I1 _ (turn_str _ z t "str_iterator" (.inr rfl)) ⟨_, Heap.get?_push_size _ rfl, rfl, rfl⟩ q)
    · exact wpAny_pyIter_ascii hz (pi_one (tk := s1.toks) I1 _ (turn_str _ z t "str_ascii_iterator" (.inl rfl)) ⟨_, Heap.get?_push_size _ rfl, rfl, rfl⟩ q)
  cases r1
  have fp : ∀ b ∈ [s1.heap.objs.size], FpOk X pins H1 b := fun b hb => by
    rw [List.mem_singleton.mp hb]
    exact I1.fpOk (Nat.le_refl _) (I1.hok.fresh (Nat.le_refl _))
  rcases q with ⟨⟨xs, hq⟩, q⟩ | ⟨⟨xs, hq⟩, q⟩
  · obtain ⟨its, rv, pl, _⟩ := I1.list hq
    exact wpAny_pyIter_list pl.isList ⟨_, [s1.heap.objs.size], _, _, H1, rfl, I1.kept (t' := s1.toks) fun b o e => Heap.get?_push_of_some _ e, turn_list a _, ⟨_, Heap.get?_push_size _ rfl, rfl, rfl⟩, fp, q⟩
  · obtain ⟨its, rv, pl, _⟩ := I1.tuple hq
    exact wpAny_pyIter_tuple (show s1.heap.IsTuple a its.toArray from pl) ⟨_, [s1.heap.objs.size], _, _, H1, rfl, I1.kept (t' := s1.toks) fun b o e => Heap.get?_push_of_some _ e, turn_tuple a _, ⟨_, Heap.get?_push_size _ rfl, rfl, rfl⟩, fp, q⟩
theorem i_seq {m : Rho → Res D} (eK : X.K = G.K) (h : PE X e (tM G m)) : PI X tg e (tMi G fun ρ => (m ρ).bind fun x ρ1 => .opt (iterD x) ρ1) :=
  wkI (pi_seq h) fun σ H R ⟨ρ, r, q⟩ => ⟨ρ, r, q.bind.imp fun d ρ' H' r' _ h v rp => by
    obtain ⟨ds, e, hq, _⟩ := h.opt r'
    rw [eK]
    cases rp with
    | lst r n z ra => cases e; exact .inl ⟨_, rfl, .inl ⟨⟨_, .inl r⟩, hq _ _ _ (gd_list (vs := [])) (.cons (.lst r n z ra) .nil) (by rw [ra.length]; exact z)⟩⟩
    | tup r z ra => cases e; exact .inl ⟨_, rfl, .inr ⟨⟨_, r⟩, hq _ _ _ (gd_tup (vs := [])) (.cons (.tup r z ra) .nil) (by rw [ra.length]; exact z)⟩⟩
    | str z =>
      have e' : (if z.length ≤ SL then some (charsD z) else none) = some ds := e
      split at e'
      · rename_i hz
        cases e'
        exact .inr ⟨z, rfl, hq _ _ _ gd_str .nil (by rw [charsD_len, sl_eq]; exact hz)⟩
      · cases e'
    | _ => cases e⟩
theorem i_range1 {ms : Rho → Res (List D)} (hg : Gl X "range") (hm : X.mg "range" = none) (ha : PA X [a] (tMs G ms)) (hs : starEach [a] X.env = [(false, eval a X.env)]) (hz : ∀ ρ xs ρ', ms ρ = .ok xs ρ' → xs.length = 1) : PI X tg (.Call (.Name "range" p) [a] [] pos) (tMi G fun ρ => (ms ρ).bind fun xs ρ1 => .opt (rangeD xs) ρ1) :=
  wkI (pi_range1 hg hm ha hs) fun σ H R ⟨ρ, r, q⟩ => ⟨ρ, r, q.bind.impE fun ds ρ' H' em r' _ h vs rps => by
    obtain ⟨is, e, hq, _⟩ := h.opt r'
    have hl := hz _ _ _ em
    rcases rng1 (a := a) rps e with ⟨n, rfl, h1, rfl, rfl⟩ | ⟨x, y, rfl, h1, rfl, rfl⟩ | ⟨x, y, z, rfl, h1, rfl, rfl⟩
    · exact ⟨n, rfl, by omega, by unfold SL at h1; omega, hq _ _ _ gd_range .nil (by rw [rangeL_len, sl_eq]; omega)⟩
    · simp at hl
    · simp at hl⟩
theorem i_range2 {ms : Rho → Res (List D)} (hg : Gl X "range") (hm : X.mg "range" = none) (ha : PA X [a, b] (tMs G ms)) (hs : starEach [a, b] X.env = [(false, eval a X.env), (false, eval b X.env)]) (hs2 : starEach [b] X.env = [(false, eval b X.env)]) (hz : ∀ ρ xs ρ', ms ρ = .ok xs ρ' → xs.length = 2) :
    PI X tg (.Call (.Name "range" p) [a, b] [] pos) (tMi G fun ρ => (ms ρ).bind fun xs ρ1 => .opt (rangeD xs) ρ1) :=
  wkI (pi_range2 hg hm ha hs hs2) fun σ H R ⟨ρ, r, q⟩ => ⟨ρ, r, q.bind.impE fun ds ρ' H' em r' _ h vs rps => by
    obtain ⟨is, e, hq, _⟩ := h.opt r'
    have hl := hz _ _ _ em
    rcases rng1 (a := a) rps e with ⟨n, rfl, h1, rfl, rfl⟩ | ⟨x, y, rfl, h1, rfl, rfl⟩ | ⟨x, y, z, rfl, h1, rfl, rfl⟩
    · simp at hl
    · exact ⟨x, y, rfl, by unfold SL at h1; omega, hq _ _ _ gd_range .nil (by rw [rangeL_len, sl_eq]; omega)⟩
    · simp at hl⟩
theorem i_range3 {c : Expr} {ms : Rho → Res (List D)} (hg : Gl X "range") (hm : X.mg "range" = none) (ha : PA X [a, b, c] (tMs G ms)) (hs : starEach [a, b, c] X.env = (false, eval a X.env) :: starEach [b, c] X.env) (hpl : (backTo pos (starEach [b, c] X.env)).any (·.1) = false) (hz : ∀ ρ xs ρ', ms ρ = .ok xs ρ' → xs.length = 3) :
    PI X tg (.Call (.Name "range" p) [a, b, c] [] pos) (tMi G fun ρ => (ms ρ).bind fun xs ρ1 => .opt (rangeD xs) ρ1) :=
  wkI (pi_range3 hg hm ha hs hpl) fun σ H R ⟨ρ, r, q⟩ => ⟨ρ, r, q.bind.impE fun ds ρ' H' em r' _ h vs rps => by
    obtain ⟨is, e, hq, _⟩ := h.opt r'
    have hl := hz _ _ _ em
    rcases rng1 (a := a) rps e with ⟨n, rfl, h1, rfl, rfl⟩ | ⟨x, y, rfl, h1, rfl, rfl⟩ | ⟨x, y, z, rfl, h1, rfl, rfl⟩
    · simp at hl
    · simp at hl
    · exact ⟨x, y, z, _, rfl, (rgC h1).1, hq _ _ _ gd_rangeC .nil (by rw [rangeC_len, sl_eq]; exact (rgC h1).2)⟩⟩
theorem i_enum {m : Rho → Res D} {elts : List Expr} {kk : Nat} {tpos : Pos} (eK : X.K = G.K) (hg : Gl X "enumerate") (hm : X.mg "enumerate" = none) (h : PE X e (tM G m)) (hs : starEach [e] X.env = [(false, eval e X.env)]) :
    PI X (.Tuple elts kk tpos) (.Call (.Name "enumerate" p) [e] [] pos) (tMi G fun ρ => (m ρ).bind fun x ρ1 => .opt (enumD x) ρ1) :=
  wkI (pi_enumA hg hm (pa_cons h pa_nil hs) hs) fun σ H R ⟨ρ, r, q⟩ => ⟨ρ, r, q.bind.imp fun d ρ' H' r' _ h v rp => by
    obtain ⟨ds, e, hq, _⟩ := h.opt r'
    rw [eK]
    cases rp with
    | lst r n z ra => cases e; exact ⟨_, _, rfl, .inl ⟨.inl r, hq _ _ _ gd_enum (.cons (.lst r n z ra) .nil) (by rw [enum_len, ra.length]; exact z)⟩⟩
    | tup r z ra => cases e; exact ⟨_, _, rfl, .inr ⟨r, hq _ _ _ gd_enumT (.cons (.tup r z ra) .nil) (by rw [enum_len, ra.length]; exact z)⟩⟩
    | _ => cases e⟩
theorem gd_zipM {a b : Addr} {xs ys : List D} : Gd G.K (ItzM G.K a b) [.tuple xs, .list ys] [.ref a, .ref b] (zipL xs ys) where
  go := fun H B i h hi => by
    rw [zip_len] at hi
    cases h with
    | cons h t => cases t with
      | cons h2 t => cases h with
        | tup r z ra => cases h2 with
          | lst r2 _ z2 ra2 => exact ⟨_, _, _, _, ⟨r, List.getElem?_eq_getElem (by rw [← ra.length]; omega)⟩, .inl r2, List.getElem?_eq_getElem (by rw [← ra2.length]; omega)⟩
  stop := fun H B i h hi => by
    rw [zip_len] at hi
    cases h with
    | cons h t => cases t with
      | cons h2 t => cases h with
        | tup r z ra => cases h2 with
          | lst r2 _ z2 ra2 => exact ⟨_, _, r, .inl r2, by rw [← ra.length, ← ra2.length]; omega⟩
  yld := fun H B i x H' h y d e => by
    obtain ⟨T, w1, w2, ⟨rfl, hT, rfl⟩, y1, y2⟩ := y
    obtain ⟨dx, dy, e1, e2, rfl⟩ := zip_get e
    cases h with
    | cons h t => cases t with
      | cons h2 t => cases h with
        | tup r z ra => cases h2 with
          | lst r2 _ z2 ra2 =>
            obtain ⟨v, e3, e4⟩ := ra.get e1
            obtain ⟨v2, e5, e6⟩ := ra2.get e2
            have e7 := y1 _ r
            have e8 := y2 _ (.inl r2)
            rw [e3] at e7
            rw [e5] at e8
            cases e7; cases e8
            exact ⟨.tup (.inl (.inl upd_same)) (show 2 ≤ sizeLine by decide) (.cons (e4.grw (Grw.new hT)) (.cons (e6.grw (Grw.new hT)) .nil)), Grw.new hT⟩
theorem i_zip {ma mb : Rho → Res D} {elts : List Expr} {kk : Nat} {tpos : Pos} (eK : X.K = G.K) (hg : Gl X "zip") (hm : X.mg "zip" = none) (ha : PE X a (tM G ma)) (hb : PE X b (tM G mb))
    (hs : starEach [a, b] X.env = (false, eval a X.env) :: starEach [b] X.env) (hs2 : starEach [b] X.env = [(false, eval b X.env)]) :
    PI X (.Tuple elts kk tpos) (.Call (.Name "zip" p) [a, b] [] pos) (tMi G fun ρ => (ma ρ).bind fun x ρ1 => (mb ρ1).bind fun y ρ2 => .opt (zipD x y) ρ2) :=
  wkI (pi_zipM hg hm (pa_cons ha (pa_cons hb pa_nil hs2) hs) hs (by rw [hs2]; rfl)) fun σ H R ⟨ρ, r, q⟩ => ⟨ρ, r, q.bind.imp fun d ρ1 H1 r1 _ h v rp1 => ⟨ρ1, r1, h.bind.imp fun d2 ρ2 H2 r2 s2 h2 v2 rp2 => by
    obtain ⟨ds, e, hq, _⟩ := h2.opt r2
    rw [eK]
    have rp1 := r1.keep s2 rp1
    cases rp1 with
    | lst ra n z a1 =>
      cases rp2 with
      | lst rb n2 z2 a2 => cases e; exact ⟨_, _, _, _, rfl, .inl ⟨.inl ra, .inl rb, hq _ _ _ gd_zipL (.cons (.lst ra n z a1) (.cons (.lst rb n2 z2 a2) .nil)) (by rw [zip_len, a1.length]; omega)⟩⟩
      | _ => cases e
    | tup ra z a1 =>
      cases rp2 with
      | lst rb n2 z2 a2 => cases e; exact ⟨_, _, _, _, rfl, .inr (.inr ⟨ra, .inl rb, hq _ _ _ gd_zipM (.cons (.tup ra z a1) (.cons (.lst rb n2 z2 a2) .nil)) (by rw [zip_len, a1.length]; omega)⟩)⟩
      | tup rb z2 a2 => cases e; exact ⟨_, _, _, _, rfl, .inr (.inl ⟨ra, rb, hq _ _ _ gd_zipT (.cons (.tup ra z a1) (.cons (.tup rb z2 a2) .nil)) (by rw [zip_len, a1.length]; omega)⟩)⟩
      | _ => cases e
    | _ => cases rp2 <;> cases e⟩⟩
end
end Tw

set_option Elab.async false
set_option linter.all false
set_option maxRecDepth 100000
set_option maxHeartbeats 1000000
namespace Tw
open PySem PySem.Spec PyProof.Rows L2
section
variable {K : PySem.W.Frag} {B0 : Addr → Prop} {σ : L2.St} {ρ ρ' : Rho} {H H' : Hp}
/-- a name bound anew to data -/
theorem put_ok {i : Nat} {d : D} {v : V} (r : Rl K B0 ρ σ H) (h : put ρ i d = some ρ') (rp : Rp K H (Bs B0 ρ σ) d v) :
    Rl K B0 ρ' (σ.set i (some v)) H ∧ (∀ a, Own ρ' (σ.set i (some v)) a → Own ρ σ a) ∧ (∀ j : Nat, isPar ρ'[j]? = isPar ρ[j]?) ∧ (∀ j : Nat, isPar ρ[j]? = true → (σ.set i (some v))[j]? = σ[j]?) := by
  unfold put at h
  split at h
  · rename_i hc
    cases h
    obtain ⟨hi, hp⟩ := hc
    have he : (ρ.set i (some (.dat d)))[i]? = some (some (.dat d)) := List.getElem?_set_self hi
    have hm : ∀ j ys, mutAt (ρ.set i (some (.dat d))) j ys → i ≠ j ∧ mutAt ρ j ys := fun j ys m => by
      by_cases e : i = j
      · subst e
        rcases m with m | m <;> (rw [he] at m; cases m)
      · unfold mutAt at m ⊢
        rw [List.getElem?_set_ne e] at m
        exact ⟨e, m⟩
    have ow : ∀ a, Own (ρ.set i (some (.dat d))) (σ.set i (some v)) a → Own ρ σ a := fun a ⟨j, ys, m, e⟩ => by
      obtain ⟨ne, m⟩ := hm j ys m
      rw [List.getElem?_set_ne ne] at e
      exact ⟨j, ys, m, e⟩
    have bs : ∀ a, Bs B0 (ρ.set i (some (.dat d))) (σ.set i (some v)) a → Bs B0 ρ σ a := fun a z => z.imp id (ow a)
    refine ⟨⟨by rw [List.length_set, List.length_set]; exact r.len, fun j d' e => ?_, fun j ys m => ?_, fun j k ys zs b m1 m2 e1 e2 => ?_, r.amb, r.tab⟩, ow, fun j => ?_, fun j hj => ?_⟩
    · by_cases q : i = j
      · subst q
        rw [he] at e
        cases e
        exact ⟨v, List.getElem?_set_self (by rw [← r.len]; exact hi), rp.less bs⟩
      · rw [List.getElem?_set_ne q] at e ⊢
        obtain ⟨w, e3, h3⟩ := r.dat j d' e
        exact ⟨w, e3, h3.less bs⟩
    · obtain ⟨ne, m⟩ := hm j ys m
      obtain ⟨b, ws, e3, e4, z4, h4, n4⟩ := r.mu j ys m
      exact ⟨b, ws, by rw [List.getElem?_set_ne ne]; exact e3, e4, z4, h4.less bs, n4⟩
    · obtain ⟨n1, m1⟩ := hm j ys m1
      obtain ⟨n2, m2⟩ := hm k zs m2
      rw [List.getElem?_set_ne n1] at e1
      rw [List.getElem?_set_ne n2] at e2
      exact r.inj j k ys zs b m1 m2 e1 e2
    · by_cases q : i = j
      · subst q; rw [he, hp]; rfl
      · rw [List.getElem?_set_ne q]
    · by_cases q : i = j
      · subst q; rw [hp] at hj; cases hj
      · rw [List.getElem?_set_ne q]
  · cases h
def gNames : List Nat → TGs
  | [] => gNil
  | i :: is => gCons (gName i) (gNames is)
def gTg (K : PySem.W.Frag) : Tg → TG
  | .name i => gName i
  | .tup is => fun v σ H Q => gTup K is.length (gNames is) v σ H Q ∨ gLst K is.length (gNames is) v σ H Q
def Tg.ixs : Tg → List Nat
  | .name i => [i]
  | .tup is => is
theorem wipe_set {σ : L2.St} {x : Option V} {i : Nat} : ∀ {vs : List Nat}, i ∈ vs → wipe (σ.set i x) vs = wipe σ vs
  | v :: vs, h => by
    unfold wipe
    by_cases e : i ∈ vs
    · rw [wipe_set e]
    · have e2 : i = v := by simpa [e] using h
      subst e2
      have : ∀ {ws : List Nat}, i ∉ ws → wipe (σ.set i x) ws = (wipe σ ws).set i x := fun {ws} => by
        intro hw
        induction ws with
        | nil => rfl
        | cons w ws ih =>
          unfold wipe
          rw [ih fun m => hw (List.mem_cons_of_mem _ m), List.set_comm]
          exact fun z => hw (by rw [z]; exact List.mem_cons_self)
      rw [this e, List.set_set]
/-- what a store does: the new slots σ' -/
structure Sto (K : PySem.W.Frag) (B0 : Addr → Prop) (ρ ρ' : Rho) (σ σ' : L2.St) (H : Hp) (is : List Nat) : Prop where
  rl : Rl K B0 ρ' σ' H
  ow : ∀ a, Own ρ' σ' a → Own ρ σ a
  pa : ∀ j : Nat, isPar ρ'[j]? = isPar ρ[j]?
  ps : ∀ j : Nat, isPar ρ[j]? = true → σ'[j]? = σ[j]?
  wi : ∀ vs : List Nat, (∀ i ∈ is, i ∈ vs) → wipe σ' vs = wipe σ vs
theorem puts_ok : ∀ {is : List Nat} {ds : List D} {vs : List V} {ρ ρ' : Rho} {σ : L2.St}, Rl K B0 ρ σ H → puts ρ is ds = some ρ' → RpA K H (Bs B0 ρ σ) ds vs →
    ∃ σ', (∀ Q : L2.St → Hp → Prop, Q σ' H → gNames is vs σ H Q) ∧ Sto K B0 ρ ρ' σ σ' H is
  | [], [], vs, ρ, ρ', σ, r, h, ra => by
    cases h; cases ra
    exact ⟨σ, fun Q q => ⟨rfl, q⟩, ⟨r, fun _ h => h, fun _ => rfl, fun _ _ => rfl, fun _ _ => rfl⟩⟩
  | [], _ :: _, _, _, _, _, _, h, _ => by cases h
  | _ :: _, [], _, _, _, _, _, h, _ => by cases h
  | i :: is, d :: ds, _, ρ, ρ', σ, r, h, .cons (v := v) (vs := vs) rp ra => by
    have h' : ((put ρ i d).bind fun ρ' => puts ρ' is ds) = some ρ' := h
    obtain ⟨ρ1, e1, e2⟩ := Option.bind_eq_some_iff.mp h'
    obtain ⟨r1, o1, p1, s1⟩ := put_ok r e1 rp
    obtain ⟨σ', g, st⟩ := puts_ok r1 e2 (ra.less fun a z => z.imp id (o1 a))
    refine ⟨σ', fun Q q => ⟨v, vs, rfl, g Q q⟩, ⟨st.rl, fun a z => o1 a (st.ow a z), fun j => (st.pa j).trans (p1 j), fun j hj => (st.ps j (by rw [p1]; exact hj)).trans (s1 j hj), fun ws hw => ?_⟩⟩
    rw [st.wi ws fun k m => hw k (List.mem_cons_of_mem _ m), wipe_set (hw i List.mem_cons_self)]
theorem setTg_ok {tg : Tg} {d : D} {v : V} (r : Rl K B0 ρ σ H) (h : setTg ρ tg d = some ρ') (rp : Rp K H (Bs B0 ρ σ) d v) :
    ∃ σ', (∀ Q : L2.St → Hp → Prop, Q σ' H → gTg K tg v σ H Q) ∧ Sto K B0 ρ ρ' σ σ' H tg.ixs := by
  cases tg with
  | name i =>
    obtain ⟨r1, o1, p1, s1⟩ := put_ok r (show put ρ i d = some ρ' from h) rp
    exact ⟨_, fun Q q => q, ⟨r1, o1, p1, s1, fun vs hw => wipe_set (hw i List.mem_cons_self)⟩⟩
  | tup is =>
    have hl : ∀ {is : List Nat} {ds : List D} {ρ ρ' : Rho}, puts ρ is ds = some ρ' → is.length = ds.length := fun {is} => by
      induction is with
      | nil => intro ds ρ ρ' e; cases ds with | nil => rfl | cons _ _ => cases e
      | cons i is ih => intro ds ρ ρ' e; cases ds with
        | nil => cases e
        | cons d ds =>
          have e' : ((put ρ i d).bind fun ρ' => puts ρ' is ds) = some ρ' := e
          obtain ⟨ρ1, _, e2⟩ := Option.bind_eq_some_iff.mp e'
          rw [List.length_cons, List.length_cons, ih e2]
    cases rp with
    | tup r1 z ra =>
      obtain ⟨σ', g, st⟩ := puts_ok r (show puts ρ is _ = some ρ' from h) ra
      refine ⟨σ', fun Q q => .inl ⟨_, _, rfl, r1, ?_, g Q q⟩, st⟩
      rw [← ra.length, hl (show puts ρ is _ = some ρ' from h)]
    | lst r1 n z ra =>
      obtain ⟨σ', g, st⟩ := puts_ok r (show puts ρ is _ = some ρ' from h) ra
      refine ⟨σ', fun Q q => .inr ⟨_, _, rfl, .inl r1, ?_, g Q q⟩, st⟩
      rw [← ra.length, hl (show puts ρ is _ = some ρ' from h)]
    | _ => cases h

theorem wipeR_length (ρ : Rho) : ∀ vs : List Nat, (wipeR ρ vs).length = ρ.length
  | [] => rfl
  | v :: vs => by unfold wipeR; rw [List.length_set, wipeR_length ρ vs]
theorem wipeR_out {j : Nat} : ∀ {vs : List Nat}, j ∉ vs → (wipeR ρ vs)[j]? = ρ[j]?
  | [], _ => rfl
  | v :: vs, h => by
    unfold wipeR
    rw [List.getElem?_set_ne fun e => h (by rw [e]; exact List.mem_cons_self)]
    exact wipeR_out fun m => h (List.mem_cons_of_mem _ m)
theorem wipeR_some {j : Nat} {e : Ent} : ∀ {vs : List Nat}, (wipeR ρ vs)[j]? = some (some e) → ρ[j]? = some (some e) ∧ j ∉ vs
  | [], h => ⟨h, by simp⟩
  | v :: vs, h => by
    unfold wipeR at h
    by_cases hi : v = j
    · subst hi
      by_cases hv : v < (wipeR ρ vs).length
      · rw [List.getElem?_set_self hv] at h; cases h
      · rw [List.getElem?_eq_none (by simpa using hv)] at h; cases h
    · rw [List.getElem?_set_ne hi] at h
      obtain ⟨h1, h2⟩ := wipeR_some h
      exact ⟨h1, by simp only [List.mem_cons, not_or]; exact ⟨fun e => hi e.symm, h2⟩⟩
theorem restR_length (ρ ρ0 : Rho) : ∀ vs : List Nat, (restR ρ ρ0 vs).length = ρ.length
  | [] => rfl
  | v :: vs => by unfold restR; rw [List.length_set, restR_length ρ ρ0 vs]
theorem restR_out {ρ0 : Rho} {j : Nat} : ∀ {vs : List Nat}, j ∉ vs → (restR ρ ρ0 vs)[j]? = ρ[j]?
  | [], _ => rfl
  | v :: vs, h => by
    unfold restR
    rw [List.getElem?_set_ne fun e => h (by rw [e]; exact List.mem_cons_self)]
    exact restR_out fun m => h (List.mem_cons_of_mem _ m)
theorem restR_in {ρ0 : Rho} {j : Nat} (hl : ρ.length = ρ0.length) : ∀ {vs : List Nat}, j ∈ vs → (restR ρ ρ0 vs)[j]? = ρ0[j]?
  | v :: vs, h => by
    unfold restR
    by_cases e : v = j
    · subst e
      by_cases hv : v < ρ0.length
      · rw [List.getElem?_set_self (by rw [restR_length, hl]; exact hv), List.getElem?_eq_getElem hv]; rfl
      · rw [List.getElem?_eq_none (by rw [List.length_set, restR_length]; omega), List.getElem?_eq_none (by omega)]
    · rw [List.getElem?_set_ne e]
      exact restR_in hl ((List.mem_cons.mp h).resolve_left fun z => e z.symm)
theorem mut_wipe {vs : List Nat} {j : Nat} {ys : List D} (m : mutAt (wipeR ρ vs) j ys) : mutAt ρ j ys ∧ j ∉ vs := by
  rcases m with m | m
  · exact ⟨.inl (wipeR_some m).1, (wipeR_some m).2⟩
  · exact ⟨.inr (wipeR_some m).1, (wipeR_some m).2⟩
theorem own_wipe {vs : List Nat} {a : Addr} (h : Own (wipeR ρ vs) (wipe σ vs) a) : Own ρ σ a := by
  obtain ⟨j, ys, m, e⟩ := h
  exact ⟨j, ys, (mut_wipe m).1, (wipe_some e).1⟩
theorem Rl.wipe (r : Rl K B0 ρ σ H) (vs : List Nat) : Rl K B0 (wipeR ρ vs) (wipe σ vs) H := by
  have bs : ∀ a, Bs B0 (wipeR ρ vs) (L2.wipe σ vs) a → Bs B0 ρ σ a := fun a z => z.imp id own_wipe
  refine ⟨by rw [wipeR_length, wipe_length]; exact r.len, fun j d e => ?_, fun j ys m => ?_, fun j k ys zs b m1 m2 e1 e2 => ?_, r.amb, r.tab⟩
  · obtain ⟨e1, n⟩ := wipeR_some e
    obtain ⟨v, e2, h⟩ := r.dat j d e1
    exact ⟨v, by rw [wipe_out n]; exact e2, h.less bs⟩
  · obtain ⟨m, n⟩ := mut_wipe m
    obtain ⟨b, ws, e3, e4, z4, h4, n4⟩ := r.mu j ys m
    exact ⟨b, ws, by rw [wipe_out n]; exact e3, e4, z4, h4.less bs, n4⟩
  · exact r.inj j k ys zs b (mut_wipe m1).1 (mut_wipe m2).1 (wipe_some e1).1 (wipe_some e2).1
theorem wipe_get {σ : L2.St} {j : Nat} {vs : List Nat} (h : j ∈ vs) (hl : j < σ.length) : (wipe σ vs)[j]? = some none := by
  induction vs with
  | nil => cases h
  | cons v vs ih =>
    unfold L2.wipe
    by_cases e : v = j
    · subst e; rw [List.getElem?_set_self (by rw [wipe_length]; exact hl)]
    · rw [List.getElem?_set_ne e]
      exact ih ((List.mem_cons.mp h).resolve_left fun z => e z.symm)
theorem wipe_wipe {σ : L2.St} (vs : List Nat) : wipe (wipe σ vs) vs = wipe σ vs := by
  apply List.ext_getElem?
  intro j
  by_cases h : j ∈ vs
  · by_cases hl : j < σ.length
    · rw [wipe_get h hl, wipe_get h (by rw [wipe_length]; exact hl)]
    · rw [List.getElem?_eq_none (by rw [wipe_length, wipe_length]; omega), List.getElem?_eq_none (by rw [wipe_length]; omega)]
  · rw [wipe_out h]
/-- a list that may not be touched by the frame is changed -/
theorem Rl.touch {L : Addr} {us vs : List V} (r : Rl K B0 ρ σ H) (b : B0 L) (hD : H L = some (.lst us)) : Rl K B0 ρ σ (upd H L (.lst vs)) := by
  have f : Fr (fun a => a = L) H (upd H L (.lst vs)) := Fr.of fun a o e n => by rw [upd_ne n]; exact e
  have ob : ∀ a, a = L → Bs B0 ρ σ a := fun a e => by rw [e]; exact .inl b
  have l : Lsts (fun a => a = L) H := fun a e => ⟨us, by rw [e]; exact hD⟩
  refine ⟨r.len, fun j d e => ?_, fun j ys m => ?_, r.inj, fun a h => ?_, tabs_but r.tab fun b o e n => by rw [upd_ne fun z => by rw [z, hD] at e; cases e; cases n]; exact e⟩
  · obtain ⟨v, e2, h⟩ := r.dat j d e
    exact ⟨v, e2, h.mono f ob l fun _ b => .inl b⟩
  · obtain ⟨x, ws, e3, e4, z4, h4, n4⟩ := r.mu j ys m
    exact ⟨x, ws, e3, f.at e4 (fun e => n4 (by rw [e]; exact b)) rfl, z4, h4.mono f ob l fun _ b => .inl b, n4⟩
  · by_cases e : a = L
    · exact ⟨vs, by rw [e, upd_same]⟩
    · obtain ⟨ws, e1⟩ := r.amb a h
      exact ⟨ws, by rw [upd_ne e]; exact e1⟩
theorem touchA {B : Addr → Prop} {L : Addr} {us vs : List V} (b : B L) (hD : H L = some (.lst us)) {ds : List D} {ws : List V} (h : RpA K H B ds ws) : RpA K (upd H L (.lst vs)) B ds ws :=
  h.mono (O := fun a => a = L) (Fr.of fun a o e n => by rw [upd_ne n]; exact e) (fun a e => by rw [e]; exact b) (fun a e => ⟨us, by rw [e]; exact hD⟩) fun _ b => .inl b
theorem touchV {B : Addr → Prop} {L : Addr} {us vs : List V} (b : B L) (hD : H L = some (.lst us)) {d : D} {w : V} (h : Rp K H B d w) : Rp K (upd H L (.lst vs)) B d w :=
  h.mono (O := fun a => a = L) (Fr.of fun a o e n => by rw [upd_ne n]; exact e) (fun a e => by rw [e]; exact b) (fun a e => ⟨us, by rw [e]; exact hD⟩) fun _ b => .inl b
end
end Tw

set_option Elab.async false
set_option linter.all false
set_option maxRecDepth 100000
set_option maxHeartbeats 1000000
namespace Tw
open PySem PySem.Spec PyProof.Rows L2
def Gv.calm (G : Gv) (B : Addr → Prop) : Gv := { G with W := none, B0 := B }
def tMx (G : Gv) (m : Rho → Res D) : TE := fun σ H Q => ∃ B, tM (G.calm B) m σ H Q
def tMbx (G : Gv) (m : Rho → Res Bool) : TT := fun σ H Q => ∃ B, tMb (G.calm B) m σ H Q
section
variable {K : PySem.W.Frag} {B0 : Addr → Prop} {σ : L2.St} {ρ ρ' : Rho} {H H' : Hp}
theorem noMut_at {vs : List Nat} (h : noMut ρ vs = true) {j : Nat} (hj : j ∈ vs) (ys : List D) : ¬ mutAt ρ j ys := fun m => by
  have := List.all_eq_true.mp h j hj
  rcases m with m | m <;> (rw [m] at this; cases this)
/-- the heap without one list -/
def cutH (H : Hp) (L : Addr) : Hp := fun a => if a = L then none else H a
theorem cutH_self {L : Addr} : cutH H L L = none := by unfold cutH; rw [if_pos rfl]
theorem cutH_ne {L a : Addr} (h : a ≠ L) : cutH H L a = H a := by unfold cutH; rw [if_neg h]
theorem cutH_grw {L : Addr} : Grw (cutH H L) H := fun a o e _ => by
  by_cases h : a = L
  · rw [h, cutH_self] at e; cases e
  · rw [cutH_ne h] at e; exact e
theorem Rl.cut {L : Addr} {us : List V} (r : Rl K (fun a => B0 a ∨ a = L) ρ σ H) (hD : H L = some (.lst us)) (hb : ¬ B0 L) : Rl K B0 ρ σ (cutH H L) := by
  have f : Fr (fun a => a = L) H (cutH H L) := Fr.of fun a o e n => by rw [cutH_ne n]; exact e
  have ob : ∀ a, a = L → Bs (fun a => B0 a ∨ a = L) ρ σ a := fun a e => .inl (.inr e)
  have l : Lsts (fun a => a = L) H := fun a e => ⟨us, by rw [e]; exact hD⟩
  have hb' : ∀ a, Bs B0 ρ σ a → Bs (fun a => B0 a ∨ a = L) ρ σ a ∨ Nw H a := fun a z => .inl (z.imp .inl id)
  refine ⟨r.len, fun j d e => ?_, fun j ys m => ?_, r.inj, fun a h => ?_, tabs_but r.tab fun b o e n => by rw [cutH_ne fun z => by rw [z, hD] at e; cases e; cases n]; exact e⟩
  · obtain ⟨v, e2, h⟩ := r.dat j d e
    exact ⟨v, e2, h.mono f ob l hb'⟩
  · obtain ⟨x, ws, e3, e4, z4, h4, n4⟩ := r.mu j ys m
    exact ⟨x, ws, e3, f.at e4 (fun e => n4 (.inr e)) rfl, z4, h4.mono f ob l hb', fun z => n4 (.inl z)⟩
  · obtain ⟨ws, e⟩ := r.amb a (.inl h)
    exact ⟨ws, by rw [cutH_ne (fun z => hb (by rw [← z]; exact h))]; exact e⟩
/-- the block's end: the frame's slots again -/
theorem Rl.rest {ρ1 ρ2 : Rho} {H1 H2 : Hp} {vs : List Nat} (r1 : Rl K B0 ρ1 σ H1) (hn : noMut ρ1 vs = true) (r2 : Rl K B0 ρ2 (L2.wipe σ vs) H2)
    (fr : Fr (Bs B0 ρ1 σ) H1 H2) (ow : ∀ a, Own ρ2 (L2.wipe σ vs) a → Own ρ1 σ a) : Rl K B0 (restR ρ2 ρ1 vs) σ H2 ∧ ∀ a, Own (restR ρ2 ρ1 vs) σ a → Own ρ2 (L2.wipe σ vs) a := by
  have hl : ρ2.length = ρ1.length := by rw [r2.len, wipe_length, r1.len]
  have hm : ∀ j ys, mutAt (restR ρ2 ρ1 vs) j ys → mutAt ρ2 j ys ∧ j ∉ vs := fun j ys m => by
    by_cases q : j ∈ vs
    · unfold mutAt at m
      rw [restR_in hl q] at m
      exact absurd m (noMut_at hn q ys)
    · unfold mutAt at m ⊢
      rw [restR_out q] at m
      exact ⟨m, q⟩
  have ow2 : ∀ a, Own (restR ρ2 ρ1 vs) σ a → Own ρ2 (L2.wipe σ vs) a := fun a ⟨j, ys, m, e⟩ => by
    obtain ⟨m, q⟩ := hm j ys m
    exact ⟨j, ys, m, by rw [wipe_out q]; exact e⟩
  have bs : ∀ a, Bs B0 (restR ρ2 ρ1 vs) σ a → Bs B0 ρ2 (L2.wipe σ vs) a := fun a z => z.imp id (ow2 a)
  refine ⟨⟨by rw [restR_length, hl]; exact r1.len, fun j d e => ?_, fun j ys m => ?_, fun j k ys zs b m1 m2 e1 e2 => ?_, r2.amb, r2.tab⟩, ow2⟩
  · by_cases q : j ∈ vs
    · rw [restR_in hl q] at e
      obtain ⟨v, e2, h⟩ := r1.dat j d e
      exact ⟨v, e2, h.mono fr (fun _ z => z) r1.bs_lst fun a z => .inl ((bs a z).imp id (ow a))⟩
    · rw [restR_out q] at e
      obtain ⟨v, e2, h⟩ := r2.dat j d e
      exact ⟨v, by rw [wipe_out q] at e2; exact e2, h.less bs⟩
  · obtain ⟨m, q⟩ := hm j ys m
    obtain ⟨x, ws, e3, e4, z4, h4, n4⟩ := r2.mu j ys m
    exact ⟨x, ws, by rw [wipe_out q] at e3; exact e3, e4, z4, h4.less bs, n4⟩
  · obtain ⟨m1, q1⟩ := hm j ys m1
    obtain ⟨m2, q2⟩ := hm k zs m2
    exact r2.inj j k ys zs b m1 m2 (by rw [wipe_out q1]; exact e1) (by rw [wipe_out q2]; exact e2)
theorem compLoop_ok {vs : List Nat} {tg : Tg} {mc : Rho → Res Bool} {me : Rho → Res D} : ∀ {ds : List D} {ρ : Rho}, (∃ xs ρ2, compLoop vs tg mc me ds ρ = .ok xs ρ2) ∨ compLoop vs tg mc me ds ρ = .stuck
  | [], ρ => .inl ⟨_, _, rfl⟩
  | d :: ds, ρ => by
    unfold compLoop
    split
    · exact .inr rfl
    · split
      · split
        · rename_i x ρ3 _
          rcases compLoop_ok (ds := ds) (ρ := wipeR ρ3 vs) with ⟨xs, ρ2, e⟩ | e
          · rw [e]; exact .inl ⟨_, _, rfl⟩
          · rw [e]; exact .inr rfl
        · exact .inr rfl
      · exact compLoop_ok
      · exact .inr rfl
/-- one turn of the evaluator's loop -/
theorem compLoop_cons {vs : List Nat} {tg : Tg} {mc : Rho → Res Bool} {me : Rho → Res D} {d : D} {ds xs : List D} {ρ ρ2 : Rho} (h : compLoop vs tg mc me (d :: ds) ρ = .ok xs ρ2) :
    ∃ ρ1, setTg ρ tg d = some ρ1 ∧ ((∃ ρa x ρb r, mc ρ1 = .ok true ρa ∧ me ρa = .ok x ρb ∧ compLoop vs tg mc me ds (wipeR ρb vs) = .ok r ρ2 ∧ xs = x :: r) ∨ ∃ ρa, mc ρ1 = .ok false ρa ∧ compLoop vs tg mc me ds (wipeR ρa vs) = .ok xs ρ2) := by
  unfold compLoop at h
  split at h
  · cases h
  · rename_i ρ1 e1
    refine ⟨ρ1, e1, ?_⟩
    split at h
    · rename_i ρa e2
      split at h
      · rename_i x ρb e3
        rcases compLoop_ok (vs := vs) (tg := tg) (mc := mc) (me := me) (ds := ds) (ρ := wipeR ρb vs) with ⟨r, ρ3, e⟩ | e
        · rw [e] at h
          cases h
          exact .inl ⟨ρa, x, ρb, r, e2, e3, e, rfl⟩
        · rw [e] at h; cases h
      · cases h
    · rename_i ρa e2
      exact .inr ⟨ρa, e2, h⟩
    · cases h
end
section
variable {X : Cx} {G : Gv}
/-- what holds before turn i -/
structure CInv (K : PySem.W.Frag) (B1 : Addr → Prop) (L : Addr) (vs : List Nat) (tg : Tg) (mc : Rho → Res Bool) (me : Rho → Res D) (ds xs srcs : List D) (jvs : List V) (ρ1 ρ2 : Rho) (σ : L2.St) (H1 : Hp) (i : Nat) (H : Hp) (ρi : Rho) (acc : List D) (accv : List V) : Prop where
  rl : Rl K B1 ρi (wipe σ vs) H
  at_ : H L = some (.lst accv)
  accR : RpA K H (Bs B1 ρi (wipe σ vs)) acc accv
  src : RpA K H (Bs B1 ρi (wipe σ vs)) srcs jvs
  loop : ∃ rest, compLoop vs tg mc me (ds.drop i) ρi = .ok rest ρ2 ∧ acc ++ rest = xs
  len : acc.length ≤ i
  fr : Fr (Bs B1 ρ1 σ) H1 H
  fn : Fr (fun a => a = L ∨ Own ρ1 σ a) H1 H
  ow : ∀ a, Own ρi (wipe σ vs) a → Own ρ1 σ a
  pa : ∀ j : Nat, j ∉ vs → isPar ρi[j]? = isPar ρ1[j]?
theorem n_comp {elt tgx iter : Expr} {ifs : List Expr} {scope : Scope} {own : List (Str × Nat)} {pos : Pos} {tg : Tg} {mi : Rho → Res (List D)} {mc : Rho → Res Bool} {me : Rho → Res D} (eK : X.K = G.K) (hc : X.calm = true) (hN : X.N.Nodup) (hi : PI X tgx iter (tMi G mi)) (ok : BlkOk X.N X.env.scope scope own)
    (htg : ∀ i ∈ tg.ixs, i ∈ own.map (·.2))
    (hg : ∀ (s : Shared) (H : Hp) (C : Addr) (cl : List (Str × Addr)) (fp : List Addr), PG (X.blk s H scope (compEnvC scope cl C X.env) fp) tgx (gTg X.K tg)) (ht : ∀ (s : Shared) (H : Hp) (C : Addr) (cl : List (Str × Addr)) (fp : List Addr), PTs (X.blk s H scope (compEnvC scope cl C X.env) fp) ifs (tMbx G mc))
    (he : ∀ (s : Shared) (H : Hp) (C : Addr) (cl : List (Str × Addr)) (fp : List Addr), PE (X.blk s H scope (compEnvC scope cl C X.env) fp) elt (tMx G me)) :
    ∀ σ H Q, tN G (fun ρ => (mi ρ).bind fun ds ρ1 => if noMut ρ1 (own.map (·.2)) = true then (compLoop (own.map (·.2)) tg mc me ds (wipeR ρ1 (own.map (·.2)))).bind fun xs ρ2 => .ok (.list xs) (restR ρ2 ρ1 (own.map (·.2))) else .stuck) σ H Q →
      tLc (tMi G mi) (gTg X.K tg) (tMbx G mc) (tMx G me) (own.map (·.2)) σ H Q := by
  intro σ H Q h
  obtain ⟨ρ, r, q⟩ := h
  generalize own.map (·.2) = vs at htg q ⊢
  refine ⟨ρ, r, q.bind.imp fun ds ρ1 H1 r1 s1 h1 J srcs jvs gd rs hz L hL => ?_⟩
  by_cases hn : noMut ρ1 vs = true
  case neg => rw [if_neg hn] at h1; exact h1.elim
  rw [if_pos hn] at h1
  rcases compLoop_ok (vs := vs) (tg := tg) (mc := mc) (me := me) (ds := ds) (ρ := wipeR ρ1 vs) with ⟨xs, ρ2, eL⟩ | eL
  case inr => rw [eL] at h1; exact h1.elim
  rw [eL] at h1
  have h1 : post G σ ρ1 H1 (fun d ρ' H1 => ∀ v H', NewV G.K H1 (G.B ρ' σ) d v H' → Q v H') (.ok (.list xs) (restR ρ2 ρ1 vs)) := h1
  have nb : ¬ G.B0 L := fun b => by obtain ⟨us, e⟩ := r1.amb L b; rw [hL] at e; cases e
  generalize hB1 : (fun a => G.B0 a ∨ a = L) = B1
  have bL : B1 L := by rw [← hB1]; exact .inr rfl
  have r1' : Rl G.K B1 ρ1 σ (upd H1 L (.lst [])) := by rw [← hB1]; exact r1.more hL
  have rs' : RpA G.K (upd H1 L (.lst [])) (Bs B1 ρ1 σ) srcs jvs := rs.mono (O := fun _ => False) (Grw.new hL).fr (fun _ z => z.elim) (fun _ z => z.elim) fun a z => by
    rw [← hB1] at z
    rcases z with (z | z) | z
    · exact .inl (.inl z)
    · exact .inr (Nw.of (by rw [z]; exact hL))
    · exact .inl (.inr z)
  refine ⟨fun i m H => m = ds.length - i ∧ i ≤ ds.length ∧ ∃ ρi acc accv, CInv G.K B1 L vs tg mc me ds xs srcs jvs ρ1 ρ2 σ (upd H1 L (.lst [])) i H ρi acc accv, ⟨ds.length, rfl, Nat.zero_le _, wipeR ρ1 vs, [], [], ⟨r1'.wipe vs, upd_same, .nil, rs'.less fun a z => z.imp id own_wipe, ⟨xs, eL, rfl⟩, Nat.le_refl _, Fr.refl, Fr.refl, fun a z => own_wipe z, fun j hj => by rw [wipeR_out hj]⟩⟩, ?_⟩
  rintro i m H2 ⟨rfl, hi2, ρi, acc, accv, I⟩
  by_cases hlt : i < ds.length
  · -- a turn
    refine .inr ⟨gd.go H2 _ i I.src hlt, fun H' => ds.length - (i + 1) = ds.length - (i + 1) ∧ i + 1 ≤ ds.length ∧ ∃ ρi acc accv, CInv G.K B1 L vs tg mc me ds xs srcs jvs ρ1 ρ2 σ (upd H1 L (.lst [])) (i + 1) H' ρi acc accv, fun H' w => ⟨ds.length - (i + 1), by omega, w⟩, fun x H3 y => ?_⟩
    obtain ⟨rp, g3⟩ := gd.yld H2 _ i x H3 I.src y _ (List.getElem?_eq_getElem hlt)
    obtain ⟨rest, eR, eX⟩ := I.loop
    rw [List.drop_eq_getElem_cons hlt] at eR
    obtain ⟨ρt, eT, hcase⟩ := compLoop_cons eR
    obtain ⟨σ2, hgo, st⟩ := setTg_ok (I.rl.grw g3) eT rp
    rw [eK]
    refine hgo _ ⟨(st.wi vs htg).trans (wipe_wipe vs), ?_⟩
    have hL3 : H3 L = some (.lst accv) := g3 _ _ I.at_ id
    have stw : L2.wipe σ2 vs = L2.wipe σ vs := (st.wi vs htg).trans (wipe_wipe vs)
    -- from the store on: what a step of the block keeps
    have keep : ∀ {ρb : Rho} {H5 : Hp}, Rl G.K B1 ρb σ2 H5 → Stp ρt H3 ρb H5 σ2 → H5 L = some (.lst accv) ∧ RpA G.K H5 (Bs B1 ρb σ2) acc accv ∧ RpA G.K H5 (Bs B1 ρb σ2) srcs jvs ∧
        Fr (Bs B1 ρ1 σ) (upd H1 L (.lst [])) H5 ∧ Fr (fun a => a = L ∨ Own ρ1 σ a) (upd H1 L (.lst [])) H5 ∧ (∀ a, Own ρb σ2 a → Own ρ1 σ a) ∧ ∀ j : Nat, j ∉ vs → isPar ρb[j]? = isPar ρ1[j]? := fun {ρb H5} rb sb => by
      have nL : ¬ Own ρt σ2 L := fun ⟨j, ys, mm, e⟩ => by
        obtain ⟨b, ws, e3, _, _, _, n4⟩ := st.rl.mu j ys mm
        rw [e] at e3; cases e3
        exact n4 bL
      have o1 : ∀ a, Own ρt σ2 a → Own ρ1 σ a := fun a z => I.ow a (st.ow a z)
      refine ⟨sb.fr.at hL3 nL rfl, ?_, ?_, (I.fr.trans g3.fr (O1 := fun _ => False) fun _ _ _ _ _ z => z).trans sb.fr fun a o e n _ z => n (.inr (o1 a z)), (I.fn.trans g3.fr (O1 := fun _ => False) fun _ _ _ _ _ z => z).trans sb.fr fun a o e n _ z => n (.inr (o1 a z)), fun a z => o1 a (sb.ow a z), fun j hj => ?_⟩
      · exact st.rl.keepA sb ((I.accR.grw g3).less fun a z => z.imp id (st.ow a))
      · exact st.rl.keepA sb ((I.src.grw g3).less fun a z => z.imp id (st.ow a))
      · rw [sb.pa, st.pa, I.pa j hj]
    have src_ : ∀ {ρb : Rho} {H5 : Hp} {es : List D} {ws : List V}, RpA G.K H5 (Bs B1 ρb σ2) es ws → RpA G.K H5 (Bs B1 (wipeR ρb vs) (wipe σ vs)) es ws := fun {ρb H5 es ws} h => h.less fun a z => z.imp id fun z => by rw [← stw] at z; exact own_wipe z
    have parW : ∀ {ρb : Rho}, (∀ j : Nat, j ∉ vs → isPar ρb[j]? = isPar ρ1[j]?) → ∀ j : Nat, j ∉ vs → isPar (wipeR ρb vs)[j]? = isPar ρ1[j]? := fun {ρb} h j hj => by rw [wipeR_out hj]; exact h j hj
    have ownW : ∀ {ρb : Rho}, (∀ a, Own ρb σ2 a → Own ρ1 σ a) → ∀ a, Own (wipeR ρb vs) (wipe σ vs) a → Own ρ1 σ a := fun {ρb} h a z => h a (by rw [← stw] at z; exact own_wipe z)
    have rlW : ∀ {ρb : Rho} {H5 : Hp}, Rl G.K B1 ρb σ2 H5 → Rl G.K B1 (wipeR ρb vs) (wipe σ vs) H5 := fun {ρb H5} h => by rw [← stw]; exact h.wipe vs
    refine ⟨B1, ρt, st.rl, ?_⟩
    rcases hcase with ⟨ρa, xv, ρb, rr, e2, e3, e4, e5⟩ | ⟨ρa, e2, e4⟩
    · rw [e2]
      intro H4 r4 s4
      show if true = true then _ else _
      rw [if_pos rfl]
      refine ⟨B1, ρa, r4, ?_⟩
      rw [e3]
      intro H5 r5 s5 yv rp5
      obtain ⟨k1, k2, k3, k4, k5, k6, k7⟩ := keep r5 (s4.trans s5)
      have al : accv.length = acc.length := I.accR.length.symm
      have rp5 : Rp G.K H5 (Bs B1 ρb σ2) xv yv := rp5
      have nO : ∀ a, Own ρb σ2 a → a ≠ L := fun a ⟨j, ys, mm, e⟩ z => by
        obtain ⟨b, ws, e3, _, _, _, n4⟩ := r5.mu j ys mm
        rw [e] at e3; cases e3
        exact n4 (z ▸ bL)
      refine ⟨accv, k1, by have := I.len; omega, rfl, hlt, wipeR ρb vs, acc ++ [xv], accv ++ [yv], ?_⟩
      have tA : ∀ {es : List D} {ws us : List V}, RpA G.K H5 (Bs B1 ρb σ2) es ws → RpA G.K (upd H5 L (.lst us)) (Bs B1 ρb σ2) es ws := fun {es ws us} h => touchA (B := Bs B1 ρb σ2) (.inl bL) k1 h
      refine ⟨rlW (r5.touch bL k1), upd_same, src_ (tA (k2.append (.cons rp5 .nil))), src_ (tA k3), ⟨rr, e4, by rw [← eX, e5]; simp⟩, by rw [List.length_append]; have := I.len; simpa using this, fun a o e n t => ?_, fun a o e n t => ?_, ownW k6, parW k7⟩
      · rw [upd_ne fun z => n (by rw [z]; exact .inl bL)]
        exact k4 a o e n t
      · rw [upd_ne fun z => n (.inl z)]
        exact k5 a o e n t
    · rw [e2]
      intro H4 r4 s4
      obtain ⟨k1, k2, k3, k4, k5, k6, k7⟩ := keep r4 s4
      show if false = true then _ else _
      rw [if_neg Bool.false_ne_true]
      exact ⟨rfl, hlt, wipeR ρa vs, acc, accv, rlW r4, k1, src_ k2, src_ k3, ⟨rest, e4, eX⟩, Nat.le_succ_of_le I.len, k4, k5, ownW k6, parW k7⟩
  · -- the end
    have ei : i = ds.length := by omega
    subst ei
    refine .inl ⟨gd.stop H2 _ _ I.src (Nat.le_refl _), ?_⟩
    obtain ⟨rest, eR, eX⟩ := I.loop
    rw [List.drop_length] at eR
    have eR : Res.ok [] ρi = Res.ok rest ρ2 := eR
    cases eR
    rw [List.append_nil] at eX
    subst eX
    obtain ⟨rF, oF⟩ := r1'.rest hn I.rl I.fr I.ow
    have hlF : ρ2.length = ρ1.length := by rw [I.rl.len, wipe_length, r1.len]
    have rF' : Rl G.K G.B0 (restR ρ2 ρ1 vs) σ (cutH H2 L) := by rw [← hB1] at rF; exact rF.cut I.at_ nb
    have stp : Stp ρ1 H1 (restR ρ2 ρ1 vs) (cutH H2 L) σ := by
      refine ⟨fun a o e n t => ?_, fun a z => I.ow a (oF a z), fun j => ?_⟩
      · have ne : a ≠ L := fun z => by rw [z, hL] at e; cases e
        rw [cutH_ne ne]
        exact I.fn a o (by rw [upd_ne ne]; exact e) (fun z => z.elim ne n) t
      · by_cases hj : j ∈ vs
        · rw [restR_in hlF hj]
        · rw [restR_out hj, I.pa j hj]
    have bsF : ∀ a, Bs G.B0 (restR ρ2 ρ1 vs) σ a ∨ a = L → Bs B1 ρ2 (L2.wipe σ vs) a := fun a z => by
      rcases z with (z | z) | z
      · exact .inl (by rw [← hB1]; exact .inl z)
      · exact .inr (oF a z)
      · exact .inl (by rw [z]; exact bL)
    have al : accv.length ≤ sizeLine := by rw [← I.accR.length]; have := I.len; omega
    have nB : ¬ Bs G.B0 (restR ρ2 ρ1 vs) σ L := fun z => by
      rcases z with z | z
      · exact nb z
      · obtain ⟨j, ys, mm, e⟩ := oF L z
        obtain ⟨b, ws, e3, _, _, _, n4⟩ := I.rl.mu j ys mm
        rw [e] at e3; cases e3
        exact n4 bL
    refine h1 (cutH H2 L) rF' stp _ _ ⟨cutH_grw, .lst (.inl I.at_) nB al (I.accR.less fun a z => bsF a (.inl z)), fun ys e => ?_⟩
    cases e
    exact ⟨L, accv, rfl, cutH_self, I.at_, al, I.accR.less fun a z => bsF a z⟩
end
end Tw

set_option Elab.async false
set_option linter.all false
set_option maxRecDepth 100000
set_option maxHeartbeats 1000000
namespace Tw
open PySem PySem.Spec PyProof.Rows L2

def EW (G : Gv) (σ : L2.St) : XK := match G.W with
  | none => fun _ _ _ => False
  | some w => fun c d H => w c d σ H
/-- a function's promise where no guard stands around -/
structure FnG (nr : Bool) (P : Program) (w : World) (K : PySem.W.Frag) (mg : Str → Option Value) (base : Heap) (CX : CXT) (k : Nat) (f : Addr) (fd : FuncData) (ps : List Str) (sp : Sp) : Prop where
  len : ∀ vs H Q E, sp vs H Q E → vs.length = ps.length
  run : ∀ (A : Around) (outer : List Env) (s : Shared) (H : Hp) (args : Args) (us : List Value) (vs : List V) (Q : VK) (E : XK), Room k A → (nr = false → A.guards = some []) → Env0 P w K mg base A outer s H → BindsTo s fd args (ps.zip us) → Vals vs us → sp vs H Q E →
    codeAny (model P w) A (.call (.ref f) args) (CR CX outer P w H s Q E) s
theorem FnG.mono {nr : Bool} {P : Program} {w : World} {K : PySem.W.Frag} {mg : Str → Option Value} {base : Heap} {CX : CXT} {j k : Nat} {f : Addr} {fd : FuncData} {ps : List Str} {sp : Sp} (F : FnG nr P w K mg base CX j f fd ps sp) (h : j ≤ k) :
    FnG nr P w K mg base CX k f fd ps sp := ⟨F.len, fun A outer s H args us vs Q E hr => F.run A outer s H args us vs Q E (hr.mono h)⟩

def outR : List Arg → List (List D) → Option Rho
  | [], [] => some []
  | .val d :: as, o => (outR as o).map (some (.dat d) :: ·)
  | .mut _ :: as, x :: o => (outR as o).map (some (.par x) :: ·)
  | _, _ => none
inductive ArL (K : PySem.W.Frag) (B : Addr → Prop) (ρ : Rho) (σ : L2.St) (H : Hp) : List Bool → List PArg → List Arg → List V → Prop
  | nil : ArL K B ρ σ H [] [] [] []
  | val {ms : List Bool} {ps : List PArg} {as : List Arg} {vs : List V} {p : PArg} {d : D} {v : V} : Rp K H B d v → ArL K B ρ σ H ms ps as vs → ArL K B ρ σ H (false :: ms) (p :: ps) (.val d :: as) (v :: vs)
  | mu {ms : List Bool} {ps : List PArg} {as : List Arg} {vs : List V} {i : Nat} {xs : List D} {v : V} : mutAt ρ i xs → σ[i]? = some (some v) → ArL K B ρ σ H ms ps as vs → ArL K B ρ σ H (true :: ms) (.slot i :: ps) (.mut xs :: as) (v :: vs)
section
variable {G : Gv} {K : PySem.W.Frag} {B0 B : Addr → Prop} {σ : L2.St} {ρ ρ' : Rho} {H H' : Hp} {ms : List Bool} {ps : List PArg} {as : List Arg} {vs : List V}
theorem lend_ok : ∀ {ms : List Bool} {ps : List PArg} {vs : List V} {ρ : Rho}, Rl G.K G.B0 ρ σ H → PRA G ρ σ H ps vs →
    (∃ as ρ', lend ms ps ρ = .ok as ρ' ∧ Rl G.K G.B0 ρ' σ H ∧ Stp ρ H ρ' H σ ∧ ArL G.K (Bs G.B0 ρ' σ) ρ' σ H ms ps as vs) ∨ lend ms ps ρ = .stuck
  | [], [], _, ρ, r, .nil => .inl ⟨[], ρ, rfl, r, Stp.refl, .nil⟩
  | [], _ :: _, _, _, _, _ => .inr rfl
  | false :: _, [], _, _, _, _ => .inr rfl
  | true :: _, [], _, _, _, _ => .inr rfl
  | false :: ms, .val d :: ps, _, ρ, r, .cons p t => by
    rcases lend_ok (ms := ms) r t with ⟨as, ρ', e, r', s, ar⟩ | e
    · refine .inl ⟨.val d :: as, ρ', ?_, r', s, .val (r.keep s p) ar⟩
      show (lend ms ps ρ).bind _ = _
      rw [e]; rfl
    · refine .inr ?_
      show (lend ms ps ρ).bind _ = _
      rw [e]; rfl
  | false :: ms, .slot i :: ps, _, ρ, r, .cons (v := v) p t => by
    cases e0 : rd ρ i with
    | stuck =>
      refine .inr ?_
      show (rd ρ i).bind _ = _
      rw [e0]; rfl
    | exc x ρ1 => exact absurd e0 rd_exc
    | ok d ρ1 =>
      obtain ⟨r1, s1, w, e1, rp⟩ := rd_ok r e0
      have p' : σ[i]? = some (some v) := p
      rw [p'] at e1
      cases e1
      rcases lend_ok (ms := ms) r1 (t.step r s1) with ⟨as, ρ', e, r', s, ar⟩ | e
      · refine .inl ⟨.val d :: as, ρ', ?_, r', s1.trans s, .val (r1.keep s rp) ar⟩
        show (rd ρ i).bind _ = _
        rw [e0]
        show (lend ms ps ρ1).bind _ = _
        rw [e]; rfl
      · refine .inr ?_
        show (rd ρ i).bind _ = _
        rw [e0]
        show (lend ms ps ρ1).bind _ = _
        rw [e]; rfl
  | true :: ms, .val d :: ps, _, ρ, r, .cons p t => .inr rfl
  | true :: ms, .slot i :: ps, _, ρ, r, .cons (v := v) p t => by
    rcases lend_ok (ms := ms) r t with ⟨as, ρ', e, r', s, ar⟩ | e
    · have e2 : lend (true :: ms) (.slot i :: ps) ρ = match ρ'[i]? with
          | some (some (.own xs)) => .ok (.mut xs :: as) ρ'
          | some (some (.par xs)) => .ok (.mut xs :: as) ρ'
          | _ => .stuck := by
        show (lend ms ps ρ).bind _ = _
        rw [e]; rfl
      rw [e2]
      split
      · rename_i xs e3
        exact .inl ⟨_, _, rfl, r', s, .mu (.inl e3) p ar⟩
      · rename_i xs e3
        exact .inl ⟨_, _, rfl, r', s, .mu (.inr e3) p ar⟩
      · exact .inr rfl
    · refine .inr ?_
      show (lend ms ps ρ).bind _ = _
      rw [e]; rfl
theorem ArL.length : ∀ {ms : List Bool} {ps : List PArg} {as : List Arg} {vs : List V}, ArL K B ρ σ H ms ps as vs → as.length = vs.length
  | _, _, _, _, .nil => rfl
  | _, _, _, _, .val _ t => by simp [t.length]
  | _, _, _, _, .mu _ _ t => by simp [t.length]
theorem ArL.dat : ∀ {ms : List Bool} {ps : List PArg} {as : List Arg} {vs : List V}, ArL K B ρ σ H ms ps as vs → ∀ (k : Nat) (d : D), (as.map Arg.ent)[k]? = some (some (.dat d)) → ∃ v, (vs.map some)[k]? = some (some v) ∧ Rp K H B d v
  | _, _, _, _, .nil, k, d, e => by simp at e
  | _, _, _, _, .val rp t, 0, d, e => by
    simp [Arg.ent] at e
    subst e
    exact ⟨_, rfl, rp⟩
  | _, _, _, _, .mu _ _ t, 0, d, e => by simp [Arg.ent] at e
  | _, _, _, _, .val _ t, k + 1, d, e => by
    obtain ⟨v, h1, h2⟩ := t.dat k d (by simpa using e)
    exact ⟨v, by simpa using h1, h2⟩
  | _, _, _, _, .mu _ _ t, k + 1, d, e => by
    obtain ⟨v, h1, h2⟩ := t.dat k d (by simpa using e)
    exact ⟨v, by simpa using h1, h2⟩
/-- a lent parameter: the caller's slot -/
theorem ArL.mut : ∀ {ms : List Bool} {ps : List PArg} {as : List Arg} {vs : List V}, ArL K B ρ σ H ms ps as vs → ∀ (k : Nat) (xs : List D), mutAt (as.map Arg.ent) k xs →
    ∃ i v, mutAt ρ i xs ∧ σ[i]? = some (some v) ∧ (vs.map some)[k]? = some (some v) ∧ i ∈ lent ms ps
  | _, _, _, _, .nil, k, xs, m => by rcases m with m | m <;> simp at m
  | _, _, _, _, .val rp t, 0, xs, m => by rcases m with m | m <;> simp [Arg.ent] at m
  | _, _, _, _, .mu (v := v) (i := i) m' e' t, 0, xs, m => by
    rcases m with m | m
    · simp [Arg.ent] at m
    · simp [Arg.ent] at m
      subst m
      exact ⟨i, v, m', e', rfl, List.mem_cons_self⟩
  | _, _, _, _, .val (p := p) _ t, k + 1, xs, m => by
    obtain ⟨i, v, h1, h2, h3, h4⟩ := t.mut k xs (by rcases m with m | m; exact .inl (by simpa using m); exact .inr (by simpa using m))
    exact ⟨i, v, h1, h2, by simpa using h3, by cases p <;> exact h4⟩
  | _, _, _, _, .mu _ _ t, k + 1, xs, m => by
    obtain ⟨i, v, h1, h2, h3, h4⟩ := t.mut k xs (by rcases m with m | m; exact .inl (by simpa using m); exact .inr (by simpa using m))
    exact ⟨i, v, h1, h2, by simpa using h3, List.mem_cons_of_mem _ h4⟩
theorem dup_cons {i : Nat} {is : List Nat} (h : dup (i :: is) = false) : i ∉ is ∧ dup is = false := by
  have h' : (is.contains i || dup is) = false := h
  rw [Bool.or_eq_false_iff] at h'
  refine ⟨fun m => ?_, h'.2⟩
  have h1 := h'.1
  rw [List.contains_iff_mem.mpr m] at h1
  exact absurd h1 (by decide)
theorem lent_false {ms : List Bool} {ps : List PArg} {p : PArg} : lent (false :: ms) (p :: ps) = lent ms ps := by cases p <;> rfl
/-- two lent parameters are two slots -/
theorem ArL.inj : ∀ {ms : List Bool} {ps : List PArg} {as : List Arg} {vs : List V}, ArL K B ρ σ H ms ps as vs → dup (lent ms ps) = false → (∀ i j xs ys a, mutAt ρ i xs → mutAt ρ j ys → σ[i]? = some (some (.ref a)) → σ[j]? = some (some (.ref a)) → i = j) →
    ∀ (k l : Nat) (xs ys : List D) (a : Addr), mutAt (as.map Arg.ent) k xs → mutAt (as.map Arg.ent) l ys → (vs.map some)[k]? = some (some (.ref a)) → (vs.map some)[l]? = some (some (.ref a)) → k = l
  | _, _, _, _, .nil, _, _, k, l, xs, ys, a, m, _, _, _ => by rcases m with m | m <;> simp at m
  | _, _, _, _, .val rp t, hd, hi, 0, l, xs, ys, a, m, _, _, _ => by rcases m with m | m <;> simp [Arg.ent] at m
  | _, _, _, _, .val rp t, hd, hi, k + 1, 0, xs, ys, a, _, m, _, _ => by rcases m with m | m <;> simp [Arg.ent] at m
  | _, _, _, _, .val rp t, hd, hi, k + 1, l + 1, xs, ys, a, m1, m2, e1, e2 => by
    rw [lent_false] at hd
    rw [t.inj hd hi k l xs ys a (by simpa [mutAt] using m1) (by simpa [mutAt] using m2) (by simpa using e1) (by simpa using e2)]
  | _, _, _, _, .mu m e t, hd, hi, 0, 0, xs, ys, a, _, _, _, _ => rfl
  | _, _, _, _, .mu (i := i) (v := v0) (vs := vs0) m e t, hd, hi, 0, l + 1, xs, ys, a, m1, m2, e1, e2 => by
    obtain ⟨j, v, h1, h2, h3, h4⟩ := t.mut l ys (by simpa [mutAt] using m2)
    have e2' : (vs0.map some)[l]? = some (some (V.ref a)) := by simpa using e2
    rw [e2'] at h3
    cases h3
    have e1' : v0 = V.ref a := by simpa using e1
    subst e1'
    have := hi i j _ _ a m h1 e h2
    subst this
    exact absurd h4 (dup_cons hd).1
  | _, _, _, _, .mu (i := i) (v := v0) (vs := vs0) m e t, hd, hi, k + 1, 0, xs, ys, a, m1, m2, e1, e2 => by
    obtain ⟨j, v, h1, h2, h3, h4⟩ := t.mut k xs (by simpa [mutAt] using m1)
    have e1' : (vs0.map some)[k]? = some (some (V.ref a)) := by simpa using e1
    rw [e1'] at h3
    cases h3
    have e2' : v0 = V.ref a := by simpa using e2
    subst e2'
    have := hi i j _ _ a m h1 e h2
    subst this
    exact absurd h4 (dup_cons hd).1
  | _, _, _, _, .mu m e t, hd, hi, k + 1, l + 1, xs, ys, a, m1, m2, e1, e2 => by
    rw [t.inj (dup_cons hd).2 hi k l xs ys a (by simpa [mutAt] using m1) (by simpa [mutAt] using m2) (by simpa using e1) (by simpa using e2)]
/-- what was lent, by the list of slots -/
theorem ArL.outs : ∀ {ms : List Bool} {ps : List PArg} {as : List Arg} {vs : List V} {outs : List (List D)} {ρo : Rho}, ArL K B ρ σ H ms ps as vs → outR as outs = some ρo → ∀ (k j : Nat), (lent ms ps)[k]? = some j →
    ∃ (p : Nat) (v : V) (ys xs : List D), (vs.map some)[p]? = some (some v) ∧ σ[j]? = some (some v) ∧ outs[k]? = some ys ∧ ρo[p]? = some (some (.par ys)) ∧ mutAt ρ j xs
  | _, _, _, _, outs, ρo, .nil, _, k, j, e => by simp [lent] at e
  | _, _, _, _, outs, ρo, .val rp t, ho, k, j, e => by
    rw [lent_false] at e
    have ho' : (outR _ outs).map (some (Ent.dat _) :: ·) = some ρo := ho
    obtain ⟨ρ1, h1, rfl⟩ := Option.map_eq_some_iff.mp ho'
    obtain ⟨p, v, ys, xs, a1, a2, a3, a4, a5⟩ := t.outs h1 k j e
    exact ⟨p + 1, v, ys, xs, by simpa using a1, a2, a3, by simpa using a4, a5⟩
  | _, _, _, _, [], ρo, .mu m e' t, ho, k, j, e => by cases ho
  | _, _, _, _, x :: outs, ρo, .mu (i := i) m e' t, ho, k, j, e => by
    have ho' : (outR _ outs).map (some (Ent.par x) :: ·) = some ρo := ho
    obtain ⟨ρ1, h1, rfl⟩ := Option.map_eq_some_iff.mp ho'
    cases k with
    | zero =>
      have e2 : i = j := by simpa [lent] using e
      subst e2
      exact ⟨0, _, x, _, rfl, e', rfl, rfl, m⟩
    | succ k =>
      obtain ⟨p, v, ys, xs, a1, a2, a3, a4, a5⟩ := t.outs h1 k j (by simpa [lent] using e)
      exact ⟨p + 1, v, ys, xs, by simpa using a1, a2, by simpa using a3, by simpa using a4, a5⟩
/-- a lent address -/
def Len (σ : L2.St) (is : List Nat) (a : Addr) : Prop := ∃ i ∈ is, σ[i]? = some (some (.ref a))
theorem ArL.own_len (ar : ArL K B ρ σ H ms ps as vs) {a : Addr} (h : Own (as.map Arg.ent) (vs.map some) a) : Len σ (lent ms ps) a ∧ Own ρ σ a := by
  obtain ⟨k, xs, m, e⟩ := h
  obtain ⟨i, v, h1, h2, h3, h4⟩ := ar.mut k xs m
  rw [e] at h3
  cases h3
  exact ⟨⟨i, h4, h2⟩, ⟨i, xs, h1, h2⟩⟩
theorem ArL.len_own (ar : ArL K B ρ σ H ms ps as vs) {outs : List (List D)} {ρo : Rho} (ho : outR as outs = some ρo) {a : Addr} (h : Len σ (lent ms ps) a) : Own ρo (vs.map some) a := by
  obtain ⟨i, hi, e⟩ := h
  obtain ⟨k, hk⟩ := List.getElem?_of_mem hi
  obtain ⟨p, v, ys, xs, a1, a2, a3, a4, a5⟩ := ar.outs ho k i hk
  rw [e] at a2
  cases a2
  exact ⟨p, ys, .inr a4, a1⟩
/-- the callee's variables at its start -/
theorem ArL.start (r : Rl K B0 ρ σ H) (ar : ArL K (Bs B0 ρ σ) ρ σ H ms ps as vs) (hd : dup (lent ms ps) = false) : Rl K (fun a => Bs B0 ρ σ a ∧ ¬ Len σ (lent ms ps) a) (as.map Arg.ent) (vs.map some) H := by
  have bs : ∀ a, Bs (fun a => Bs B0 ρ σ a ∧ ¬ Len σ (lent ms ps) a) (as.map Arg.ent) (vs.map some) a → Bs B0 ρ σ a := fun a z => by
    rcases z with z | z
    · exact z.1
    · exact .inr (ar.own_len z).2
  refine ⟨by rw [List.length_map, List.length_map, ar.length], fun k d e => ?_, fun k xs m => ?_, ar.inj hd r.inj, fun a z => r.bs_lst a z.1, r.tab⟩
  · obtain ⟨v, h1, h2⟩ := ar.dat k d e
    exact ⟨v, h1, h2.less bs⟩
  · obtain ⟨i, v, h1, h2, h3, h4⟩ := ar.mut k xs m
    obtain ⟨a, us, e1, e2, z, ra, nb⟩ := r.mu i xs h1
    rw [h2] at e1
    cases e1
    exact ⟨a, us, h3, e2, z, ra.less bs, fun z => z.2 ⟨i, h4, h2⟩⟩
theorem back_spec : ∀ {is : List Nat} {ρ ρ' : Rho} {outs : List (List D)}, back ρ is outs = some ρ' → dup is = false → ρ'.length = ρ.length ∧ (∀ j : Nat, j ∉ is → ρ'[j]? = ρ[j]?) ∧ ∀ (k j : Nat) (ys : List D), is[k]? = some j → outs[k]? = some ys → j < ρ.length → ρ'[j]? = some (reSet ρ[j]? ys)
  | [], ρ, ρ', [], h, _ => by
    cases h
    exact ⟨rfl, fun _ _ => rfl, fun k j ys e => by simp at e⟩
  | [], _, _, _ :: _, h, _ => by cases h
  | _ :: _, _, _, [], h, _ => by cases h
  | i :: is, ρ, ρ', xs :: outs, h, hd => by
    obtain ⟨n, hd'⟩ := dup_cons hd
    obtain ⟨h0, h1, h2⟩ := back_spec (show back (ρ.set i (reSet ρ[i]? xs)) is outs = some ρ' from h) hd'
    refine ⟨by rw [h0, List.length_set], fun j hj => ?_, fun k j ys e1 e2 hj => ?_⟩
    · rw [h1 j fun m => hj (List.mem_cons_of_mem _ m), List.getElem?_set_ne fun e => hj (by rw [e]; exact List.mem_cons_self)]
    · cases k with
      | zero =>
        simp at e1 e2
        subst e1; subst e2
        rw [h1 i n, List.getElem?_set_self hj]
      | succ k =>
        have m : j ∈ is := List.mem_of_getElem? (by simpa using e1)
        rw [h2 k j ys (by simpa using e1) (by simpa using e2) (by rw [List.length_set]; exact hj), List.getElem?_set_ne]
        rintro rfl
        exact n m
theorem reSet_mut {i : Nat} {xs ys zs : List D} {e : Option Ent} (m : mutAt ρ i xs) : (mutAt ρ' i zs → ρ'[i]? = some (reSet ρ[i]? ys) → zs = ys) ∧ (ρ'[i]? = some (reSet ρ[i]? ys) → mutAt ρ' i ys ∧ isPar ρ'[i]? = isPar ρ[i]?) := by
  rcases m with m | m
  · rw [m]
    refine ⟨fun h e => ?_, fun e => ⟨.inl e, by rw [e]; rfl⟩⟩
    unfold mutAt at h
    rw [e] at h
    rcases h with h | h
    · cases h; rfl
    · cases h
  · rw [m]
    refine ⟨fun h e => ?_, fun e => ⟨.inr e, by rw [e]; rfl⟩⟩
    unfold mutAt at h
    rw [e] at h
    rcases h with h | h
    · cases h
    · cases h; rfl
/-- behind the call: the caller's variables -/
theorem back_ok {outs : List (List D)} {ρo ρ3 : Rho} {E : Addr → Prop} (r : Rl K B0 ρ σ H) (ar : ArL K (Bs B0 ρ σ) ρ σ H ms ps as vs) (hd : dup (lent ms ps) = false) (ho : outR as outs = some ρo)
    (hb : back ρ (lent ms ps) outs = some ρ3) (fr : Fr (Own (as.map Arg.ent) (vs.map some)) H H') (hE : ∀ a, E a → Nw H a) (rc : Rl K (fun a => (Bs B0 ρ σ a ∧ ¬ Len σ (lent ms ps) a) ∨ E a) ρo (vs.map some) H') :
    Rl K (fun a => B0 a ∨ E a) ρ3 σ H' ∧ (∀ a, Own ρ3 σ a → Own ρ σ a) ∧ (∀ j : Nat, isPar ρ3[j]? = isPar ρ[j]?) ∧ (∀ a, Bs (fun a => B0 a ∨ E a) ρ3 σ a → Bs (fun a => (Bs B0 ρ σ a ∧ ¬ Len σ (lent ms ps) a) ∨ E a) ρo (vs.map some) a) := by
  obtain ⟨hl, hs1, hs2⟩ := back_spec hb hd
  -- a lent slot behind the call
  have lentS : ∀ j, j ∈ lent ms ps → ∃ (p : Nat) (v : V) (ys xs : List D), (vs.map some)[p]? = some (some v) ∧ σ[j]? = some (some v) ∧ ρo[p]? = some (some (.par ys)) ∧ mutAt ρ j xs ∧ ρ3[j]? = some (reSet ρ[j]? ys) := fun j hj => by
    obtain ⟨k, hk⟩ := List.getElem?_of_mem hj
    obtain ⟨p, v, ys, xs, a1, a2, a3, a4, a5⟩ := ar.outs ho k j hk
    exact ⟨p, v, ys, xs, a1, a2, a4, a5, hs2 k j ys hk a3 a5.len⟩
  have ow3 : ∀ a, Own ρ3 σ a → Own ρ σ a := fun a ⟨j, ys, m, e⟩ => by
    by_cases hj : j ∈ lent ms ps
    · obtain ⟨p, v, ys', xs, a1, a2, a3, a4, a5⟩ := lentS j hj
      exact ⟨j, xs, a4, e⟩
    · unfold mutAt at m
      rw [hs1 j hj] at m
      exact ⟨j, ys, m, e⟩
  have bs3 : ∀ a, Bs (fun a => B0 a ∨ E a) ρ3 σ a → Bs B0 ρ σ a ∨ Nw H a := fun a z => by
    rcases z with (z | z) | z
    · exact .inl (.inl z)
    · exact .inr (hE a z)
    · exact .inl (.inr (ow3 a z))
  have bsc : ∀ a, Bs (fun a => B0 a ∨ E a) ρ3 σ a → Bs (fun a => (Bs B0 ρ σ a ∧ ¬ Len σ (lent ms ps) a) ∨ E a) ρo (vs.map some) a := fun a z => by
    rcases z with (z | z) | z
    · exact .inl (.inl ⟨.inl z, fun ⟨i, hi, e⟩ => by
        obtain ⟨p, v, ys', xs, a1, a2, a3, a4, a5⟩ := lentS i hi
        obtain ⟨b, us, e1, _, _, _, nb⟩ := r.mu i xs a4
        rw [e] at e1
        cases e1
        exact nb z⟩)
    · exact .inl (.inr z)
    · by_cases hn : Len σ (lent ms ps) a
      · exact .inr (ar.len_own ho hn)
      · exact .inl (.inl ⟨.inr (ow3 a z), hn⟩)
  have mono : ∀ {d : D} {v : V}, Rp K H (Bs B0 ρ σ) d v → Rp K H' (Bs (fun a => B0 a ∨ E a) ρ3 σ) d v := fun {d v} h => h.mono fr (fun a z => .inr (ar.own_len z).2) (fun a z => r.own_lst a (ar.own_len z).2) bs3
  have monoA : ∀ {d : List D} {v : List V}, RpA K H (Bs B0 ρ σ) d v → RpA K H' (Bs (fun a => B0 a ∨ E a) ρ3 σ) d v := fun {d v} h => h.mono fr (fun a z => .inr (ar.own_len z).2) (fun a z => r.own_lst a (ar.own_len z).2) bs3
  refine ⟨⟨by rw [hl]; exact r.len, fun j d e => ?_, fun j ys m => ?_, fun j k ys zs a m1 m2 => ?_, fun a z => ?_, rc.tab⟩, ow3, fun j => ?_, bsc⟩
  · by_cases hj : j ∈ lent ms ps
    · obtain ⟨p, v, ys', xs, a1, a2, a3, a4, a5⟩ := lentS j hj
      have := ((reSet_mut (zs := []) (e := none) a4).2 a5).1
      rcases this with q | q <;> (rw [e] at q; cases q)
    · rw [hs1 j hj] at e
      obtain ⟨v, e1, h⟩ := r.dat j d e
      exact ⟨v, e1, mono h⟩
  · by_cases hj : j ∈ lent ms ps
    · obtain ⟨p, v, ys', xs, a1, a2, a3, a4, a5⟩ := lentS j hj
      obtain rfl := (reSet_mut (e := none) a4).1 m a5
      obtain ⟨a, us, e1, e2, z, ra, nb⟩ := rc.mu p ys (.inr a3)
      rw [a1] at e1
      cases e1
      obtain ⟨a', us', e1', e2', _, _, nb'⟩ := r.mu j xs a4
      rw [a2] at e1'
      cases e1'
      exact ⟨a, us, a2, e2, z, ra.less bsc, fun q => q.elim nb' fun q => (hE a q).no e2' rfl⟩
    · unfold mutAt at m
      rw [hs1 j hj] at m
      obtain ⟨a, us, e1, e2, z, ra, nb⟩ := r.mu j ys m
      have nl : ¬ Own (as.map Arg.ent) (vs.map some) a := fun q => by
        obtain ⟨i, hi, e⟩ := (ar.own_len q).1
        obtain ⟨p, v, ys', xs, a1, a2, a3, a4, a5⟩ := lentS i hi
        have := r.inj i j xs ys a a4 m e e1
        subst this
        exact hj hi
      exact ⟨a, us, e1, fr.at e2 nl rfl, z, monoA ra, fun q => q.elim nb fun q => (hE a q).no e2 rfl⟩
  · have back1 : ∀ j ys, mutAt ρ3 j ys → ∃ xs, mutAt ρ j xs := fun j ys m => by
      by_cases hj : j ∈ lent ms ps
      · obtain ⟨p, v, ys', xs, a1, a2, a3, a4, a5⟩ := lentS j hj
        exact ⟨xs, a4⟩
      · unfold mutAt at m
        rw [hs1 j hj] at m
        exact ⟨ys, m⟩
    obtain ⟨xs1, m1⟩ := back1 j ys m1
    obtain ⟨xs2, m2⟩ := back1 k zs m2
    exact r.inj j k xs1 xs2 a m1 m2
  · exact rc.bs_lst a (bsc a (.inl z))
  · by_cases hj : j ∈ lent ms ps
    · obtain ⟨p, v, ys', xs, a1, a2, a3, a4, a5⟩ := lentS j hj
      exact ((reSet_mut (zs := []) (e := none) a4).2 a5).2
    · rw [hs1 j hj]
end

/-- a list that nobody else holds -/
def FreC (K : PySem.W.Frag) (B0 : Addr → Prop) (ρo : Rho) (vs : List V) (H H' : Hp) (d : D) (v : V) : Prop :=
  ∃ xs a us, d = .list xs ∧ v = .ref a ∧ Nw H a ∧ H' a = some (.lst us) ∧ us.length ≤ sizeLine ∧ Rl K (fun x => B0 x ∨ x = a) ρo (vs.map some) H' ∧ RpA K H' (Bs (fun x => B0 x ∨ x = a) ρo (vs.map some)) xs us
def Fre (G : Gv) (ρ : Rho) (H : Hp) (ρ' : Rho) (H' : Hp) (σ : L2.St) (d : D) (v : V) : Prop :=
  ∃ xs a us, d = .list xs ∧ v = .ref a ∧ (Own ρ σ a ∨ Nw H a) ∧ H' a = some (.lst us) ∧ us.length ≤ sizeLine ∧ Rl G.K (fun x => G.B0 x ∨ x = a) ρ' σ H' ∧ RpA G.K H' (Bs (fun x => G.B0 x ∨ x = a) ρ' σ) xs us
def spR (xs : Bool) (K : PySem.W.Frag) (XO : Exc → Value → Option Addr → Hp → Prop) (B0 : Addr → Prop) (as : List Arg) (vs : List V) (H : Hp) (Q : VK) (E : XK) : CRes → Prop
  | .ok d fr outs => ∀ v H' ρo, outR as outs = some ρo → Rl K B0 ρo (vs.map some) H' → Fr (Own (as.map Arg.ent) (vs.map some)) H H' → Rp K H' (Bs B0 ρo (vs.map some)) d v → (fr = true → FreC K B0 ρo vs H H' d v) → Q v H'
  | .exc x outs => xs = true ∧ ∀ c dd H' ρo, outR as outs = some ρo → Rl K B0 ρo (vs.map some) H' → Fr (Own (as.map Arg.ent) (vs.map some)) H H' → XO x c dd H' → E c dd H'
  | .stuck => False
def spF (xs : Bool) (K : PySem.W.Frag) (XO : Exc → Value → Option Addr → Hp → Prop) (tab : Nat → FnDef) (id : Nat) : Sp := fun vs H Q E => ∃ B0 as, Rl K B0 (as.map Arg.ent) (vs.map some) H ∧ spR xs K XO B0 as vs H Q E (run tab id as)
/-- a value, and whether it is a list that nobody else holds -/
def tF (G : Gv) (m : Rho → Res (D × Bool)) : TE := fun σ H Q => ∃ ρ, Rl G.K G.B0 ρ σ H ∧ post G σ ρ H (fun r ρ' H' => ∀ v, Rp G.K H' (G.B ρ' σ) r.1 v → (r.2 = true → Fre G ρ H ρ' H' σ r.1 v) → Q v H') (m ρ)
theorem tF_of_tM {G : Gv} {m : Rho → Res (D × Bool)} {σ : L2.St} {H : Hp} {Q : VK} (h : tM G (fun ρ => (m ρ).bind fun r ρ2 => .ok r.1 ρ2) σ H Q) : tF G m σ H Q := by
  obtain ⟨ρ, r, q⟩ := h
  exact ⟨ρ, r, q.bind.imp fun a ρ' H' r' s' h v rp _ => h H' r' Stp.refl v rp⟩
section
variable {X : Cx} {G : Gv} {k : Nat} {f : Addr} {fd : FuncData} {fps : List Str} {x : Str} {p pos : Pos} {e : Expr} {es : List Expr} {tab : Nat → FnDef} {id n : Nat} {ms : List Bool} {xs nr : Bool}
theorem run_fnG {CX : CXT} {sp : Sp} {E : XK} {pins : List (Addr × Obj)} {σ : L2.St} {H : Hp} {s : Shared} {Q : VK} {us : List Value} {vs : List V} (F : FnG nr X.prog X.w X.K X.mg X.base CX k f fd fps sp) (hr : Room k X.A) (hgd : nr = false → X.A.guards = some []) (hb : Binds X.K fd fps []) (hx : PassesAt CX X σ E)
    (I : Inv X pins σ H s) (r : Vals vs us) (h : sp vs H Q E) : wpAny (model X.prog X.w) X.A (call (.ref f) us) (EP X pins σ Q) X.xe s := by
  have b := hb s us I.kIn (by rw [List.append_nil, ← r.length]; exact F.len _ _ _ _ h)
  rw [List.append_nil] at b
  refine wpAny_call (codeAny_mono (F.run X.A X.stack s H ⟨us, []⟩ us vs Q E hr hgd I.env0 b r h) fun o s' hq => ?_)
  cases o with
  | error e => exact hx pins H s e s' I hq
  | ok fl => cases fl with
    | ret u => exact I.after hq
    | _ => exact False.elim hq
theorem pe_callG {CX : CXT} {sp : Sp} {E : L2.St → XK} {t : TA} (F : FnG nr X.prog X.w X.K X.mg X.base CX k f fd fps sp) (hr : Room k X.A) (hgd : nr = false → X.A.guards = some []) (hg : Gl X x) (hm : X.mg x = some (.ref f)) (hk : PySem.W.keepIn X.K (.ref f) = true) (hb : Binds X.K fd fps []) (hx : ∀ σ, PassesAt CX X σ (E σ))
    (ha : PA X (e :: es) t) (hdb : (x == ("__debug__" : Str)) = false) (he : starEach (e :: es) X.env = (false, eval e X.env) :: starEach es X.env) (hpl : (backTo pos (starEach es X.env)).any (·.1) = false) :
    PE X (.Call (.Name x p) (e :: es) [] pos) (tCallS sp E t) :=
  ⟨fun pins s σ H Q I h => wpAny_Call_Name_kw (ld_glob I hg hm (PySem.W.callWith_K (h₀ := X.base) I.ok.mod.kin hk (thn (ha.run pos pins s σ H _ I h) fun us s1 ⟨vs, H1, I1, r, q⟩ => ⟨I1.kIn, run_fnG F hr hgd hb (hx σ) I1 r q⟩) he hpl) hdb)⟩
theorem pe_callG0 {CX : CXT} {sp : Sp} {E : L2.St → XK} (F : FnG nr X.prog X.w X.K X.mg X.base CX k f fd fps sp) (hr : Room k X.A) (hgd : nr = false → X.A.guards = some []) (hg : Gl X x) (hm : X.mg x = some (.ref f)) (hk : PySem.W.keepIn X.K (.ref f) = true) (hb : Binds X.K fd fps []) (hx : ∀ σ, PassesAt CX X σ (E σ))
    (hdb : (x == ("__debug__" : Str)) = false) : PE X (.Call (.Name x p) [] [] pos) (tCallS sp E tNil) :=
  ⟨fun pins s σ H Q I h => wpAny_Call_Name_kw (ld_glob I hg hm (PySem.W.callWith_K0 I.kIn hk (run_fnG (us := []) F hr hgd hb (hx σ) I .nil h)) hdb)⟩
/-- a call of a local name that holds a function -/
theorem pe_callVG {CX : CXT} {sp : Sp} {E : L2.St → XK} {t : TA} {i : Nat} (F : FnG nr X.prog X.w X.K X.mg X.base CX k f fd fps sp) (hr : Room k X.A) (hgd : nr = false → X.A.guards = some []) (hv : PE X (.Name x p) (tVar i)) (hk : PySem.W.keepIn X.K (.ref f) = true) (hb : Binds X.K fd fps []) (hx : ∀ σ, PassesAt CX X σ (E σ))
    (ha : PA X (e :: es) t) (he : starEach (e :: es) X.env = (false, eval e X.env) :: starEach es X.env) (hpl : (backTo pos (starEach es X.env)).any (·.1) = false) :
    PE X (.Call (.Name x p) (e :: es) [] pos) (fun σ H Q => σ[i]? = some (some (.ref f)) ∧ tCallS sp E t σ H Q) :=
  ⟨fun pins s σ H Q I ⟨h0, h⟩ => wpAny_Call_Name_kw (thn (hv.run pins s σ H (fun v H1 => v = .ref f ∧ H1 = H) I ⟨.ref f, h0, rfl, rfl⟩) fun u s1 ⟨v, H1, I1, r1, ev, eH⟩ => by
    subst ev
    rw [eH] at I1
    cases r1
    exact PySem.W.callWith_K (h₀ := X.base) I1.ok.mod.kin hk (thn (ha.run pos pins s1 σ H _ I1 h) fun us s2 ⟨vs, H2, I2, r, q⟩ => ⟨I2.kIn, run_fnG F hr hgd hb (hx σ) I2 r q⟩) he hpl)⟩
/-- by names -/
def BindsK (fd : FuncData) (ps : List Str) : Prop := ∀ (s : Shared) (us : List Value), us.length = ps.length → BindsTo s fd ⟨[], ps.zip us⟩ (ps.zip us)
theorem kw_fst {pos : Pos} {env : Env} : ∀ (kws : List Keyword), (backToKw pos (keywordEach kws env)).map (·.1) = kws.map (·.arg)
  | [] => rfl
  | ⟨n, v, p⟩ :: r => by
    show n :: (backToKw pos (keywordEach r env)).map (·.1) = n :: r.map (·.arg)
    rw [kw_fst r]
theorem kw_named {α : Type} : ∀ {l : List (Option Str × α)} {ps : List Str}, l.map (·.1) = ps.map some → l.all (·.1.isSome) = true ∧ l.any (·.1.isNone) = false ∧ l.filterMap (·.1) = ps
  | [], [], _ => ⟨rfl, rfl, rfl⟩
  | [], _ :: _, h => by cases h
  | _ :: _, [], h => by cases h
  | (n, a) :: l, p :: ps, h => by
    have h1 : n = some p := (List.cons.inj h).1
    obtain ⟨a1, a2, a3⟩ := kw_named (List.cons.inj h).2
    subst h1
    refine ⟨?_, ?_, ?_⟩
    · show (true && l.all _) = true
      rw [a1]; rfl
    · show (false || l.any _) = false
      rw [a2]; rfl
    · show p :: l.filterMap _ = _
      rw [a3]
theorem run_fnGk {CX : CXT} {sp : Sp} {E : XK} {pins : List (Addr × Obj)} {σ : L2.St} {H : Hp} {s : Shared} {Q : VK} {us : List Value} {vs : List V} (F : FnG nr X.prog X.w X.K X.mg X.base CX k f fd fps sp) (hr : Room k X.A) (hgd : nr = false → X.A.guards = some []) (hb : BindsK fd fps) (hx : PassesAt CX X σ E)
    (I : Inv X pins σ H s) (r : Vals vs us) (h : sp vs H Q E) : wpAny (model X.prog X.w) X.A (call (.ref f) ([] ++ []) (fps.zip us)) (EP X pins σ Q) X.xe s := by
  have b := hb s us (by rw [← r.length]; exact F.len _ _ _ _ h)
  refine wpAny_call (codeAny_mono (F.run X.A X.stack s H ⟨[], fps.zip us⟩ us vs Q E hr hgd I.env0 b r h) fun o s' hq => ?_)
  cases o with
  | error e => exact hx pins H s e s' I hq
  | ok fl => cases fl with
    | ret u => exact I.after hq
    | _ => exact False.elim hq
theorem pe_callGK {CX : CXT} {sp : Sp} {E : L2.St → XK} {t : TA} {kws : List Keyword} (F : FnG nr X.prog X.w X.K X.mg X.base CX k f fd fps sp) (hr : Room k X.A) (hgd : nr = false → X.A.guards = some []) (hg : Gl X x) (hm : X.mg x = some (.ref f)) (hk : PySem.W.keepIn X.K (.ref f) = true) (hb : BindsK fd fps) (hx : ∀ σ, PassesAt CX X σ (E σ))
    (ha : PK X kws t) (hn : kws.map (·.arg) = fps.map some) (hdb : (x == ("__debug__" : Str)) = false) :
    PE X (.Call (.Name x p) [] kws pos) (tCallS sp E t) :=
  ⟨fun pins s σ H Q I h => by
    obtain ⟨n1, n2, n3⟩ := kw_named ((kw_fst (pos := pos) (env := X.env) kws).trans hn)
    exact wpAny_Call_Name_kw (ld_glob I hg hm (PySem.W.callWith_KW0 (h₀ := X.base) I.ok.mod.kin hk n1 (thn (ha.run pos pins s σ H _ I h) fun us s1 ⟨vs, H1, I1, r, q⟩ => ⟨I1.kIn, by rw [n3]; exact run_fnGk F hr hgd hb (hx σ) I1 r q⟩) (by rw [n2]; rfl)) hdb)⟩
/-- a call of a local name that holds a function, by names -/
theorem pe_callVGK {CX : CXT} {sp : Sp} {E : L2.St → XK} {t : TA} {i : Nat} {kws : List Keyword} (F : FnG nr X.prog X.w X.K X.mg X.base CX k f fd fps sp) (hr : Room k X.A) (hgd : nr = false → X.A.guards = some []) (hv : PE X (.Name x p) (tVar i)) (hk : PySem.W.keepIn X.K (.ref f) = true) (hb : BindsK fd fps) (hx : ∀ σ, PassesAt CX X σ (E σ))
    (ha : PK X kws t) (hn : kws.map (·.arg) = fps.map some) :
    PE X (.Call (.Name x p) [] kws pos) (fun σ H Q => σ[i]? = some (some (.ref f)) ∧ tCallS sp E t σ H Q) :=
  ⟨fun pins s σ H Q I ⟨h0, h⟩ => by
    obtain ⟨n1, n2, n3⟩ := kw_named ((kw_fst (pos := pos) (env := X.env) kws).trans hn)
    exact wpAny_Call_Name_kw (thn (hv.run pins s σ H (fun v H1 => v = .ref f ∧ H1 = H) I ⟨.ref f, h0, rfl, rfl⟩) fun u s1 ⟨v, H1, I1, r1, ev, eH⟩ => by
      subst ev
      rw [eH] at I1
      cases r1
      exact PySem.W.callWith_KW0 (h₀ := X.base) I1.ok.mod.kin hk n1 (thn (ha.run pos pins s1 σ H _ I1 h) fun us s2 ⟨vs, H2, I2, r, q⟩ => ⟨I2.kIn, by rw [n3]; exact run_fnGk F hr hgd hb (hx σ) I2 r q⟩) (by rw [n2]; rfl))⟩
/-- from the evaluator's call to the promise -/
theorem r_call {c : CallT} (hxs : xs = false → G.W = none) (hc : ∀ as, c id as = run tab id as) (σ : L2.St) (H : Hp) (Q : VK) (ρ : Rho) (ps : List PArg) (vs : List V) (r : Rl G.K G.B0 ρ σ H) (pr : PRA G ρ σ H ps vs)
    (h : post G σ ρ H (fun r ρ' H' => ∀ v, Rp G.K H' (G.B ρ' σ) r.1 v → (r.2 = true → Fre G ρ H ρ' H' σ r.1 v) → Q v H') (callP c id ms ps ρ)) : spF xs G.K G.XO tab id vs H Q (EW G σ) := by
  unfold callP at h
  by_cases hd : dup (lent ms ps) = true
  case pos => rw [if_pos hd] at h; exact h.elim
  rw [if_neg hd] at h
  have hd : dup (lent ms ps) = false := by simpa using hd
  rcases lend_ok (ms := ms) r pr with ⟨as, ρ', e1, r', s, ar⟩ | e1
  case inr => rw [e1] at h; exact h.elim
  rw [e1] at h
  have h : post G σ ρ H (fun r ρ' H' => ∀ v, Rp G.K H' (G.B ρ' σ) r.1 v → (r.2 = true → Fre G ρ H ρ' H' σ r.1 v) → Q v H') (callEnd ρ' (lent ms ps) (c id as)) := h
  rw [hc as] at h
  refine ⟨_, as, ar.start r' hd, ?_⟩
  cases e2 : run tab id as with
  | stuck => rw [e2] at h; exact h
  | ok d fl outs =>
    rw [e2] at h
    intro v H' ρo ho rc fr rp fre
    have h : post G σ ρ H (fun (r : D × Bool) ρ' H' => ∀ v, Rp G.K H' (G.B ρ' σ) r.1 v → (r.2 = true → Fre G ρ H ρ' H' σ r.1 v) → Q v H') (match back ρ' (lent ms ps) outs with | some ρ' => .ok (d, fl) ρ' | none => .stuck) := h
    cases e3 : back ρ' (lent ms ps) outs with
    | none => rw [e3] at h; exact h.elim
    | some ρ3 =>
      rw [e3] at h
      obtain ⟨b1, b2, b3, b4⟩ := back_ok (E := fun _ => False) r' ar hd ho e3 fr (fun _ z => z.elim) (rc.amb_less fun a z => z.elim (fun z => z) fun z => z.elim)
      have rl3 : Rl G.K G.B0 ρ3 σ H' := b1.amb_less fun a z => .inl z
      have st : Stp ρ' H ρ3 H' σ := ⟨fun a o e n t => fr a o e (fun z => n (ar.own_len z).2) t, b2, b3⟩
      refine h H' rl3 (s.trans st) v ?_ fun hf => ?_
      · refine rp.less fun a z => ?_
        exact (b4 a (z.imp .inl fun z => z)).imp (fun z => z.elim (fun z => z) fun z => z.elim) fun z => z
      · obtain ⟨xs, a, us, ed, ev, hn, ha, hz, ra, rx⟩ := fre hf
        obtain ⟨c1, c2, c3, c4⟩ := back_ok (E := fun x => x = a) r' ar hd ho e3 fr (fun b z => by rw [z]; exact hn) ra
        exact ⟨xs, a, us, ed, ev, .inr hn, ha, hz, c1, rx.less c4⟩
  | exc x outs =>
    rw [e2] at h
    refine ⟨?_, fun cc dd H' ρo ho rc fr xo => ?_⟩
    · cases hx : xs with
      | true => rfl
      | false =>
        exfalso
        have hw := hxs hx
        have h : post G σ ρ H (fun (r : D × Bool) ρ' H' => ∀ v, Rp G.K H' (G.B ρ' σ) r.1 v → (r.2 = true → Fre G ρ H ρ' H' σ r.1 v) → Q v H') (match back ρ' (lent ms ps) outs with | some ρ' => .exc x ρ' | none => .stuck) := h
        split at h
        · have h : zX G σ ρ H x _ := h
          unfold zX at h
          rw [hw] at h
          exact h
        · exact h
    have h : post G σ ρ H (fun (r : D × Bool) ρ' H' => ∀ v, Rp G.K H' (G.B ρ' σ) r.1 v → (r.2 = true → Fre G ρ H ρ' H' σ r.1 v) → Q v H') (match back ρ' (lent ms ps) outs with | some ρ' => .exc x ρ' | none => .stuck) := h
    cases e3 : back ρ' (lent ms ps) outs with
    | none => rw [e3] at h; exact h.elim
    | some ρ3 =>
      rw [e3] at h
      obtain ⟨b1, b2, b3, b4⟩ := back_ok (E := fun _ => False) r' ar hd ho e3 fr (fun _ z => z.elim) (rc.amb_less fun a z => z.elim (fun z => z) fun z => z.elim)
      have rl3 : Rl G.K G.B0 ρ3 σ H' := b1.amb_less fun a z => .inl z
      have st : Stp ρ' H ρ3 H' σ := ⟨fun a o e n t => fr a o e (fun z => n (ar.own_len z).2) t, b2, b3⟩
      have h : zX G σ ρ H x ρ3 := h
      unfold zX at h
      unfold EW
      cases ew : G.W with
      | none => rw [ew] at h; exact h
      | some w => rw [ew] at h; exact h cc dd H' rl3 xo (s.trans st)
theorem f_call {c : CallT} {mq : Rho → Res (List PArg)} (hxs : xs = false → G.W = none) (eK : X.K = G.K) (hc : ∀ as, c id as = run tab id as) (F : FnG nr X.prog X.w X.K X.mg X.base (L2.CX X.prog X.w) k f fd fps (spF xs G.K G.XO tab id)) (hr : Room k X.A) (hgd : nr = false → X.A.guards = some []) (hg : Gl X x) (hm : X.mg x = some (.ref f)) (hk : PySem.W.keepIn X.K (.ref f) = true) (hb : Binds X.K fd fps []) (hx : ∀ σ, PassesAt (L2.CX X.prog X.w) X σ (EW G σ))
    (ha : PA X (e :: es) (tMqs G mq)) (hdb : (x == ("__debug__" : Str)) = false) (he : starEach (e :: es) X.env = (false, eval e X.env) :: starEach es X.env) (hpl : (backTo pos (starEach es X.env)).any (·.1) = false) :
    PE X (.Call (.Name x p) (e :: es) [] pos) (tF G fun ρ => (mq ρ).bind fun ps ρ1 => callP c id ms ps ρ1) :=
  wkE (pe_callG F hr hgd hg hm hk hb hx ha hdb he hpl) fun σ H Q ⟨ρ, r, q⟩ => ⟨ρ, r, q.bind.imp fun ps ρ1 H1 r1 s1 h1 vs pr => r_call hxs hc σ H1 Q ρ1 ps vs r1 pr (h1.imp fun rr ρ2 H2 r2 s2 hq v rp fre => hq v rp fun hf => by
    obtain ⟨xs, a, us, ed, ev, ho, rest⟩ := fre hf
    refine ⟨xs, a, us, ed, ev, ?_, rest⟩
    rcases ho with ho | ho
    · exact .inl (s1.ow a ho)
    · by_cases n : Own ρ σ a
      · exact .inl n
      · exact .inr (s1.fr.nw ho n))⟩
theorem f_callK {c : CallT} {mq : Rho → Res (List PArg)} {kws : List Keyword} (hxs : xs = false → G.W = none) (eK : X.K = G.K) (hc : ∀ as, c id as = run tab id as) (F : FnG nr X.prog X.w X.K X.mg X.base (L2.CX X.prog X.w) k f fd fps (spF xs G.K G.XO tab id)) (hr : Room k X.A) (hgd : nr = false → X.A.guards = some []) (hg : Gl X x) (hm : X.mg x = some (.ref f)) (hk : PySem.W.keepIn X.K (.ref f) = true) (hb : BindsK fd fps) (hx : ∀ σ, PassesAt (L2.CX X.prog X.w) X σ (EW G σ))
    (ha : PK X kws (tMqs G mq)) (hn : kws.map (·.arg) = fps.map some) (hdb : (x == ("__debug__" : Str)) = false) :
    PE X (.Call (.Name x p) [] kws pos) (tF G fun ρ => (mq ρ).bind fun ps ρ1 => callP c id ms ps ρ1) :=
  wkE (pe_callGK F hr hgd hg hm hk hb hx ha hn hdb) fun σ H Q ⟨ρ, r, q⟩ => ⟨ρ, r, q.bind.imp fun ps ρ1 H1 r1 s1 h1 vs pr => r_call hxs hc σ H1 Q ρ1 ps vs r1 pr (h1.imp fun rr ρ2 H2 r2 s2 hq v rp fre => hq v rp fun hf => by
    obtain ⟨xs, a, us, ed, ev, ho, rest⟩ := fre hf
    refine ⟨xs, a, us, ed, ev, ?_, rest⟩
    rcases ho with ho | ho
    · exact .inl (s1.ow a ho)
    · by_cases n : Own ρ σ a
      · exact .inl n
      · exact .inr (s1.fr.nw ho n))⟩
theorem f_call0 {c : CallT} (hxs : xs = false → G.W = none) (eK : X.K = G.K) (hc : ∀ as, c id as = run tab id as) (F : FnG nr X.prog X.w X.K X.mg X.base (L2.CX X.prog X.w) k f fd fps (spF xs G.K G.XO tab id)) (hr : Room k X.A) (hgd : nr = false → X.A.guards = some []) (hg : Gl X x) (hm : X.mg x = some (.ref f)) (hk : PySem.W.keepIn X.K (.ref f) = true) (hb : Binds X.K fd fps []) (hx : ∀ σ, PassesAt (L2.CX X.prog X.w) X σ (EW G σ))
    (hdb : (x == ("__debug__" : Str)) = false) :
    PE X (.Call (.Name x p) [] [] pos) (tF G fun ρ => (Res.ok ([] : List PArg) ρ).bind fun ps ρ1 => callP c id ms ps ρ1) :=
  wkE (pe_callG0 F hr hgd hg hm hk hb hx hdb) fun σ H Q ⟨ρ, r, q⟩ => r_call (ms := ms) (ps := []) hxs hc σ H Q ρ [] r .nil q
/-- f(g(..), k): a new list is lent -/
theorem m_callT {c : CallT} {m : Rho → Res (D × Bool)} {a0 : Expr} {kk : Int} {j : Nat} {kp : Pos} (hc : ∀ as, c id as = run tab id as) (F : FnG nr X.prog X.w X.K X.mg X.base (L2.CX X.prog X.w) k f fd fps (spF xs G.K G.XO tab id)) (hr : Room k X.A) (hgd : nr = false → X.A.guards = some []) (hg : Gl X x) (hm : X.mg x = some (.ref f)) (hk : PySem.W.keepIn X.K (.ref f) = true) (hb : Binds X.K fd fps [])
    (ha : PE X a0 (tF G m)) (hdb : (x == ("__debug__" : Str)) = false) (he : starEach [a0, .Constant (.int kk) j kp] X.env = (false, eval a0 X.env) :: starEach [.Constant (.int kk) j kp] X.env) :
    PE X (.Call (.Name x p) [a0, .Constant (.int kk) j kp] [] pos) (tM G fun ρ => (m ρ).bind fun r ρ2 => lendT (c id) kk r ρ2) := by
  refine wkE (pe_callG (E := fun _ _ _ _ => False) F hr hgd hg hm hk hb (fun σ pins H s e s' I h => by obtain ⟨_, _, _, _, _, _, _, _, _, _, _, _, h⟩ := h; exact h.elim) (pa_cons ha (pa_cons pe_int pa_nil rfl) he) hdb he rfl) fun σ H Q ⟨ρ, r, q⟩ => ?_
  refine ⟨ρ, r, ?_⟩
  dsimp only at q
  cases em : m ρ with
  | stuck => rw [em] at q; exact q
  | exc y ρ1 => rw [em] at q; exact q
  | ok r0 ρ1 =>
    rw [em] at q
    intro H1 r1 s1 v rp fre
    have q : post G σ ρ H (fun d ρ' H' => ∀ v, Rp G.K H' (G.B ρ' σ) d v → Q v H') (lendT (c id) kk r0 ρ1) := q
    unfold lendT at q
    split at q
    case h_2 => exact q.elim
    rename_i xs0 q0
    rw [hc] at q
    obtain ⟨xs1, a, us, ed, ev, ho, ha1, hz, ra, rx⟩ := fre rfl
    cases ed
    subst ev
    have na : ¬ G.B0 a := fun z => by
      rcases ho with ho | ho
      · obtain ⟨i, ys, mi, ei⟩ := ho
        obtain ⟨b, ws, e1, _, _, _, nb⟩ := r.mu i ys mi
        rw [ei] at e1
        cases e1
        exact nb z
      · obtain ⟨ws, e⟩ := r.amb a z
        exact ho.no e rfl
    have no : ¬ Own ρ1 σ a := fun ⟨i, ys, mi, ei⟩ => by
      obtain ⟨b, ws, e1, _, _, _, nb⟩ := ra.mu i ys mi
      rw [ei] at e1
      cases e1
      exact nb (.inr rfl)
    have own2 : ∀ b, Own [some (Ent.par xs0), some (.dat (.int kk))] [some (V.ref a), some (.int kk)] b → b = a := fun b ⟨i, ys, mi, ei⟩ => by
      match i, mi, ei with
      | 0, _, ei => simp at ei; exact ei.symm
      | 1, mi, _ => rcases mi with mi | mi <;> simp at mi
      | i + 2, mi, _ => rcases mi with mi | mi <;> simp at mi
    have bs2 : ∀ b, Bs (Bs G.B0 ρ1 σ) [some (Ent.par xs0), some (.dat (.int kk))] [some (V.ref a), some (.int kk)] b → Bs (fun x => G.B0 x ∨ x = a) ρ1 σ b := fun b z => by
      rcases z with (z | z) | z
      · exact .inl (.inl z)
      · exact .inr z
      · exact .inl (.inr (own2 b z))
    refine ⟨Bs G.B0 ρ1 σ, [.mut xs0, .val (.int kk)], ?_, ?_⟩
    · refine ⟨rfl, fun i d e => ?_, fun i ys mi => ?_, fun i j ys zs b mi mj _ _ => ?_, fun b z => r1.bs_lst b z, r1.tab⟩
      · match i, e with
        | 0, e => simp [Arg.ent] at e
        | 1, e =>
          simp [Arg.ent] at e
          subst e
          exact ⟨.int kk, rfl, .int kk⟩
        | i + 2, e => simp at e
      · match i, mi with
        | 0, mi =>
          have e : ys = xs0 := by rcases mi with mi | mi <;> simp [Arg.ent] at mi; exact mi.symm
          subst e
          exact ⟨a, us, rfl, ha1, hz, rx.less bs2, fun z => z.elim na no⟩
        | 1, mi => rcases mi with mi | mi <;> simp [Arg.ent] at mi
        | i + 2, mi => rcases mi with mi | mi <;> simp at mi
      · have zero : ∀ (i : Nat) (ys : List D), mutAt [some (Ent.par xs0), some (.dat (.int kk))] i ys → i = 0 := fun i ys mi => by
          match i, mi with
          | 0, _ => rfl
          | 1, mi => rcases mi with mi | mi <;> simp at mi
          | i + 2, mi => rcases mi with mi | mi <;> simp at mi
        rw [zero i ys mi, zero j zs mj]
    · cases e2 : run tab id [.mut xs0, .val (.int kk)] with
      | stuck => rw [e2] at q; exact q.elim
      | exc y outs => rw [e2] at q; exact q.elim
      | ok d fl outs =>
        rw [e2] at q
        intro v H' ρo hou rc fr rpv _
        have fra : ∀ b o, H1 b = some o → b ≠ a → isTbl o = false → H' b = some o := fun b o e n t => fr b o e (fun z => n (own2 b z)) t
        have lst : Lsts (fun b => b = a) H1 := fun b e => by rw [e]; exact ⟨us, ha1⟩
        have fr1 : Fr (fun b => b = a) H1 H' := fra
        have hbm : ∀ b, Bs G.B0 ρ1 σ b → Bs (fun x => G.B0 x ∨ x = a) ρ1 σ b ∨ Nw H1 b := fun b z => .inl (z.imp .inl fun y => y)
        have rl : Rl G.K G.B0 ρ1 σ H' := by
          refine ⟨ra.len, fun i d e => ?_, fun i ys mi => ?_, ra.inj, fun b z => ?_, rc.tab⟩
          · obtain ⟨w, e1, h⟩ := ra.dat i d e
            exact ⟨w, e1, h.mono fr1 (fun b e => .inl (.inr e)) lst hbm⟩
          · obtain ⟨b, ws, e1, e2, z, h, nb⟩ := ra.mu i ys mi
            exact ⟨b, ws, e1, fra b _ e2 (fun e => nb (.inr e)) rfl, z, h.mono fr1 (fun b e => .inl (.inr e)) lst hbm, fun z => nb (.inl z)⟩
          · obtain ⟨ws, e⟩ := r1.amb b z
            exact ⟨ws, fra b _ e (fun e => na (e ▸ z)) rfl⟩
        refine q H' rl ⟨fun b o e n t => ?_, s1.ow, s1.pa⟩ v ?_
        · refine fra b o (s1.fr b o e n t) (fun eb => ?_) t
          subst eb
          rcases ho with ho | ho
          · exact n ho
          · exact ho.no e t
        · exact rpv.less fun b z => .inl z
end
end Tw

set_option Elab.async false
set_option linter.all false
set_option maxRecDepth 100000
set_option maxHeartbeats 1000000
namespace Tw
open PySem PySem.Spec PyProof.Rows L2

/-- a step that may change the slots -/
structure SStp (ρ : Rho) (σ : L2.St) (H : Hp) (ρ' : Rho) (σ' : L2.St) (H' : Hp) : Prop where
  fr : Fr (Own ρ σ) H H'
  ow : ∀ a, Own ρ' σ' a → Own ρ σ a ∨ Nw H a
  pa : ∀ j : Nat, isPar ρ'[j]? = isPar ρ[j]?
  ps : ∀ j : Nat, isPar ρ[j]? = true → σ'[j]? = σ[j]?
def FreS (G : Gv) (ρ : Rho) (σ : L2.St) (H : Hp) (ρ' : Rho) (σ' : L2.St) (H' : Hp) (d : D) (v : V) : Prop :=
  ∃ xs a us, d = .list xs ∧ v = .ref a ∧ (Own ρ σ a ∨ Nw H a) ∧ H' a = some (.lst us) ∧ us.length ≤ sizeLine ∧ Rl G.K (fun x => G.B0 x ∨ x = a) ρ' σ' H' ∧ RpA G.K H' (Bs (fun x => G.B0 x ∨ x = a) ρ' σ') xs us
def zXS (G : Gv) (ρ : Rho) (σ : L2.St) (H : Hp) (x : Exc) (ρ' : Rho) : Prop :=
  match G.W with
  | none => False
  | some w => ∀ c dd σ' H', Rl G.K G.B0 ρ' σ' H' → G.XO x c dd H' → SStp ρ σ H ρ' σ' H' → w c dd σ' H'
def postS (G : Gv) (E : Ends) (ρ : Rho) (σ : L2.St) (H : Hp) : SRes → Prop
  | .next ρ' => ∀ σ' H', Rl G.K G.B0 ρ' σ' H' → SStp ρ σ H ρ' σ' H' → E.nx σ' H'
  | .brk ρ' => ∀ σ' H', Rl G.K G.B0 ρ' σ' H' → SStp ρ σ H ρ' σ' H' → E.bk σ' H'
  | .ret d fr ρ' => ∀ v σ' H', Rl G.K G.B0 ρ' σ' H' → SStp ρ σ H ρ' σ' H' → Rp G.K H' (Bs G.B0 ρ' σ') d v → (fr = true → FreS G ρ σ H ρ' σ' H' d v) → E.rt v H'
  | .exc x ρ' => zXS G ρ σ H x ρ'
  | .stuck => False
def tS (G : Gv) (m : Rho → SRes) : TS := fun E σ H => ∃ ρ, Rl G.K G.B0 ρ σ H ∧ postS G E ρ σ H (m ρ)
section
variable {G : Gv} {E : Ends} {ρ ρ' ρ1 ρ2 : Rho} {σ σ' σ1 σ2 : L2.St} {H H' H1 H2 : Hp} {α : Type}
theorem SStp.refl : SStp ρ σ H ρ σ H := ⟨Fr.refl, fun _ h => .inl h, fun _ => rfl, fun _ _ => rfl⟩
theorem SStp.old {a : Addr} (s : SStp ρ σ H ρ1 σ1 H1) (h : Nw H1 a) : Own ρ σ a ∨ Nw H a := by
  by_cases n : Own ρ σ a
  · exact .inl n
  · exact .inr (s.fr.nw h n)
theorem SStp.old2 {a : Addr} (s : SStp ρ σ H ρ1 σ1 H1) (h : Own ρ1 σ1 a ∨ Nw H1 a) : Own ρ σ a ∨ Nw H a := h.elim (s.ow a) s.old
theorem SStp.trans (a : SStp ρ σ H ρ1 σ1 H1) (b : SStp ρ1 σ1 H1 ρ2 σ2 H2) : SStp ρ σ H ρ2 σ2 H2 where
  fr := a.fr.trans b.fr fun c o e n t z => (a.ow c z).elim n fun z => z.no e t
  ow := fun c z => a.old2 (b.ow c z)
  pa := fun j => (b.pa j).trans (a.pa j)
  ps := fun j hj => (b.ps j (by rw [a.pa]; exact hj)).trans (a.ps j hj)
theorem Stp.s (a : Stp ρ H ρ' H' σ) : SStp ρ σ H ρ' σ H' := ⟨a.fr, fun c z => .inl (a.ow c z), a.pa, fun _ _ => rfl⟩
theorem Sto.s {K : PySem.W.Frag} {B0 : Addr → Prop} {is : List Nat} (a : Sto K B0 ρ ρ' σ σ' H is) : SStp ρ σ H ρ' σ' H := ⟨Fr.refl, fun c z => .inl (a.ow c z), a.pa, a.ps⟩
theorem Rl.keepS {K : PySem.W.Frag} {B0 : Addr → Prop} (r : Rl K B0 ρ σ H) (s : SStp ρ σ H ρ' σ' H') {d : List D} {v : List V} (h : RpA K H (Bs B0 ρ σ) d v) : RpA K H' (Bs B0 ρ' σ') d v :=
  h.mono s.fr (fun _ z => .inr z) r.own_lst fun a b => b.elim (fun b => .inl (.inl b)) fun b => (s.ow a b).imp .inr id
theorem postS.step {r : SRes} (h : postS G E ρ σ H r) (s : SStp ρ σ H ρ1 σ1 H1) : postS G E ρ1 σ1 H1 r := by
  cases r with
  | next ρ' => exact fun σ' H' rl s' => h σ' H' rl (s.trans s')
  | brk ρ' => exact fun σ' H' rl s' => h σ' H' rl (s.trans s')
  | ret d fr ρ' =>
    intro v σ' H' rl s' rp hf
    refine h v σ' H' rl (s.trans s') rp fun q => ?_
    obtain ⟨xs, a, us, h1, h2, h3, h4⟩ := hf q
    exact ⟨xs, a, us, h1, h2, s.old2 h3, h4⟩
  | exc x ρ' =>
    have h : zXS G ρ σ H x ρ' := h
    show zXS G ρ1 σ1 H1 x ρ'
    unfold zXS at h ⊢
    cases e : G.W with
    | none => rw [e] at h; exact h
    | some w => rw [e] at h; exact fun c dd σ' H' rl o s' => h c dd σ' H' rl o (s.trans s')
  | stuck => exact h
theorem postS.thn {r : Res α} {f : α → Rho → SRes} (h : postS G E ρ σ H (r.thn f)) : post G σ ρ H (fun a ρ1 H1 => postS G E ρ1 σ H1 (f a ρ1)) r := by
  cases r with
  | ok a ρ1 => exact fun H1 _ s => postS.step (show postS G E ρ σ H (f a ρ1) from h) s.s
  | exc x ρ' =>
    have h : zXS G ρ σ H x ρ' := h
    show zX G σ ρ H x ρ'
    unfold zXS at h
    unfold zX
    cases e : G.W with
    | none => rw [e] at h; exact h
    | some w => rw [e] at h; exact fun c dd H' rl o s => h c dd σ H' rl o s.s
  | stuck => exact h
theorem postS.thn0 {r : Res α} {f : α → Rho → SRes} (h : postS G E ρ σ H (r.thn f)) : post G σ ρ H (fun a ρ1 H1 => postS G E ρ σ H (f a ρ1)) r := by
  cases r with
  | ok a ρ1 => exact fun H1 _ s => h
  | exc x ρ' => exact h.thn
  | stuck => exact h
end
section
variable {X : Cx} {G : Gv} {st : Stmt} {rest : List Stmt} {ex : Expr} {pos : Pos}
theorem wkS {t t' : TS} (h : PS X st t) (f : ∀ E σ H, t' E σ H → t E σ H) : PS X st t' := ⟨fun pins s σ H E I q => h.run pins s σ H E I (f E σ H q)⟩
theorem wkSs {t t' : TS} (h : PSs X rest t) (f : ∀ E σ H, t' E σ H → t E σ H) : PSs X rest t' := ⟨fun pins s σ H E I q => h.run pins s σ H E I (f E σ H q)⟩
theorem s_nil : PSs X [] (tS G fun ρ => .next ρ) := wkSs pss_nil fun E σ H ⟨ρ, r, q⟩ => q σ H r SStp.refl
theorem s_cons {m n : Rho → SRes} (h1 : PS X st (tS G m)) (h2 : PSs X rest (tS G n)) : PSs X (st :: rest) (tS G fun ρ => (m ρ).seq n) := by
  refine wkSs (pss_cons h1 h2) fun E σ H ⟨ρ, r, q⟩ => ⟨ρ, r, ?_⟩
  have q : postS G E ρ σ H ((m ρ).seq n) := q
  cases e : m ρ with
  | next ρ1 =>
    rw [e] at q
    exact fun σ' H' rl s => ⟨ρ1, rl, postS.step (show postS G E ρ σ H (n ρ1) from q) s⟩
  | brk ρ1 => rw [e] at q; exact q
  | ret d fr ρ1 => rw [e] at q; exact q
  | exc x ρ1 => rw [e] at q; exact q
  | stuck => rw [e] at q; exact q
theorem s_pass : PS X (.Pass pos) (tS G fun ρ => .next ρ) := wkS ps_pass fun E σ H ⟨ρ, r, q⟩ => q σ H r SStp.refl
theorem s_doc {x : Str} {j : Nat} {p : Pos} : PS X (.Expr (.Constant (.str x) j p) pos) (tS G fun ρ => .next ρ) := wkS ps_doc fun E σ H ⟨ρ, r, q⟩ => q σ H r SStp.refl
theorem s_brk : PS X (.Break pos) (tS G fun ρ => .brk ρ) := wkS ps_break fun E σ H ⟨ρ, r, q⟩ => q σ H r SStp.refl
theorem s_drop {m : Rho → Res D} (h : PS X st (tDrop (tM G m))) : PS X st (tS G fun ρ => (m ρ).thn fun _ ρ1 => .next ρ1) :=
  wkS h fun E σ H ⟨ρ, r, q⟩ => ⟨ρ, r, q.thn.imp fun d ρ1 H1 r1 s1 h1 v rp => h1 σ H1 r1 SStp.refl⟩
theorem s_asg {m : Rho → Res D} {tg : Tg} (h : PS X st (tAsg (tM G m) (gTg G.K tg))) : PS X st (tS G fun ρ => (m ρ).thn fun d ρ1 => nextO (setTg ρ1 tg d)) :=
  wkS h fun E σ H ⟨ρ, r, q⟩ => ⟨ρ, r, q.thn.imp fun d ρ1 H1 r1 s1 h1 v rp => by
    cases e : setTg ρ1 tg d with
    | none => rw [e] at h1; exact h1.elim
    | some ρ2 =>
      rw [e] at h1
      obtain ⟨σ', hgo, sto⟩ := setTg_ok r1 e rp
      exact hgo _ (h1 σ' H1 sto.rl sto.s)⟩
/-- a, b = x, y (a, b, c = x, y, z) -/
theorem s_par {ms : Rho → Res (List D)} {i j : Nat} (h : PS X st (tPar i j (tMs G ms))) (hz : ∀ ρ xs ρ', ms ρ = .ok xs ρ' → xs.length = 2) :
    PS X st (tS G fun ρ => ((ms ρ).bind fun xs ρ1 => .ok (.tuple xs) ρ1).thn fun d ρ1 => nextO (setTg ρ1 (.tup [i, j]) d)) :=
  wkS h fun E σ H ⟨ρ, r, q⟩ => ⟨ρ, r, by
    have q2 := q.thn.bind
    refine q2.impE fun xs ρ1 H1 em r1 s1 h1 vs rps => ?_
    have h1 : postS G E ρ1 σ H1 (nextO (setTg ρ1 (.tup [i, j]) (.tuple xs))) := (post.ok h1 r1).1
    have l1 := hz _ _ _ em
    cases e : puts ρ1 [i, j] xs with
    | none => rw [show setTg ρ1 (.tup [i, j]) (.tuple xs) = none from e] at h1; exact h1.elim
    | some ρ2 =>
      rw [show setTg ρ1 (.tup [i, j]) (.tuple xs) = some ρ2 from e] at h1
      obtain ⟨σ', hgo, sto⟩ := puts_ok r1 e rps
      obtain ⟨v, r2, rfl, w, r3, rfl, rfl, q⟩ := hgo _ (h1 σ' H1 sto.rl sto.s)
      exact ⟨v, w, rfl, q⟩⟩
theorem s_par3 {ms : Rho → Res (List D)} {i j k : Nat} (h : PS X st (tPar3 i j k (tMs G ms))) :
    PS X st (tS G fun ρ => ((ms ρ).bind fun xs ρ1 => .ok (.tuple xs) ρ1).thn fun d ρ1 => nextO (setTg ρ1 (.tup [i, j, k]) d)) :=
  wkS h fun E σ H ⟨ρ, r, q⟩ => ⟨ρ, r, by
    have q2 := q.thn.bind
    refine q2.impE fun xs ρ1 H1 em r1 s1 h1 vs rps => ?_
    have h1 : postS G E ρ1 σ H1 (nextO (setTg ρ1 (.tup [i, j, k]) (.tuple xs))) := (post.ok h1 r1).1
    cases e : puts ρ1 [i, j, k] xs with
    | none => rw [show setTg ρ1 (.tup [i, j, k]) (.tuple xs) = none from e] at h1; exact h1.elim
    | some ρ2 =>
      rw [show setTg ρ1 (.tup [i, j, k]) (.tuple xs) = some ρ2 from e] at h1
      obtain ⟨σ', hgo, sto⟩ := puts_ok r1 e rps
      obtain ⟨v, r2, rfl, w, r3, rfl, u, r4, rfl, rfl, q⟩ := hgo _ (h1 σ' H1 sto.rl sto.s)
      exact ⟨v, w, u, rfl, q⟩⟩
/-- a name bound to a list of its own -/
theorem box_ok {K : PySem.W.Frag} {B0 : Addr → Prop} {ρ : Rho} {σ : L2.St} {H : Hp} {i : Nat} {xs : List D} {a : Addr} {us : List V} (ra : Rl K (fun x => B0 x ∨ x = a) ρ σ H) (hi : i < ρ.length) (hp : isPar ρ[i]? = false) (nb : ¬ B0 a) (ha : H a = some (.lst us)) (hz : us.length ≤ sizeLine)
    (rx : RpA K H (Bs (fun x => B0 x ∨ x = a) ρ σ) xs us) : Rl K B0 (ρ.set i (some (.own xs))) (σ.set i (some (.ref a))) H ∧ (∀ b, Own (ρ.set i (some (.own xs))) (σ.set i (some (.ref a))) b → Own ρ σ b ∨ b = a) ∧ (∀ j : Nat, isPar (ρ.set i (some (.own xs)))[j]? = isPar ρ[j]?) ∧ (∀ j : Nat, isPar ρ[j]? = true → (σ.set i (some (.ref a)))[j]? = σ[j]?) := by
  have he : (ρ.set i (some (Ent.own xs)))[i]? = some (some (.own xs)) := List.getElem?_set_self hi
  have hs : (σ.set i (some (V.ref a)))[i]? = some (some (.ref a)) := List.getElem?_set_self (by rw [← ra.len]; exact hi)
  have hm : ∀ j ys, mutAt (ρ.set i (some (Ent.own xs))) j ys → (j = i ∧ ys = xs) ∨ (i ≠ j ∧ mutAt ρ j ys) := fun j ys m => by
    by_cases e : i = j
    · subst e
      rcases m with m | m
      · rw [he] at m; cases m; exact .inl ⟨rfl, rfl⟩
      · rw [he] at m; cases m
    · unfold mutAt at m
      rw [List.getElem?_set_ne e] at m
      exact .inr ⟨e, m⟩
  have ow : ∀ b, Own (ρ.set i (some (.own xs))) (σ.set i (some (.ref a))) b → Own ρ σ b ∨ b = a := fun b ⟨j, ys, m, e⟩ => by
    rcases hm j ys m with ⟨rfl, rfl⟩ | ⟨ne, m⟩
    · rw [hs] at e; cases e; exact .inr rfl
    · rw [List.getElem?_set_ne ne] at e
      exact .inl ⟨j, ys, m, e⟩
  have bs : ∀ b, Bs B0 (ρ.set i (some (.own xs))) (σ.set i (some (.ref a))) b → Bs (fun x => B0 x ∨ x = a) ρ σ b := fun b z => by
    rcases z with z | z
    · exact .inl (.inl z)
    · rcases ow b z with z | z
      · exact .inr z
      · exact .inl (.inr z)
  have own_ne : ∀ j ys, mutAt ρ j ys → σ[j]? ≠ some (some (.ref a)) := fun j ys m e => by
    obtain ⟨b, ws, e1, _, _, _, n⟩ := ra.mu j ys m
    rw [e] at e1; cases e1
    exact n (.inr rfl)
  refine ⟨⟨by rw [List.length_set, List.length_set]; exact ra.len, fun j d e => ?_, fun j ys m => ?_, fun j k ys zs b m1 m2 e1 e2 => ?_, fun b z => ra.amb b (.inl z), ra.tab⟩, ow, fun j => ?_, fun j hj => ?_⟩
  · by_cases q : i = j
    · subst q; rw [he] at e; cases e
    · rw [List.getElem?_set_ne q] at e ⊢
      obtain ⟨v, e1, h⟩ := ra.dat j d e
      exact ⟨v, e1, h.less bs⟩
  · rcases hm j ys m with ⟨rfl, rfl⟩ | ⟨ne, m⟩
    · exact ⟨a, us, hs, ha, hz, rx.less bs, nb⟩
    · obtain ⟨b, ws, e1, e2, z, h, n⟩ := ra.mu j ys m
      exact ⟨b, ws, by rw [List.getElem?_set_ne ne]; exact e1, e2, z, h.less bs, fun q => n (.inl q)⟩
  · rcases hm j ys m1 with ⟨rfl, rfl⟩ | ⟨n1, m1⟩ <;> rcases hm k zs m2 with ⟨rfl, rfl⟩ | ⟨n2, m2⟩
    · rfl
    · rw [hs] at e1; cases e1
      rw [List.getElem?_set_ne n2] at e2
      exact absurd e2 (own_ne k zs m2)
    · rw [hs] at e2; cases e2
      rw [List.getElem?_set_ne n1] at e1
      exact absurd e1 (own_ne j ys (by assumption))
    · rw [List.getElem?_set_ne n1] at e1
      rw [List.getElem?_set_ne n2] at e2
      exact ra.inj j k ys zs b m1 m2 e1 e2
  · by_cases q : i = j
    · subst q; rw [he, hp]; rfl
    · rw [List.getElem?_set_ne q]
  · by_cases q : i = j
    · subst q; rw [hp] at hj; cases hj
    · rw [List.getElem?_set_ne q]
theorem s_box {m : Rho → Res (D × Bool)} {i : Nat} (h : PS X st (tAsg (tF G m) (gName i))) : PS X st (tS G fun ρ => (m ρ).thn fun r ρ1 => match r with
    | (.list xs, true) => if i < ρ1.length ∧ isPar ρ1[i]? = false then .next (ρ1.set i (some (.own xs))) else .stuck
    | _ => .stuck) :=
  wkS h fun E σ H ⟨ρ, r, q⟩ => ⟨ρ, r, q.thn0.imp fun rr ρ1 H1 r1 s1 h1 v rp fre => by
    obtain ⟨d, fr⟩ := rr
    cases fr with
    | false => cases d <;> exact h1.elim
    | true =>
      cases d with
      | list xs =>
        have h1 : postS G E ρ σ H (if i < ρ1.length ∧ isPar ρ1[i]? = false then .next (ρ1.set i (some (.own xs))) else .stuck) := h1
        split at h1
        · rename_i hc
          obtain ⟨xs', a, us, e1, e2, e3, e4, e5, e6, e7⟩ := fre rfl
          cases e1
          subst e2
          have nb : ¬ G.B0 a := by
            cases rp with
            | lst _ n _ _ => exact fun b => n (.inl b)
          obtain ⟨b1, b2, b3, b4⟩ := box_ok e6 hc.1 hc.2 nb e4 e5 e7
          refine h1 (σ.set i (some (.ref a))) H1 b1 ⟨s1.fr, fun b z => ?_, fun j => (b3 j).trans (s1.pa j), fun j hj => b4 j (by rw [s1.pa]; exact hj)⟩
          rcases b2 b z with z | z
          · exact .inl (s1.ow b z)
          · rw [z]; exact e3
        · exact h1.elim
      | _ => exact h1.elim⟩
/-- a name bound to a new empty list -/
theorem box1 {K : PySem.W.Frag} {B0 : Addr → Prop} {ρ : Rho} {σ : L2.St} {H : Hp} {i : Nat} {p : Addr} (r : Rl K B0 ρ σ H) (hp : H p = none) (hi : i < ρ.length) (hq : isPar ρ[i]? = false) : Rl K B0 (ρ.set i (some (.own []))) (σ.set i (some (.ref p))) (upd H p (.lst [])) ∧ SStp ρ σ H (ρ.set i (some (.own []))) (σ.set i (some (.ref p))) (upd H p (.lst [])) := by
  have nb : ¬ B0 p := fun b => by
    obtain ⟨vs, e⟩ := r.amb p b
    rw [hp] at e; cases e
  obtain ⟨b1, b2, b3, b4⟩ := box_ok (xs := []) (r.more hp (vs := [])) hi hq nb (us := []) upd_same (Nat.zero_le _) .nil
  refine ⟨b1, (Grw.new hp).fr, fun b z => ?_, b3, b4⟩
  rcases b2 b z with z | z
  · exact .inl z
  · rw [z]; exact .inr (Nw.of hp)
theorem thaw_ok {K : PySem.W.Frag} {B0 : Addr → Prop} {σ : L2.St} {H : Hp} : ∀ {js : List Nat} {ρ ρ' : Rho}, Rl K B0 ρ σ H → thaw ρ js = some ρ' → Rl K B0 ρ' σ H ∧ Stp ρ H ρ' H σ
  | [], ρ, ρ', r, e => by cases e; exact ⟨r, Stp.refl⟩
  | j :: js, ρ, ρ', r, e => by
    have e : (match rd ρ j with | .ok _ ρ' => thaw ρ' js | _ => none) = some ρ' := e
    cases e1 : rd ρ j with
    | ok d ρ1 =>
      rw [e1] at e
      obtain ⟨r1, s1, _⟩ := rd_ok r e1
      obtain ⟨r2, s2⟩ := thaw_ok r1 e
      exact ⟨r2, s1.trans s2⟩
    | exc x ρ1 => rw [e1] at e; cases e
    | stuck => rw [e1] at e; cases e
theorem s_box2 {i j : Nat} {js : List Nat} (h : PS X st (tPar i j (tCons (tLst tNil) (tCons (tLst tNil) tNil)))) : PS X st (tS G fun ρ => nextO ((boxs ρ [i, j]).bind fun ρ1 => thaw ρ1 js)) :=
  wkS h fun E σ H ⟨ρ, r, q⟩ => by
    dsimp only [boxs] at q
    by_cases c1 : i < ρ.length ∧ isPar ρ[i]? = false
    · rw [if_pos c1] at q
      by_cases c2 : j < (ρ.set i (some (Ent.own []))).length ∧ isPar (ρ.set i (some (Ent.own [])))[j]? = false
      · rw [if_pos c2] at q
        refine ⟨Nat.zero_le _, fun p hp => ⟨Nat.zero_le _, fun p2 hp2 => ⟨_, _, rfl, ?_⟩⟩⟩
        obtain ⟨r1, s1⟩ := box1 r hp c1.1 c1.2
        obtain ⟨r2, s2⟩ := box1 r1 hp2 c2.1 c2.2
        cases et : thaw ((ρ.set i (some (Ent.own []))).set j (some (Ent.own []))) js with
        | none => rw [Option.bind_some, et] at q; exact q.elim
        | some ρ4 =>
          rw [Option.bind_some, et] at q
          obtain ⟨r4, s4⟩ := thaw_ok r2 et
          exact q _ _ r4 ((s1.trans s2).trans s4.s)
      · rw [if_neg c2] at q; exact q.elim
    · rw [if_neg c1] at q; exact q.elim
theorem s_box3 {i j k : Nat} {js : List Nat} (h : PS X st (tPar3 i j k (tCons (tLst tNil) (tCons (tLst tNil) (tCons (tLst tNil) tNil))))) : PS X st (tS G fun ρ => nextO ((boxs ρ [i, j, k]).bind fun ρ1 => thaw ρ1 js)) :=
  wkS h fun E σ H ⟨ρ, r, q⟩ => by
    dsimp only [boxs] at q
    by_cases c1 : i < ρ.length ∧ isPar ρ[i]? = false
    · rw [if_pos c1] at q
      by_cases c2 : j < (ρ.set i (some (Ent.own []))).length ∧ isPar (ρ.set i (some (Ent.own [])))[j]? = false
      · rw [if_pos c2] at q
        by_cases c3 : k < ((ρ.set i (some (Ent.own []))).set j (some (Ent.own []))).length ∧ isPar ((ρ.set i (some (Ent.own []))).set j (some (Ent.own [])))[k]? = false
        · rw [if_pos c3] at q
          refine ⟨Nat.zero_le _, fun p hp => ⟨Nat.zero_le _, fun p2 hp2 => ⟨Nat.zero_le _, fun p3 hp3 => ⟨_, _, _, rfl, ?_⟩⟩⟩⟩
          obtain ⟨r1, s1⟩ := box1 r hp c1.1 c1.2
          obtain ⟨r2, s2⟩ := box1 r1 hp2 c2.1 c2.2
          obtain ⟨r3, s3⟩ := box1 r2 hp3 c3.1 c3.2
          cases et : thaw (((ρ.set i (some (Ent.own []))).set j (some (Ent.own []))).set k (some (Ent.own []))) js with
          | none => rw [Option.bind_some, et] at q; exact q.elim
          | some ρ4 =>
            rw [Option.bind_some, et] at q
            obtain ⟨r4, s4⟩ := thaw_ok r3 et
            exact q _ _ r4 (((s1.trans s2).trans s3).trans s4.s)
        · rw [if_neg c3] at q; exact q.elim
      · rw [if_neg c2] at q; exact q.elim
    · rw [if_neg c1] at q; exact q.elim
theorem s_ret {m : Rho → Res (D × Bool)} (h : PE X ex (tF G m)) : PS X (.Return (some ex) pos) (tS G fun ρ => (m ρ).thn fun r ρ1 => .ret r.1 r.2 ρ1) :=
  wkS (ps_ret h) fun E σ H ⟨ρ, r, q⟩ => ⟨ρ, r, q.thn0.imp fun rr ρ1 H1 r1 s1 h1 v rp fre => h1 v σ H1 r1 s1.s rp fre⟩
theorem s_if {c : Expr} {a b : List Stmt} {mt : Rho → Res Bool} {ma mb : Rho → SRes} (hc : PT X c (tMb G mt)) (ha : PSs X a (tS G ma)) (hb : PSs X b (tS G mb)) :
    PS X (.If c a b pos) (tS G fun ρ => (mt ρ).thn fun k ρ1 => if k = true then ma ρ1 else mb ρ1) :=
  wkS (ps_if hc ha hb) fun E σ H ⟨ρ, r, q⟩ => ⟨ρ, r, q.thn.imp fun k ρ1 H1 r1 s1 h1 => by
    cases k with
    | true => rw [if_pos rfl] at h1 ⊢; exact ⟨ρ1, r1, h1⟩
    | false => rw [if_neg Bool.false_ne_true] at h1 ⊢; exact ⟨ρ1, r1, h1⟩⟩

theorem s_for {iter tgx : Expr} {body : List Stmt} {mi : Rho → Res (List D)} {tg : Tg} {mb : Rho → SRes} (eK : X.K = G.K) (hp : PassesOwn (model X.prog X.w) X.A X.env X.xe) (hc : X.calm = true) (hi : PI X tgx iter (tMi G mi)) (hg : PG X tgx (gTg X.K tg)) (hb : PSs X body (tS G mb))
    (hs : ∀ x, foldedSetIterable iter X.env x = pure x) : PS X (.For tgx iter body [] pos) (tS G fun ρ => (mi ρ).thn fun ds ρ1 => forLoop tg mb ds ρ1) := by
  refine wkS (ps_for hp hc hi hg hb hs) fun E σ H ⟨ρ, r, q⟩ => ⟨ρ, r, q.thn.imp fun ds ρ1 H1 r1 s1 h1 J srcs jvs gd rs hz => ?_⟩
  rw [eK]
  refine ⟨fun i m σ' H' => m = ds.length - i ∧ i ≤ ds.length ∧ ∃ ρi, Rl G.K G.B0 ρi σ' H' ∧ RpA G.K H' (Bs G.B0 ρi σ') srcs jvs ∧ postS G E ρi σ' H' (forLoop tg mb (ds.drop i) ρi), ⟨ds.length, rfl, Nat.zero_le _, ρ1, r1, rs, h1⟩, ?_⟩
  rintro i m σi Hi ⟨rfl, hi2, ρi, ri, rsi, hpo⟩
  by_cases hlt : i < ds.length
  · refine .inr ⟨gd.go Hi _ i rsi hlt, fun σ' H' => ds.length - (i + 1) = ds.length - (i + 1) ∧ i + 1 ≤ ds.length ∧ ∃ ρi, Rl G.K G.B0 ρi σ' H' ∧ RpA G.K H' (Bs G.B0 ρi σ') srcs jvs ∧ postS G E ρi σ' H' (forLoop tg mb (ds.drop (i + 1)) ρi), fun σ' H' w => ⟨ds.length - (i + 1), by omega, w⟩, fun x H3 y => ?_⟩
    obtain ⟨rp, g3⟩ := gd.yld Hi _ i x H3 rsi y _ (List.getElem?_eq_getElem hlt)
    rw [List.drop_eq_getElem_cons hlt] at hpo
    unfold forLoop at hpo
    cases eT : setTg ρi tg ds[i] with
    | none => rw [eT] at hpo; exact hpo.elim
    | some ρt =>
      rw [eT] at hpo
      obtain ⟨σ2, hgo, st⟩ := setTg_ok (ri.grw g3) eT rp
      refine hgo _ ⟨ρt, st.rl, ?_⟩
      have s3 : SStp ρi σi Hi ρt σ2 H3 := (Stp.grw g3).s.trans st.s
      have hpo := hpo.step s3
      have rs3 := ri.keepS s3 rsi
      have hpo : postS G E ρt σ2 H3 (match mb ρt with | .next ρ2 => forLoop tg mb (ds.drop (i + 1)) ρ2 | .brk ρ2 => .next ρ2 | r => r) := hpo
      cases eb : mb ρt with
      | next ρ2 =>
        rw [eb] at hpo
        exact fun σ' H' rl s => ⟨rfl, hlt, ρ2, rl, st.rl.keepS s rs3, postS.step (show postS G E ρt σ2 H3 (forLoop tg mb (ds.drop (i + 1)) ρ2) from hpo) s⟩
      | brk ρ2 => rw [eb] at hpo; exact hpo
      | ret d fr ρ2 => rw [eb] at hpo; exact hpo
      | exc x ρ2 => rw [eb] at hpo; exact hpo
      | stuck => rw [eb] at hpo; exact hpo
  · have ei : i = ds.length := by omega
    subst ei
    rw [List.drop_length] at hpo
    exact .inl ⟨gd.stop Hi _ _ rsi (Nat.le_refl _), hpo σi Hi ri SStp.refl⟩
theorem s_while {c : Expr} {body : List Stmt} {mt : Rho → Res Bool} {mb : Rho → SRes} {n : Nat} (hp : PassesOwn (model X.prog X.w) X.A X.env X.xe) (hc : PT X c (tMb G mt)) (hb : PSs X body (tS G mb)) :
    PS X (.While c body [] pos) (tS G fun ρ => whileLoop mt mb n ρ) := by
  refine wkS (ps_while hp hc hb) fun E σ H ⟨ρ, r, q⟩ => ?_
  refine ⟨fun m σ' H' => ∃ ρi, Rl G.K G.B0 ρi σ' H' ∧ postS G E ρi σ' H' (whileLoop mt mb m ρi), ⟨n, ρ, r, q⟩, ?_⟩
  rintro m σi Hi ⟨ρi, ri, hpo⟩
  cases m with
  | zero => exact hpo.elim
  | succ m =>
    unfold whileLoop at hpo
    refine ⟨ρi, ri, hpo.thn.imp fun b ρ1 H1 r1 s1 h1 => ?_⟩
    cases b with
    | false => rw [if_neg Bool.false_ne_true] at h1 ⊢; exact h1 σi H1 r1 SStp.refl
    | true =>
      rw [if_pos rfl] at h1 ⊢
      refine ⟨fun σ' H' => ∃ ρi, Rl G.K G.B0 ρi σ' H' ∧ postS G E ρi σ' H' (whileLoop mt mb m ρi), fun σ' H' w => ⟨m, Nat.lt_succ_self _, w⟩, ρ1, r1, ?_⟩
      cases eb : mb ρ1 with
      | next ρ2 =>
        rw [eb] at h1
        exact fun σ' H' rl s => ⟨ρ2, rl, postS.step (show postS G E ρ1 σi H1 (whileLoop mt mb m ρ2) from h1) s⟩
      | brk ρ2 => rw [eb] at h1; exact h1
      | ret d fr ρ2 => rw [eb] at h1; exact h1
      | exc x ρ2 => rw [eb] at h1; exact h1
      | stuck => rw [eb] at h1; exact h1

theorem chg_ok {K : PySem.W.Frag} {B0 : Addr → Prop} {ρ ρ' : Rho} {σ : L2.St} {H : Hp} {i : Nat} {f : List D → Option (List D)} (r : Rl K B0 ρ σ H) (h : chg ρ i f = some ρ') :
    ∃ xs ys a us, mutAt ρ i xs ∧ f xs = some ys ∧ σ[i]? = some (some (.ref a)) ∧ H a = some (.lst us) ∧ us.length ≤ sizeLine ∧ RpA K H (Bs B0 ρ σ) xs us ∧ Bs B0 ρ σ a ∧ ∀ ws : List V, ws.length ≤ sizeLine → RpA K H (Bs B0 ρ σ) ys ws →
      Rl K B0 ρ' σ (upd H a (.lst ws)) ∧ SStp ρ σ H ρ' σ (upd H a (.lst ws)) := by
  have main : ∀ xs ys (en : List D → Ent), (en = Ent.own ∨ en = Ent.par) → ρ[i]? = some (some (en xs)) → f xs = some ys → ρ' = ρ.set i (some (en ys)) → ∃ xs ys a us, mutAt ρ i xs ∧ f xs = some ys ∧ σ[i]? = some (some (.ref a)) ∧ H a = some (.lst us) ∧ us.length ≤ sizeLine ∧ RpA K H (Bs B0 ρ σ) xs us ∧ Bs B0 ρ σ a ∧ ∀ ws : List V, ws.length ≤ sizeLine → RpA K H (Bs B0 ρ σ) ys ws →
      Rl K B0 ρ' σ (upd H a (.lst ws)) ∧ SStp ρ σ H ρ' σ (upd H a (.lst ws)) := by
    intro xs ys en hen e ef er
    have mx : mutAt ρ i xs := by rcases hen with rfl | rfl; exact .inl e; exact .inr e
    obtain ⟨a, us, e1, e2, z, ra, nb⟩ := r.mu i xs mx
    have hl : i < ρ.length := mx.len
    have he : ρ'[i]? = some (some (en ys)) := by rw [er]; exact List.getElem?_set_self hl
    have hne : ∀ j, i ≠ j → ρ'[j]? = ρ[j]? := fun j q => by rw [er, List.getElem?_set_ne q]
    have hm : ∀ j zs, mutAt ρ' j zs → (j = i ∧ zs = ys) ∨ (i ≠ j ∧ mutAt ρ j zs) := fun j zs m => by
      by_cases q : i = j
      · subst q
        refine .inl ⟨rfl, ?_⟩
        rcases hen with rfl | rfl <;> rcases m with m | m <;> (rw [he] at m; cases m) <;> rfl
      · unfold mutAt at m
        rw [hne j q] at m
        exact .inr ⟨q, m⟩
    have hmr : ∀ j zs, mutAt ρ' j zs → ∃ xs', mutAt ρ j xs' := fun j zs m => by
      rcases hm j zs m with ⟨rfl, _⟩ | ⟨_, m⟩
      · exact ⟨xs, mx⟩
      · exact ⟨zs, m⟩
    have ow : ∀ b, Own ρ' σ b → Own ρ σ b := fun b ⟨j, zs, m, q⟩ => by
      obtain ⟨xs', m'⟩ := hmr j zs m
      exact ⟨j, xs', m', q⟩
    have bs : ∀ b, Bs B0 ρ' σ b → Bs B0 ρ σ b := fun b q => q.imp id (ow b)
    have oa : Own ρ σ a := ⟨i, xs, mx, e1⟩
    have fr : ∀ ws, Fr (fun b => b = a) H (upd H a (.lst ws)) := fun ws => Fr.of fun b o q n => by rw [upd_ne n]; exact q
    have ob : ∀ b, b = a → Bs B0 ρ σ b := fun b q => by rw [q]; exact .inr oa
    have ls : Lsts (fun b => b = a) H := fun b q => ⟨us, by rw [q]; exact e2⟩
    refine ⟨xs, ys, a, us, mx, ef, e1, e2, z, ra, .inr oa, fun ws hz rw' => ⟨⟨by rw [er, List.length_set]; exact r.len, fun j d q => ?_, fun j zs m => ?_, fun j k zs1 zs2 b m1 m2 q1 q2 => ?_, fun b hb => ?_, tabs_but r.tab fun b o e n => by rw [upd_ne fun z => by rw [z, e2] at e; cases e; cases n]; exact e⟩, ⟨Fr.of fun b o q n => ?_, fun b q => .inl (ow b q), fun j => ?_, fun _ _ => rfl⟩⟩⟩
    · by_cases qi : i = j
      · subst qi; rw [he] at q; rcases hen with rfl | rfl <;> cases q
      · rw [hne j qi] at q
        obtain ⟨v, q1, q2⟩ := r.dat j d q
        exact ⟨v, q1, q2.mono (fr ws) ob ls fun b q => .inl (bs b q)⟩
    · rcases hm j zs m with ⟨rfl, rfl⟩ | ⟨ne, m⟩
      · exact ⟨a, ws, e1, upd_same, hz, rw'.mono (fr ws) ob ls fun b q => .inl (bs b q), nb⟩
      · obtain ⟨b, vs, q1, q2, q3, q4, q5⟩ := r.mu j zs m
        have nba : b ≠ a := fun q => ne (r.inj i j xs zs a mx m e1 (by rw [← q]; exact q1))
        exact ⟨b, vs, q1, by rw [upd_ne nba]; exact q2, q3, q4.mono (fr ws) ob ls fun b q => .inl (bs b q), q5⟩
    · obtain ⟨x1, m1⟩ := hmr j zs1 m1
      obtain ⟨x2, m2⟩ := hmr k zs2 m2
      exact r.inj j k x1 x2 b m1 m2 q1 q2
    · obtain ⟨vs, q⟩ := r.amb b hb
      exact ⟨vs, by rw [upd_ne fun q => nb (by rw [← q]; exact hb)]; exact q⟩
    · rw [upd_ne fun q => n (by rw [q]; exact oa)]; exact q
    · by_cases qi : i = j
      · subst qi; rw [he, e]; rcases hen with rfl | rfl <;> rfl
      · rw [hne j qi]
  unfold chg at h
  split at h
  · rename_i xs e
    obtain ⟨ys, e1, e2⟩ := Option.map_eq_some_iff.mp h
    exact main xs ys Ent.own (.inl rfl) e e1 e2.symm
  · rename_i xs e
    obtain ⟨ys, e1, e2⟩ := Option.map_eq_some_iff.mp h
    exact main xs ys Ent.par (.inr rfl) e e1 e2.symm
  · cases h
/-- what is changed was changeable before -/
theorem chg_slot {ρ : Rho} {i : Nat} {f : List D → Option (List D)} {E : Ends} {σ : L2.St} {H : Hp} (r : Rl G.K G.B0 ρ σ H) (h : postS G E ρ σ H (nextO (chg ρ i f))) : ∃ ρ', chg ρ i f = some ρ' ∧ postS G E ρ σ H (.next ρ') := by
  cases e : chg ρ i f with
  | none => rw [e] at h; exact h.elim
  | some ρ' => rw [e] at h; exact ⟨ρ', rfl, h⟩
def oExtend : V → List V → Hp → VK → Prop := fun x vs H Q => ∃ l b xs zs, x = .ref l ∧ vs = [.ref b] ∧ H l = some (.lst xs) ∧ Rd H b (.lst zs) ∧ xs.length + zs.length ≤ sizeLine ∧ Q .non (upd H l (.lst (xs ++ zs)))
theorem o_extend : MtM X "list.extend" oExtend := by
  intro pins s σ H x vs v us Q I rx rv h
  obtain ⟨l, b, xs, zs, rfl, rfl, hH, hB, hz, q⟩ := h
  cases rx
  obtain ⟨u, rfl, ru⟩ := rv.one
  cases ru
  obtain ⟨z, its, n, r, hl, e⟩ := I.lstM hH
  obtain ⟨z2, its2, n2, r2, hl2, e2⟩ := rd_lst I hB
  have hsz : its.toArray.size + its2.toArray.size ≤ sizeLine := by rw [List.size_toArray, List.size_toArray]; omega
  refine call_meets F.slot_list_extend ⟨_, e, rfl⟩ F.entry_list_extend (F.args_list_extend_2 _ _)
    (AutoSeq1.list_extend_list_list_0 l its.toArray n b its2.toArray n2 (by rw [notLongL hsz, Bool.and_false]; exact Bool.false_ne_true) (by rw [List.size_toArray]; omega) (by omega)) ⟨e, e2, ?_⟩
  exact ⟨.non, _, I.lset (its' := its ++ its2) hH e (by simp) (r.append r2) (by rw [List.length_append]; omega), rfl, q⟩
variable {o : Expr} {apos cpos : Pos} {i : Nat}
theorem isMut_at {ρ : Rho} (h : isMut ρ[i]? = true) : ∃ xs, mutAt ρ i xs := by
  unfold isMut at h
  split at h
  · exact ⟨_, .inr (by assumption)⟩
  · exact ⟨_, .inl (by assumption)⟩
  · cases h
abbrev Few (X : Cx) (ex : Expr) (cpos : Pos) : Prop := ((backTo cpos (starEach [ex] X.env)).all (fun x => !x.1) && (backToKw cpos (keywordEach [] X.env)).all (fun x => x.1.isSome)
      && decide (([ex] : List Expr).length + ([] : List Keyword).length + (if ([] : List Keyword).isEmpty then 0 else 1) < 30)) = true
theorem s_app {m : Rho → Res D} (eK : X.K = G.K) (ho : PE X o (tVar i)) (he : PE X ex (tM G m))
    (hbase : attributeBase o "append" X.env (eval o X.env) = eval o X.env) (hfew : Few X ex cpos)
    (hline : (apos.endLine == cpos.line) = true) (hs : starEach [ex] X.env = (false, eval ex X.env) :: starEach [] X.env) (hplain : (backTo cpos (starEach [] X.env)).any (·.1) = false) (hsw : swapsWith (.Call (.Attribute o "append" apos) [ex] [] cpos) none pos.line X.env = pure false) :
    PS X (.Expr (.Call (.Attribute o "append" apos) [ex] [] cpos) pos) (tS G fun ρ => if isMut ρ[i]? = true then (m ρ).thn fun d ρ1 => nextO (chg ρ1 i fun xs => if xs.length < SL then some (xs ++ [d]) else none) else .stuck) := by
  refine wkS (ps_expr (pe_bm PySem.F.plainAttrs_list PySem.F.slot_list_append PySem.F.type_list_append mt_append ho (pa_cons he pa_nil hs) hbase hfew hline hs hplain) hsw) fun E σ H ⟨ρ, r, q⟩ => ?_
  dsimp only at q
  split at q
  · rename_i hm
    obtain ⟨xs0, m0⟩ := isMut_at hm
    obtain ⟨a, us, e1, e2, _⟩ := r.mu i xs0 m0
    refine ⟨.ref a, e1, .inl ⟨rfl, us, .inl (.inl e2)⟩, ρ, r, q.thn.imp fun d ρ1 H1 r1 s1 h1 v rp => ?_⟩
    obtain ⟨ρ', ec, h2⟩ := chg_slot r1 h1
    obtain ⟨xs, ys, a', us', mx, ef, e3, e4, hz, ra, _, go⟩ := chg_ok r1 ec
    rw [e1] at e3
    cases e3
    split at ef
    · rename_i hlt
      cases ef
      have hl : us'.length < sizeLine := by rw [← ra.length, sl_eq]; exact hlt
      obtain ⟨g1, g2⟩ := go (us' ++ [v]) (by rw [List.length_append]; exact hl) (ra.append (.cons rp .nil))
      exact ⟨a, us', v, rfl, rfl, e4, hl, h2 σ _ g1 g2⟩
    · cases ef
  · exact q.elim
/-- a new list that nobody holds gets a number more -/
theorem s_appT {m : Rho → Res (D × Bool)} {k : Int} {j : Nat} {kp : Pos} (eK : X.K = G.K) (ho : PE X o (tF G m))
    (hbase : attributeBase o "append" X.env (eval o X.env) = eval o X.env) (hfew : Few X (.Constant (.int k) j kp) cpos)
    (hline : (apos.endLine == cpos.line) = true) (hs : starEach [.Constant (.int k) j kp] X.env = (false, eval (.Constant (.int k) j kp) X.env) :: starEach [] X.env) (hplain : (backTo cpos (starEach [] X.env)).any (·.1) = false) (hsw : swapsWith (.Call (.Attribute o "append" apos) [.Constant (.int k) j kp] [] cpos) none pos.line X.env = pure false) :
    PS X (.Expr (.Call (.Attribute o "append" apos) [.Constant (.int k) j kp] [] cpos) pos) (tS G fun ρ => (m ρ).thn fun r ρ1 => match r with
      | (.list xs, true) => if xs.length < SL then .next ρ1 else .stuck
      | _ => .stuck) := by
  refine wkS (ps_expr (pe_bm PySem.F.plainAttrs_list PySem.F.slot_list_append PySem.F.type_list_append mt_append ho (pa_cons pe_int pa_nil hs) hbase hfew hline hs hplain) hsw) fun E σ H ⟨ρ, r, q⟩ => ⟨ρ, r, q.thn0.imp fun rr ρ1 H1 r1 s1 h1 v rp fre => ?_⟩
  obtain ⟨d, fr⟩ := rr
  cases fr with
  | false => cases d <;> exact h1.elim
  | true =>
    cases d with
    | list xs =>
      have h1 : postS G E ρ σ H (if xs.length < SL then .next ρ1 else .stuck) := h1
      split at h1
      · rename_i hc
        obtain ⟨xs', a, us, e1, e2, e3, e4, e5, e6, e7⟩ := fre rfl
        cases e1
        subst e2
        have hl : us.length < sizeLine := by rw [← e7.length, sl_eq]; exact hc
        refine ⟨.inl ⟨rfl, us, .inl (.inl e4)⟩, a, us, .int k, rfl, rfl, e4, hl, ?_⟩
        have nb : ¬ G.B0 a := by
          cases rp with
          | lst _ n _ _ => exact fun b => n (.inl b)
        have t := (e6.touch (vs := us ++ [.int k]) (.inr rfl) e4).amb_less (B1 := G.B0) fun _ b => .inl b
        refine h1 σ _ t ⟨fun b o e n tt => ?_, fun b z => .inl (s1.ow b z), s1.pa, fun _ _ => rfl⟩
        have e8 := s1.fr b o e n tt
        rw [upd_ne (fun z => ?_)]
        · exact e8
        · subst z
          rcases e3 with e3 | e3
          · exact n e3
          · exact e3.no e tt
      · exact h1.elim
    | _ => exact h1.elim
theorem s_ext {m : Rho → Res D} (eK : X.K = G.K) (ho : PE X o (tVar i)) (he : PE X ex (tM G m))
    (hbase : attributeBase o "extend" X.env (eval o X.env) = eval o X.env) (hfew : Few X ex cpos)
    (hline : (apos.endLine == cpos.line) = true) (hs : starEach [ex] X.env = (false, eval ex X.env) :: starEach [] X.env) (hplain : (backTo cpos (starEach [] X.env)).any (·.1) = false) (hsw : swapsWith (.Call (.Attribute o "extend" apos) [ex] [] cpos) none pos.line X.env = pure false) :
    PS X (.Expr (.Call (.Attribute o "extend" apos) [ex] [] cpos) pos) (tS G fun ρ => if isMut ρ[i]? = true then (m ρ).thn fun d ρ1 => match d with
    | .list ys => nextO (chg ρ1 i fun xs => if xs.length + ys.length ≤ SL then some (xs ++ ys) else none)
    | _ => .stuck else .stuck) := by
  refine wkS (ps_expr (pe_bm PySem.F.plainAttrs_list PySem.F.slot_list_extend PySem.F.type_list_extend o_extend ho (pa_cons he pa_nil hs) hbase hfew hline hs hplain) hsw) fun E σ H ⟨ρ, r, q⟩ => ?_
  dsimp only at q
  split at q
  · rename_i hm
    obtain ⟨xs0, m0⟩ := isMut_at hm
    obtain ⟨a, us, e1, e2, _⟩ := r.mu i xs0 m0
    refine ⟨.ref a, e1, .inl ⟨rfl, us, .inl (.inl e2)⟩, ρ, r, q.thn.imp fun d ρ1 H1 r1 s1 h1 v rp => ?_⟩
    cases rp with
    | lst rb nb zb rab =>
      rename_i b bs ds
      obtain ⟨ρ', ec, h2⟩ := chg_slot r1 (show postS G E ρ1 σ H1 (nextO (chg ρ1 i fun xs => if xs.length + ds.length ≤ SL then some (xs ++ ds) else none)) from h1)
      obtain ⟨xs, ys, a', us', mx, ef, e3, e4, hz, ra, _, go⟩ := chg_ok r1 ec
      rw [e1] at e3
      cases e3
      split at ef
      · rename_i hlt
        cases ef
        have hl : us'.length + bs.length ≤ sizeLine := by rw [← ra.length, ← rab.length, sl_eq]; exact hlt
        obtain ⟨g1, g2⟩ := go (us' ++ bs) (by rw [List.length_append]; exact hl) (ra.append rab)
        exact ⟨a, b, us', bs, rfl, rfl, e4, rb, hl, h2 σ _ g1 g2⟩
      · cases ef
    | _ => exact h1.elim
  · exact q.elim
theorem s_seti {m mx : Rho → Res D} {ix : Expr} {tpos : Pos} (eK : X.K = G.K) (ho : PE X o (tVar i)) (hx : PE X ix (tM G mx)) (he : PE X ex (tM G m))
    (ha : ∀ v, assign (.Subscript o ix tpos) X.env v = (do
      let ov ← holding [v] (eval o X.env)
      let iv ← holding [v, ov] (eval ix X.env)
      standAt tpos
      holding [v, ov, iv] (setItem ov iv v)
      release [v, ov, iv] [])) (hs : swapsWithSole [.Subscript o ix tpos] ex pos.line X.env = pure false) (hw : swappedStores [.Subscript o ix tpos] ex X.env = pure none) (h1 : (assignEach [.Subscript o ix tpos] X.env).map (·.2) = [assign (.Subscript o ix tpos) X.env]) :
    PS X (.Assign [.Subscript o ix tpos] ex pos) (tS G fun ρ => (m ρ).thn fun d ρ1 => if isMut ρ1[i]? = true then (mx ρ1).thn fun k ρ2 => match k with
    | .int j => nextO (chg ρ2 i fun xs => (L2.ixN xs.length j).map fun m => xs.set m d)
    | _ => .stuck else .stuck) := by
  refine wkS (ps_asg he (pg_sub ho hx L2.set_list ha) hs hw h1) fun E σ H ⟨ρ, r, q⟩ => ⟨ρ, r, q.thn.imp fun d ρ1 H1 r1 s1 h1 v rp => ?_⟩
  split at h1
  · rename_i hm
    obtain ⟨xs0, m0⟩ := isMut_at hm
    obtain ⟨a, us, e1, e2, _⟩ := r1.mu i xs0 m0
    refine ⟨.ref a, e1, ρ1, r1, h1.thn.imp fun k ρ2 H2 r2 s2 h2 w rpk => ?_⟩
    cases rpk with
    | int j =>
      obtain ⟨ρ', ec, h3⟩ := chg_slot r2 (show postS G E ρ2 σ H2 (nextO (chg ρ2 i fun xs => (L2.ixN xs.length j).map fun m => xs.set m d)) from h2)
      obtain ⟨xs, ys, a', us', mx, ef, e3, e4, hz, ra, _, go⟩ := chg_ok r2 ec
      rw [e1] at e3
      cases e3
      obtain ⟨n, en, ey⟩ := Option.map_eq_some_iff.mp ef
      subst ey
      obtain ⟨g1, g2⟩ := go (us'.set n v) (by rw [List.length_set]; exact hz) (ra.set (r1.keep s2 rp) n)
      exact ⟨a, us', j, n, rfl, rfl, e4, by rw [← ra.length]; exact en, h3 σ _ g1 g2⟩
    | _ => exact h2.elim
  · exact h1.elim
end
end Tw

set_option Elab.async false
set_option linter.all false
set_option maxRecDepth 100000
set_option maxHeartbeats 1000000
namespace Tw
open PySem PySem.Spec PyProof.Rows L2

def cn10 : List Str := ["NoRing", "NoPrime", "NoSet", "NoNumber", "NoTrades", "Apart", "NoRow", "NoList", "NoText", "TooGreat"]
section
variable {X : Cx}
def rCntB (K : PySem.W.Frag) : V → List V → Hp → VK → Prop := fun x xs H Q => ∃ (p : Addr) (bs : List Bool), x = .ref p ∧ xs = [.bl true] ∧ SqL K H p (bs.map V.bl) ∧ Q (.int (bs.count true : Nat)) H
theorem vals_bools : ∀ {bs : List Bool} {us : List Value}, Vals (bs.map V.bl) us → us = bs.map Value.bool
  | [], us, h => by cases h; rfl
  | b :: bs, us, h => by
    cases h with
    | cons r t => rw [vals_bools t]; cases r; rfl
theorem mt_countB : MtR X "list.count" (rCntB X.K) := by
  intro pins s σ H x xs v us Q I rx rxs h
  obtain ⟨p, bs, rfl, rfl, hs, q⟩ := h
  cases rx
  obtain ⟨u, rfl, ru⟩ := rxs.one
  cases ru
  obtain ⟨its, rv, ⟨⟨cls, dd, data, sl⟩, n, ho, hc, hdn, hd⟩, hlen⟩ := I.list hs
  simp only at hc hd
  subst hc hd
  have hi := vals_bools rv
  let e : Value → Bool := fun y => match y with
    | .bool b => b == true
    | _ => false
  refine call_meets PySem.F.slot_list_count ⟨_, ho, rfl⟩ PySem.F.entry_list_count (PySem.F.args_list_count_2 _ _)
    (SeqAt.list_countAt p its.toArray n dd sl (.bool true) e) ⟨ho, fun y hy => ?_, ?_⟩
  · rw [hi] at hy
    have hy' : y ∈ bs.map Value.bool := by simpa using hy
    obtain ⟨b, _, rfl⟩ := List.mem_map.mp hy'
    exact SeqAt.EqAt.bool_bool b true
  · have ec : its.toArray.toList.countP e = bs.count true := by
      rw [hi]
      show (bs.map Value.bool).countP e = bs.countP (· == true)
      rw [List.countP_map]
      rfl
    refine ⟨.int (bs.count true : Nat), H, I.tok _, ⟨s.toks, ?_⟩, q⟩
    rw [ec]
/-- the dict of the exception, if it has one -/
def DcOk (d : Option Addr) (H : Hp) : Prop := ∀ dd, d = some dd → ∃ fs, H dd = some (.xd fs)
theorem DcOk.grw {d : Option Addr} {H H' : Hp} (h : DcOk d H) (g : Grw H H') : DcOk d H' := fun dd e => by
  obtain ⟨fs, q⟩ := h dd e
  exact ⟨fs, g _ _ q fun z => z⟩
theorem DcOk.none {H : Hp} : DcOk none H := fun _ e => by cases e
def rIsD (K : PySem.W.Frag) (D a : Addr) (d : Option Addr) : List V → Hp → VK → Prop := fun xs H Q => DcOk d H ∧ rIsE K D a xs H Q
theorem call_isP {a D : Addr} {oe : Obj} {d : Option Addr} (C : ExcC X.K D) (hz : Zc (.ref D) d oe) (hf : ∃ vs, oe.data = .fields vs) (hp : (a, oe) ∈ X.pn) : CallR X (.builtin "isinstance") (rIsD X.K D a d) := by
  intro pins s σ H xs us Q I r h
  obtain ⟨hdc, c, cv, b, rfl, hcv, e, q⟩ := h
  cases r with
  | cons rx rr =>
    cases rr with
    | cons rt rr =>
      cases rr
      cases rx
      have ec := hcv _ rt
      subst ec
      have hget := (I.pin (a, oe) (List.mem_append_left _ hp)).1
      obtain ⟨vs, hv⟩ := hf
      obtain ⟨od, J⟩ : ∃ od, PySem.W.InstAt s.heap a oe D od := by
        cases d with
        | none => exact ⟨none, hget, hz.1, by unfold PySem.W.notCls; rw [hv] <;> rfl, by rw [hz.2]; trivial⟩
        | some dd =>
          obtain ⟨fs, ea⟩ := hdc dd rfl
          have hx : ObjOk X.prog X.w H s.heap dd (.xd fs) := I.hok dd _ ea
          obtain ⟨mA, hns, _⟩ := hx
          obtain ⟨od, ho, _⟩ := lookIn_ns hns
          exact ⟨some od, hget, hz.1, by unfold PySem.W.notCls; rw [hv] <;> rfl, by rw [hz.2]; exact ho⟩
      have hcl : (PySem.W.clsIn X.K D).isSome = true := by
        obtain ⟨cd, hc, _⟩ := PySem.W.any_some C.hd
        rw [hc]; rfl
      exact PySem.W.kia_one (PySem.W.kitx_exc hcl C.hg C.hk C.hs C.ha C.hn C.ht C.hm) I.kIn J e (fun z => nomatch z) fun tk => ⟨.bl b, H, I.kept (t' := tk) fun _ _ z => z, rfl, q⟩
end

def gliB (sc : Scope) (x : Str) : Bool := decide (sc.names.lookup x = some .globalImplicit)
def isxB (sc : Scope) (C : Str) : Expr → Bool
  | .Call (.Name y _) [.Name e _, .Name c _] [] _ => decide (y = ("isinstance" : Str)) && decide (e = ("_law_e" : Str)) && decide (c = C) && gliB sc y && gliB sc c
  | _ => false
def isxsB (sc : Scope) : List Str → List Expr → Bool
  | [], [] => true
  | C :: Cs, e :: es => isxB sc C e && isxsB sc Cs es
  | _, _ => false
def wordsB : List Str → List Expr → Bool
  | [], [] => true
  | w :: ws, e :: es => (match e with
    | .Constant (.str x) _ _ => decide (x = w)
    | _ => false) && wordsB ws es
  | _, _ => false
/-- what is known of the frame -/
structure KCx (X : Cx) (a D : Addr) (oe : Obj) (d : Option Addr) (y : Str) (f : Nat → Bool) : Prop where
  eN : X.N = ([("_law_e" : Str), ("_law_seen" : Str), y] : List Str)
  nd : X.N.Nodup
  le : X.env.scope.names.lookup ("_law_e" : Str) = some .local
  ls : X.env.scope.names.lookup ("_law_seen" : Str) = some .local
  ly : X.env.scope.names.lookup y = some .local
  dy : (y == ("__debug__" : Str)) = false ∧ (y == ("__classdict__" : Str)) = false
  fr : X.mg "isinstance" = none
  fv : X.mg "ValueError" = none
  cls : ∀ C ∈ cn10, X.mg C = some (.ref (He.ga X.K C))
  un : X.A.units + 70 < cLine
  exc : ExcC X.K D
  z : Zc (.ref D) d oe
  fl : ∃ vs, oe.data = .fields vs
  pn : (a, oe) ∈ X.pn
  ki : ∀ (j : Nat) (C : Str), cn10[j]? = some C → PySem.W.kitOne X.K (.ref D) (.ref (He.ga X.K C)) = some (f j)
  kv : PySem.W.kitOne X.K (.ref D) (.type "ValueError") = some true
section
variable {X : Cx} {a D : Addr} {oe : Obj} {d : Option Addr} {y : Str} {f : Nat → Bool}
def tIsx (a : Addr) (d : Option Addr) (b : Bool) : TE := fun σ H Q => σ[0]? = some (some (.ref a)) ∧ DcOk d H ∧ Q (.bl b) H
theorem pe_e {p : Pos} (C : KCx X a D oe d y f) : PE X (.Name "_law_e" p) (tVar 0) := pe_var (by rw [C.eN]; rfl) (.inl C.le)
theorem pe_seen {p : Pos} (C : KCx X a D oe d y f) : PE X (.Name "_law_seen" p) (tVar 1) := pe_var (by rw [C.eN]; rfl) (.inl C.ls)
theorem pe_words {p : Pos} (C : KCx X a D oe d y f) : PE X (.Name y p) (tVar 2) := pe_var (by rw [C.eN]; rfl) (.inl C.ly) C.dy.1 C.dy.2
theorem isx_of {sc : Scope} {C : Str} {e : Expr} (h : isxB sc C e = true) : ∃ p1 p2 p3 p4, e = .Call (.Name "isinstance" p1) [.Name "_law_e" p2, .Name C p3] [] p4 ∧ sc.names.lookup ("isinstance" : Str) = some .globalImplicit ∧ sc.names.lookup C = some .globalImplicit := by
  unfold isxB at h
  split at h
  · simp only [Bool.and_eq_true, decide_eq_true_eq, gliB] at h
    obtain ⟨⟨⟨⟨rfl, rfl⟩, rfl⟩, h1⟩, h2⟩ := h
    exact ⟨_, _, _, _, rfl, h1, h2⟩
  · cases h
theorem pe_isx {C : Str} {e : Expr} {b : Bool} {c : V} {cv : Value} (K : KCx X a D oe d y f) (h : isxB X.env.scope C e = true) (hc : ∀ p, PE X (.Name C p) (tC c)) (hv : ∀ u, RelV c u → u = cv) (hb : PySem.W.kitOne X.K (.ref D) cv = some b) : PE X e (tIsx a d b) := by
  obtain ⟨p1, p2, p3, p4, rfl, g1, g2⟩ := isx_of h

  have pe := pe_callB (pos := p4) (p := p1) (call_isP K.exc K.z K.fl K.pn) (show Gl X "isinstance" from g1) K.fr (by decide +kernel) (pa_cons (pe_e (p := p2) K) (pa_cons (hc p3) pa_nil rfl) rfl) (by decide) (by decide) rfl rfl
  exact wkE pe fun σ H Q ⟨h0, hd, q⟩ => ⟨.ref a, h0, ⟨hd, c, cv, b, rfl, hv, hb, q⟩⟩
def bsOf (f : Nat → Bool) (k : Nat) : Nat → List Bool
  | 0 => []
  | n + 1 => f k :: bsOf f (k + 1) n
def tIsxs (a : Addr) (d : Option Addr) (bs : List Bool) : TA := fun σ H Q => σ[0]? = some (some (.ref a)) ∧ DcOk d H ∧ Q (bs.map V.bl) H
theorem isx_star {sc : Scope} {C : Str} {e : Expr} {es : List Expr} {env : Env} (h : isxB sc C e = true) : starEach (e :: es) env = (false, eval e env) :: starEach es env := by
  obtain ⟨p1, p2, p3, p4, rfl, _⟩ := isx_of h
  rfl
theorem pa_isxs (K : KCx X a D oe d y f) : ∀ {Cs : List Str} {es : List Expr} {k : Nat}, isxsB X.env.scope Cs es = true → (∀ (j : Nat) (C : Str), Cs[j]? = some C → cn10[k + j]? = some C) → PA X es (tIsxs a d (bsOf f k Cs.length))
  | [], [], k, _, _ => wkA pa_nil fun σ H Q q => q.2.2
  | [], _ :: _, _, h, _ => by cases h
  | _ :: _, [], _, h, _ => by cases h
  | C :: Cs, e :: es, k, h, hk => by
    have h' : (isxB X.env.scope C e && isxsB X.env.scope Cs es) = true := h
    rw [Bool.and_eq_true] at h'
    have hC := hk 0 C rfl
    have hg := (isx_of h'.1)
    obtain ⟨_, _, _, _, _, _, g2⟩ := hg
    have hmem : C ∈ cn10 := List.mem_of_getElem? hC
    have hdb : (C == ("__debug__" : Str)) = false := by
      have hall : ∀ C ∈ cn10, (C == ("__debug__" : Str)) = false := by decide
      exact hall C hmem
    have h1 := pe_isx (b := f k) (c := .ref (He.ga X.K C)) (cv := .ref (He.ga X.K C)) K h'.1 (fun p => pe_glob (show Gl X C from g2) (K.cls C hmem) rfl hdb) (fun u r => r) (K.ki k C hC)
    have h2 := pa_isxs K (Cs := Cs) (es := es) (k := k + 1) h'.2 fun j C' hj => by
      have := hk (j + 1) C' (by simpa using hj)
      rw [show k + 1 + j = k + (j + 1) by omega]
      exact this
    exact wkA (pa_cons h1 h2 (isx_star h'.1)) fun σ H Q ⟨q0, qd, q⟩ => ⟨q0, qd, q0, qd, q⟩
def tWords (ws : List Str) : TA := fun σ H Q => Q (ws.map V.str) H
theorem pa_words : ∀ {ws : List Str} {es : List Expr}, wordsB ws es = true → PA X es (tWords ws)
  | [], [], _ => wkA pa_nil fun σ H Q q => q
  | [], _ :: _, h => by cases h
  | _ :: _, [], h => by cases h
  | w :: ws, e :: es, h => by
    have h' := Bool.and_eq_true_iff.mp h
    obtain ⟨h1, h2⟩ := h'
    split at h1
    · obtain rfl := of_decide_eq_true h1
      exact wkA (pa_cons pe_str (pa_words h2) rfl) fun σ H Q q => q
    · cases h1
def kindB (sc : Scope) (y : Str) : List Stmt → Bool
  | [.Assign [.Name s1 _] (.List l1 _) _, .Assign [.Name s2 _] (.BinOp (.Name s3 _) .Add (.List l2 _) _) _, .Assign [.Name s4 _] (.BinOp (.Name s5 _) .Add (.List l3 _) _) _,
      .If (.BoolOp .Or [.UnaryOp .Not iv _, .Compare (.Call (.Attribute (.Name s6 _) m1 ap1) [.Constant (.bool b1) _ _] [] cp1) [.NotEq] [.Constant (.int i1) _ _] _] _) [.Return (some (.Constant (.str _) _ _)) _] [] _,
      .Assign [.Name s7 _] (.List l4 _) _,
      .Return (some (.Subscript (.Name s8 _) (.Call (.Attribute (.Name s9 _) m2 ap2) [.Constant (.bool b2) _ _] [] cp2) _)) _] =>
    decide ([s1, s2, s3, s4, s5, s6, s9] = List.replicate 7 ("_law_seen" : Str)) && decide (s7 = y) && decide (s8 = y) && isxsB sc (cn10.take 4) l1 && isxsB sc ((cn10.drop 4).take 3) l2 && isxsB sc (cn10.drop 7) l3 && isxB sc "ValueError" iv
      && decide (m1 = ("count" : Str)) && b1 && decide (i1 = 1) && decide (m2 = ("index" : Str)) && b2 && (ap1.endLine == cp1.line) && (ap2.endLine == cp2.line) && wordsB kinds10 l4
  | _ => false
def tKind (a : Addr) (d : Option Addr) (w : Str) : TS := fun E σ H => σ.length = 3 ∧ σ[0]? = some (some (.ref a)) ∧ DcOk d H ∧ ∀ H', Grw H H' → E.rt (.str w) H'
theorem dp_bools {K : PySem.W.Frag} {H : Hp} : ∀ bs : List Bool, DpAll K H (bs.map V.bl) (bs.map PyData.bool)
  | [] => .nil
  | b :: bs => .cons (.bl b) (dp_bools bs)
def bs10 (i : Nat) : List Bool := bsOf (fun j => decide (j = i)) 0 4 ++ bsOf (fun j => decide (j = i)) 4 3 ++ bsOf (fun j => decide (j = i)) 7 3
theorem bs10_count : ∀ i, i < 10 → (bs10 i).count true = 1 := by decide
theorem bs10_at : ∀ i, i < 10 → ((bs10 i).map PyData.bool)[i]? = some (.bool true) := by
  intro i hi
  have h : ∀ i, i < 10 → (bs10 i)[i]? = some true := by decide
  rw [List.getElem?_map, h i hi]; rfl
theorem bs10_no : ∀ i, i < 10 → ∀ m, m < i → (bs10 i)[m]? = some false := by decide
theorem bs10_shp (i : Nat) (hi : i < 10) : SeqAt.shaped (.list ((bs10 i).map PyData.bool)) = true := by
  have h : ∀ i, i < 10 → SeqAt.shaped (.list ((bs10 i).map PyData.bool)) = true := by decide
  exact h i hi
theorem set_len {σ : L2.St} {i : Nat} {v : Option V} : (σ.set i v).length = σ.length := List.length_set
theorem sub_at {l : List Str} {k m j : Nat} {C : Str} (h : ((l.drop k).take m)[j]? = some C) : l[k + j]? = some C := by
  rw [List.getElem?_take] at h
  split at h
  · rwa [List.getElem?_drop] at h
  · cases h
theorem drop_at {l : List Str} {k j : Nat} {C : Str} (h : (l.drop k)[j]? = some C) : l[k + j]? = some C := by rwa [List.getElem?_drop] at h
theorem pss_kind {body : List Stmt} {i : Nat} {w : Str} (K : KCx X a D oe d y (fun j => decide (j = i))) (hi : kinds10[i]? = some w) (h : kindB X.env.scope y body = true) : PSs X body (tKind a d w) := by
  have hi10 : i < 10 := (List.getElem?_eq_some_iff.mp hi).1
  unfold kindB at h
  split at h
  case h_2 => cases h
  simp only [Bool.and_eq_true, decide_eq_true_eq, List.replicate_succ, List.replicate_zero, List.cons.injEq, and_true] at h
  obtain ⟨⟨⟨⟨⟨⟨⟨⟨⟨⟨⟨⟨⟨⟨⟨rfl, rfl, rfl, rfl, rfl, rfl, rfl⟩, rfl⟩, rfl⟩, l1⟩, l2⟩, l3⟩, iv⟩, rfl⟩, rfl⟩, rfl⟩, rfl⟩, rfl⟩, a1⟩, a2⟩, wl⟩ := h
  have nd : X.N.Nodup := K.nd
  have n1 : X.N[1]? = some ("_law_seen" : Str) := by rw [K.eN]; rfl
  have pl1 := pa_isxs K (k := 0) l1 fun j C h => sub_at (k := 0) h
  have pl2 := pa_isxs K (k := 4) l2 fun j C h => sub_at h
  have pl3 := pa_isxs K (k := 7) l3 fun j C h => drop_at h
  have hgv : X.env.scope.names.lookup ("ValueError" : Str) = some .globalImplicit := (isx_of iv).choose_spec.choose_spec.choose_spec.choose_spec.2.2
  have piv := pe_isx (b := true) (c := .ty "ValueError") (cv := .type "ValueError") K iv (fun p => pe_bltn (show Gl X "ValueError" from hgv) K.fv (by decide +kernel) rfl) (fun u r => r) K.kv
  obtain ⟨q1, q2, q3, q4, e, _⟩ := isx_of iv
  subst e
  have u := K.un
  refine wkSs (pss_cons (ps_set (i := 1) nd n1 (.inl K.ls) (pe_lst pl1) rfl (.inr K.ls)) (pss_cons (ps_set (i := 1) nd n1 (.inl K.ls) (pe_op o_add (pe_seen K) (pe_lst pl2)) rfl (.inr K.ls)) (pss_cons (ps_set (i := 1) nd n1 (.inl K.ls) (pe_op o_add (pe_seen K) (pe_lst pl3)) rfl (.inr K.ls))
    (pss_cons (ps_if (pw_or (pt_not (pt_truth piv fun _ => rfl)) (pw_or1 (pt_cmpR op_ne (pe_bm PySem.F.plainAttrs_list PySem.F.slot_list_count PySem.F.type_list_count mt_countB (pe_seen K) (pa_cons pe_bl pa_nil rfl) rfl rfl a1 rfl rfl) pe_int (nomark _)))).pt (pss_one (ps_ret pe_str)) pss_nil)
    (pss_cons (ps_set (i := 2) nd (by rw [K.eN]; rfl) (.inl K.ly) (pe_lst (pa_words wl)) rfl (.inr K.ly)) (pss_one (ps_ret (pe_ix ix_seq (pe_words K) (pe_bm PySem.F.plainAttrs_list PySem.F.slot_list_index PySem.F.type_list_index (mt_indexD (by omega)) (pe_seen K) (pa_cons pe_bl pa_nil rfl) rfl rfl a2 rfl rfl) fun _ _ => rfl)))))))) fun E σ H ⟨hl, h0, hdc, q⟩ => ?_
  have z10 : 10 ≤ sizeLine := by decide
  refine ⟨h0, hdc, show 4 ≤ sizeLine by decide, fun p1 n1 => ?_⟩
  refine ⟨.ref p1, by rw [List.getElem?_set_self (by omega)], ?_⟩
  refine ⟨by rw [List.getElem?_set_ne (by decide)]; exact h0, hdc.grw (Grw.new n1), show 3 ≤ sizeLine by decide, fun p2 n2 => ?_⟩
  have e12 : p1 ≠ p2 := fun z => by rw [← z, upd_same] at n2; cases n2
  refine .inr (.inl ⟨p1, p2, _, _, rfl, rfl, .inl (by rw [upd_ne e12, upd_same]), .inl upd_same, by exact (show 7 ≤ sizeLine by decide), fun p3 n3 => ?_⟩)
  refine ⟨.ref p3, by rw [List.getElem?_set_self (by simp; omega)], ?_⟩
  refine ⟨by rw [List.getElem?_set_ne (by decide), List.getElem?_set_ne (by decide)]; exact h0, ((hdc.grw (Grw.new n1)).grw (Grw.new n2)).grw (Grw.new n3), show 3 ≤ sizeLine by decide, fun p4 n4 => ?_⟩
  have e34 : p3 ≠ p4 := fun z => by rw [← z, upd_same] at n4; cases n4
  refine .inr (.inl ⟨p3, p4, _, _, rfl, rfl, .inl (by rw [upd_ne e34, upd_same]), .inl upd_same, by exact (show 10 ≤ sizeLine by decide), fun p5 n5 => ?_⟩)
  generalize hH : upd (upd (upd (upd (upd H p1 _) p2 _) p3 _) p4 _) p5 _ = H5
  have g5 : Grw H H5 := by
    rw [← hH]
    exact ((((Grw.new n1).trans (Grw.new n2)).trans (Grw.new n3)).trans (Grw.new n4)).trans (Grw.new n5)
  have a5 : H5 p5 = some (.lst ((bs10 i).map V.bl)) := by
    rw [← hH, upd_same]
    unfold bs10
    rw [List.map_append, List.map_append]
    rfl
  generalize hS : ((σ.set 1 (some (V.ref p1))).set 1 (some (.ref p3))).set 1 (some (.ref p5)) = σ5
  have s0 : σ5[0]? = some (some (.ref a)) := by rw [← hS, List.getElem?_set_ne (by decide), List.getElem?_set_ne (by decide), List.getElem?_set_ne (by decide)]; exact h0
  have s1 : σ5[1]? = some (some (.ref p5)) := by rw [← hS, List.getElem?_set_self (by simp; omega)]
  have sl : σ5.length = 3 := by rw [← hS]; simp [hl]
  unfold gName
  rw [hS]
  refine ⟨s0, hdc.grw g5, true, rfl, ?_⟩
  show if (!true) = true then _ else _
  rw [if_neg (by decide)]
  refine ⟨.ref p5, s1, .inl ⟨rfl, _, .inl (.inl a5)⟩, p5, bs10 i, rfl, rfl, .inl (.inl a5), ?_⟩
  rw [bs10_count i hi10]
  refine ⟨rfl, _, rfl, ?_⟩
  rw [show (!decide (V.int ((1 : Nat) : Int) = V.int 1)) = false from rfl]
  dsimp only
  rw [if_neg (by decide)]
  refine ⟨show 10 ≤ sizeLine by decide, fun p6 n6 => ?_⟩
  have e56 : p5 ≠ p6 := fun z => by rw [← z, a5] at n6; cases n6
  have a56 : upd H5 p6 (.lst (kinds10.map V.str)) p5 = some (.lst ((bs10 i).map V.bl)) := by rw [upd_ne e56]; exact a5
  refine ⟨.ref p6, by rw [List.getElem?_set_self (by omega)], ?_⟩
  refine ⟨.ref p5, by rw [List.getElem?_set_ne (by decide)]; exact s1, .inl ⟨rfl, _, .inl (.inl a56)⟩, p5, .bl true, .bool true, (bs10 i).map .bool, i, .bool true, rfl, rfl, .lst (.inl (.inl a56)) (dp_bools _), .bl true, bs10_shp i hi10, by decide, bs10_at i hi10, by decide, fun m z' hm hz => ?_, ?_⟩
  · rw [List.getElem?_map, bs10_no i hi10 m hm] at hz
    cases hz
    decide
  · exact .inl ⟨p6, _, (i : Int), .str w, rfl, rfl, .inl (.inl upd_same), atI_nat (by rw [List.getElem?_map, hi]; rfl), q _ (g5.trans (Grw.new n6))⟩
end
end Tw

set_option Elab.async false
set_option linter.all false
set_option maxRecDepth 100000
set_option maxHeartbeats 1000000
namespace Tw
open PySem PySem.Spec PyProof.Rows L2
/-- what is known of _law_kind -/
structure KindF (K : PySem.W.Frag) (mg : Str → Option Value) : Prop where
  ex : ∃ (g : Addr) (params : Arguments) (body : List Stmt) (scope : Scope) (dV kV doc pm cdv ct oc : Value) (an od : Option Addr) (osl : Array (Option Value)) (y : Str),
    K.lookup g = some ⟨oc, od, .func (PySem.W.fnOf "_law_kind" "_law_kind" params body scope dV kV doc pm an cdv ct), osl⟩ ∧ PySem.W.codeIn K cdv "_law_kind" = true ∧ FnScope [("_law_e" : Str), ("_law_seen" : Str), y] [("_law_e" : Str)] scope ∧ kindB scope y body = true ∧
      scope.names.lookup ("_law_e" : Str) = some .local ∧ scope.names.lookup ("_law_seen" : Str) = some .local ∧ scope.names.lookup y = some .local ∧ (y == ("__debug__" : Str)) = false ∧ (y == ("__classdict__" : Str)) = false ∧
      mg "_law_kind" = some (.ref g) ∧ PySem.W.keepIn K (.ref g) = true ∧ Binds K (PySem.W.fnOf "_law_kind" "_law_kind" params body scope dV kV doc pm an cdv ct) [("_law_e" : Str)] []
/-- what is known of the class of number i -/
structure ClsF (K : PySem.W.Frag) (i : Nat) (D : Addr) : Prop where
  exc : ExcC K D
  ki : ∀ (j : Nat) (C : Str), cn10[j]? = some C → PySem.W.kitOne K (.ref D) (.ref (He.ga K C)) = some (decide (j = i))
  kv : PySem.W.kitOne K (.ref D) (.type "ValueError") = some true
  exm : PySem.W.exmOne K (.ref D) (.ref (He.ga K "RingError")) = some true
structure ModF (mg : Str → Option Value) (K : PySem.W.Frag) : Prop where
  fi : mg "int" = none
  fb : mg "bool" = none
  fr : mg "isinstance" = none
  fv : mg "ValueError" = none
  cls : ∀ C ∈ cn10, mg C = some (.ref (He.ga K C))
  re : mg "RingError" = some (.ref (He.ga K "RingError"))
theorem pe_kind {X : Cx} {a D : Addr} {oe : Obj} {d : Option Addr} {i j : Nat} {w : Str} {x : Str} {p1 p2 p3 : Pos} (F : KindF X.K X.mg) (M : ModF X.mg X.K) (hC : ClsF X.K i D) (hi : kinds10[i]? = some w) (hz : Zc (.ref D) d oe) (hf : ∃ vs, oe.data = .fields vs) (hp : (a, oe) ∈ X.pn)
    (hr : L2H.RoomH 1 X.A) (hg : Gl X "_law_kind") (hx : PE X (.Name x p2) (tVar j)) :
    PE X (.Call (.Name "_law_kind" p1) [.Name x p2] [] p3) (fun σ H Q => σ[j]? = some (some (.ref a)) ∧ DcOk d H ∧ ∀ H', Grw H H' → Q (.str w) H') := by
  obtain ⟨g, params, body, scope, dV, kV, doc, pm, cdv, ct, oc, an, od, osl, y, lk, hcd, S, hb, l1, l2, l3, d1, d2, hm, hk, bi⟩ := F.ex
  refine ⟨fun pins s σ H Q I h => ?_⟩
  obtain ⟨h0, hdc, hq⟩ := h
  have ha : PA X [.Name x p2] (tCons (tVar j) tNil) := pa_cons hx pa_nil rfl
  refine wpAny_Call_Name_kw (ld_glob I hg hm (PySem.W.callWith_K (h₀ := X.base) I.ok.mod.kin hk (thn (ha.run p3 pins s σ H (fun vs H1 => vs = [V.ref a] ∧ H1 = H) I ⟨.ref a, h0, rfl, rfl⟩) fun us s1 ⟨vs, H1, I1, r, ev, eH⟩ => ⟨I1.kIn, ?_⟩) rfl rfl))
  subst ev
  rw [eH] at I1
  have P1 := I1.pin (a, oe) (List.mem_append_left _ hp)
  have hpin : L2H.PinOk X.stack H s1 (a, oe) := ⟨P1.1, P1.2.1, fun z => (List.mem_cons.mp (I1.stkSub a z)).elim P1.2.2.1 P1.2.2.2.1, P1.2.2.2.2⟩
  have KX := I1.kIn
  have hl : us.length = 1 := by rw [← r.length]; rfl
  have b := bi s1 us I1.kIn (by rw [List.append_nil]; exact hl)
  rw [List.append_nil] at b
  have e0 := I1.env0
  have hkind : ∀ q ∈ [("_law_e" : Str)].zip us, scope.names.lookup q.1 = some .local ∨ (scope.names.lookup q.1 = some .cell ∧ ((cellsFrom (s1.heap.objs.size + 1) scope.names []).lookup q.1).isSome = true) := fun q hq => by
    have := (List.of_mem_zip (show (q.1, q.2) ∈ _ from hq)).1
    rw [List.mem_singleton.mp this]
    exact .inl l1
  have rc : codeAny (model X.prog X.w) X.A (.call (.ref g) ⟨us, []⟩) (CR C8.CX0 X.stack X.prog X.w H s1 Q C8.E0) s1 := by
    refine codeAny_call_function hr.depth (KX _ _ lk) rfl S.co S.gen rfl (PySem.W.codeRec_of KX hcd) (b _ _ _ _ (wpAny_newFunctionEnv_cells S.kind hkind fun env he s2 x2 => ?_))
    subst he
    refine ⟨(e0.mod.nolimit.keeps fun b o e => (e0.bs b o e).1).keeps x2.toInCall.keep, codeAny_func ?_⟩
    have I2 : Inv (L2H.cxH C8.CX0 X.prog X.w X.K X.mg X.base [("_law_e" : Str), ("_law_seen" : Str), y] "_law_kind" scope g cdv X.A X.stack s1 H C8.E0 (a, oe)) [] (start [("_law_e" : Str), ("_law_seen" : Str), y] [V.ref a]) H s2 := L2H.inv_startH S hpin e0 rfl r x2
    have KC : KCx (L2H.cxH C8.CX0 X.prog X.w X.K X.mg X.base [("_law_e" : Str), ("_law_seen" : Str), y] "_law_kind" scope g cdv X.A X.stack s1 H C8.E0 (a, oe)) a D oe d y (fun j => decide (j = i)) :=
      ⟨rfl, S.nd, l1, l2, l3, ⟨d1, d2⟩, M.fr, M.fv, M.cls, by have := hr.un; show X.A.units + 3 + 70 < cLine; omega, hC.exc, hz, hf, List.mem_singleton.mpr rfl, hC.ki, hC.kv⟩
    refine wpAny_mono ((pss_kind KC hi hb).run [] s2 _ H { nx := fun _ H' => Q .non H', rt := Q } I2 ⟨rfl, rfl, hdc, hq⟩) (fun fl s' hs => ?_) fun e s' hs => hs
    cases fl with
    | ret u =>
      obtain ⟨v, σ', H', J, rv, q⟩ := hs
      exact ⟨v, H', J.os, J.bare, J.base, J.hok, rv, q⟩
    | next =>
      obtain ⟨σ', H', J, q⟩ := hs
      exact ⟨.non, H', J.os, J.bare, J.base, J.hok, rfl, q⟩
    | _ => obtain ⟨_, _, _, q⟩ := hs; exact False.elim q
  refine wpAny_call (codeAny_mono rc fun o s' hq => ?_)
  cases o with
  | error e => exact (show False from hq).elim
  | ok fl => cases fl with
    | ret u => exact I1.after hq
    | _ => exact False.elim hq
def wholeB (sc : Scope) (x : Str) : List Stmt → Bool
  | [.Return (some (.BoolOp .And [.Call (.Name i1 _) [.Name x1 _, .Name t1 _] [] _, .UnaryOp .Not (.Call (.Name i2 _) [.Name x2 _, .Name t2 _] [] _) _] _)) _] =>
    decide ([i1, i2] = [("isinstance" : Str), ("isinstance" : Str)]) && decide ([x1, x2] = [x, x]) && decide (t1 = ("int" : Str)) && decide (t2 = ("bool" : Str)) && gliB sc "isinstance" && gliB sc "int" && gliB sc "bool"
  | _ => false
structure WholeF (K : PySem.W.Frag) (mg : Str → Option Value) : Prop where
  ex : ∃ (g : Addr) (params : Arguments) (body : List Stmt) (scope : Scope) (dV kV doc pm cdv ct oc : Value) (an od : Option Addr) (osl : Array (Option Value)) (x : Str),
    K.lookup g = some ⟨oc, od, .func (PySem.W.fnOf "_law_whole" "_law_whole" params body scope dV kV doc pm an cdv ct), osl⟩ ∧ PySem.W.codeIn K cdv "_law_whole" = true ∧ FnScope [x] [x] scope ∧ wholeB scope x body = true ∧
      scope.names.lookup x = some .local ∧ (x == ("__debug__" : Str)) = false ∧ (x == ("__classdict__" : Str)) = false ∧
      mg "_law_whole" = some (.ref g) ∧ PySem.W.keepIn K (.ref g) = true ∧ Binds K (PySem.W.fnOf "_law_whole" "_law_whole" params body scope dV kV doc pm an cdv ct) [x] []
theorem pe_isw {X : Cx} {t : Ty} {e : Expr} {j : Nat} {p p1 pos : Pos} (hgl : Gl X "isinstance") (hm : X.mg "isinstance" = none) (hgt : Gl X (tyStr t : Str)) (hmt : X.mg (tyStr t : Str) = none) (hbt : bootBuiltins (tyStr t : Str) = some (.type (tyStr t))) (hnn : (tyStr t : Str) ≠ "__name__") (hd : ((tyStr t : Str) == ("__debug__" : Str)) = false) (hx : PE X e (tVar j))
    (hs : starEach [e, .Name (tyStr t : Str) p1] X.env = (false, eval e X.env) :: starEach [.Name (tyStr t : Str) p1] X.env) :
    PE X (.Call (.Name "isinstance" p) [e, .Name (tyStr t : Str) p1] [] pos) (fun σ H Q => ∃ k : Int, σ[j]? = some (some (.int k)) ∧ Q (.bl (isiD t (.int k))) H) := by
  have pt : PE X (.Name (tyStr t : Str) p1) (tC (.ty (tyStr t))) := pe_bltn hgt hmt hbt rfl hnn hd
  refine wkE (pe_callB (pos := pos) (p := p) call_isi hgl hm (by decide +kernel) (pa_cons hx (pa_cons pt pa_nil rfl) hs) (by decide) (by decide) hs rfl) fun σ H Q ⟨k, e0, q⟩ => ⟨.int k, e0, ?_⟩
  exact ⟨.int k, .ty (tyStr t), .type "int", .type (tyStr t), isiD t (.int k), rfl, .ty _, ty_of (Rp.int (K := X.K) (H := H) (B := fun _ => False) k).ro rfl, kit_ty (kit_ok t (.int k)), q⟩
theorem pss_whole {X : Cx} {x : Str} {body : List Stmt} (eN : X.N = [x]) (lx : X.env.scope.names.lookup x = some .local) (d1 : (x == ("__debug__" : Str)) = false) (d2 : (x == ("__classdict__" : Str)) = false) (fr : X.mg "isinstance" = none) (fi : X.mg "int" = none) (fb : X.mg "bool" = none) (h : wholeB X.env.scope x body = true) :
    PSs X body (fun E σ H => ∃ k : Int, σ[0]? = some (some (.int k)) ∧ E.rt (.bl true) H) := by
  unfold wholeB at h
  split at h
  case h_2 => cases h
  simp only [Bool.and_eq_true, decide_eq_true_eq, List.cons.injEq, and_true, gliB] at h
  obtain ⟨⟨⟨⟨⟨⟨⟨rfl, rfl⟩, ⟨e1, e2⟩⟩, rfl⟩, rfl⟩, g1⟩, g2⟩, g3⟩ := h
  rw [e1, e2]
  have px : ∀ p, PE X (.Name x p) (tVar 0) := fun p => pe_var (by rw [eN]; rfl) (.inl lx) d1 d2
  refine wkSs (pss_one (ps_ret (L2.pe_and (pe_isw (t := .int) g1 fr g2 fi (by decide +kernel) (by decide) (by decide) (px _) rfl) (pe_one (L2.pe_not (pe_isw (t := .bool) g1 fr g3 fb (by decide +kernel) (by decide) (by decide) (px _) rfl)))))) fun E σ H ⟨k, e, q⟩ => ?_
  exact ⟨k, e, true, rfl, ⟨k, e, false, rfl, q⟩⟩
theorem pe_whole {X : Cx} {a : Addr} {oe : Obj} {e : Expr} {te : TE} {p1 p3 : Pos} (F : WholeF X.K X.mg) (M : ModF X.mg X.K) (hp : (a, oe) ∈ X.pn)
    (hr : L2H.RoomH 1 X.A) (hg : Gl X "_law_whole") (he : PE X e te) (hs : starEach [e] X.env = (false, eval e X.env) :: starEach [] X.env) :
    PE X (.Call (.Name "_law_whole" p1) [e] [] p3) (fun σ H Q => te σ H fun v H1 => ∃ k : Int, v = .int k ∧ Q (.bl true) H1) := by
  obtain ⟨g, params, body, scope, dV, kV, doc, pm, cdv, ct, oc, an, od, osl, x, lk, hcd, S, hb, l1, d1, d2, hm, hk, bi⟩ := F.ex
  refine ⟨fun pins s σ H0 Q I h => ?_⟩
  have ha : PA X [e] (tCons te tNil) := pa_cons he pa_nil hs
  refine wpAny_Call_Name_kw (ld_glob I hg hm (PySem.W.callWith_K (h₀ := X.base) I.ok.mod.kin hk (thn (ha.run p3 pins s σ H0 (fun vs H1 => match vs with | [v] => ∃ k : Int, v = V.int k ∧ Q (.bl true) H1 | _ => False) I h) fun us s1 ⟨vs, H, I1, r, hv⟩ => ⟨I1.kIn, ?_⟩) hs rfl))
  obtain ⟨k, ev, hq⟩ : ∃ k : Int, vs = [V.int k] ∧ Q (.bl true) H := by
    match vs, hv with
    | [v], ⟨k, e, q⟩ => exact ⟨k, by rw [e], q⟩
  subst ev
  have P1 := I1.pin (a, oe) (List.mem_append_left _ hp)
  have hpin : L2H.PinOk X.stack H s1 (a, oe) := ⟨P1.1, P1.2.1, fun z => (List.mem_cons.mp (I1.stkSub a z)).elim P1.2.2.1 P1.2.2.2.1, P1.2.2.2.2⟩
  have KX := I1.kIn
  have hl : us.length = 1 := by rw [← r.length]; rfl
  have b := bi s1 us I1.kIn (by rw [List.append_nil]; exact hl)
  rw [List.append_nil] at b
  have e0 := I1.env0
  have hkind : ∀ q ∈ [x].zip us, scope.names.lookup q.1 = some .local ∨ (scope.names.lookup q.1 = some .cell ∧ ((cellsFrom (s1.heap.objs.size + 1) scope.names []).lookup q.1).isSome = true) := fun q hq => by
    have := (List.of_mem_zip (show (q.1, q.2) ∈ _ from hq)).1
    rw [List.mem_singleton.mp this]
    exact .inl l1
  have rc : codeAny (model X.prog X.w) X.A (.call (.ref g) ⟨us, []⟩) (CR C8.CX0 X.stack X.prog X.w H s1 Q C8.E0) s1 := by
    refine codeAny_call_function hr.depth (KX _ _ lk) rfl S.co S.gen rfl (PySem.W.codeRec_of KX hcd) (b _ _ _ _ (wpAny_newFunctionEnv_cells S.kind hkind fun env he s2 x2 => ?_))
    subst he
    refine ⟨(e0.mod.nolimit.keeps fun b o e => (e0.bs b o e).1).keeps x2.toInCall.keep, codeAny_func ?_⟩
    have I2 : Inv (L2H.cxH C8.CX0 X.prog X.w X.K X.mg X.base [x] "_law_whole" scope g cdv X.A X.stack s1 H C8.E0 (a, oe)) [] (start [x] [V.int k]) H s2 := L2H.inv_startH S hpin e0 rfl r x2
    refine wpAny_mono ((pss_whole (X := L2H.cxH C8.CX0 X.prog X.w X.K X.mg X.base [x] "_law_whole" scope g cdv X.A X.stack s1 H C8.E0 (a, oe)) rfl l1 d1 d2 M.fr M.fi M.fb hb).run [] s2 _ H { nx := fun _ H' => Q .non H', rt := Q } I2 ⟨k, rfl, hq⟩) (fun fl s' hs => ?_) fun e s' hs => hs
    cases fl with
    | ret u =>
      obtain ⟨v, σ', H', J, rv, q⟩ := hs
      exact ⟨v, H', J.os, J.bare, J.base, J.hok, rv, q⟩
    | next =>
      obtain ⟨σ', H', J, q⟩ := hs
      exact ⟨.non, H', J.os, J.bare, J.base, J.hok, rfl, q⟩
    | _ => obtain ⟨_, _, _, q⟩ := hs; exact False.elim q
  refine wpAny_call (codeAny_mono rc fun o s' hq => ?_)
  cases o with
  | error e => exact (show False from hq).elim
  | ok fl => cases fl with
    | ret u => exact I1.after hq
    | _ => exact False.elim hq
end Tw

set_option Elab.async false
set_option linter.all false
set_option maxRecDepth 100000
set_option maxHeartbeats 1000000
namespace Tw
open PySem PySem.Spec PyProof.Rows L2
def ifxB (f : Str) : Expr → Bool
  | .IfExp (.Call (.Name h _) [.Attribute (.Name e3 _) a1 _] [] _) (.Attribute (.Name e4 _) a2 _) (.Constant .none _ _) _ => decide (h = ("_law_whole" : Str)) && decide ([e3, e4] = [("_law_e" : Str), ("_law_e" : Str)]) && decide ([a1, a2] = [f, f])
  | _ => false
def ret1B (f : Str) : List Stmt → Bool
  | [.Return (some (.Tuple [.Name w _, x] _ _)) _] => decide (w = ("_law_word" : Str)) && ifxB f x
  | _ => false
def ret2B (f g : Str) : List Stmt → Bool
  | [.Return (some (.Tuple [.Name w _, x, y] _ _)) _] => decide (w = ("_law_word" : Str)) && ifxB f x && ifxB g y
  | _ => false
def saidB (sc : Scope) : List Stmt → Bool
  | [.Try [.Assign [.Name f1 _] (.Call (.Name c1 _) [] [] _) _] [.ExceptHandler (some (.Name r _)) (some e1) [.Assign [.Name w1 _] (.Call (.Name k1 _) [.Name e2 _] [] _) _, .If (.Compare (.Name w2 _) [.In] [.Tuple [.Constant (.str s1) _ _, .Constant (.str s2) _ _] _ _] _) b1 [] _,
        .If (.Compare (.Name w3 _) [.Eq] [.Constant (.str s3) _ _] _) b2 [] _, .Return (some (.Tuple [.Name w4 _] _ _)) _] _] [] [] _, .Return (some (.Tuple [.Constant (.str t) _ _, .Name f2 _] _ _)) _] =>
    decide ([f1, f2] = [("_law_found" : Str), ("_law_found" : Str)]) && decide (c1 = ("_law_call" : Str)) && decide (r = ("RingError" : Str)) && decide ([e1, e2] = [("_law_e" : Str), ("_law_e" : Str)]) && decide ([w1, w2, w3, w4] = List.replicate 4 ("_law_word" : Str))
      && decide (k1 = ("_law_kind" : Str)) && decide (s1 = ("list" : Str)) && decide (s2 = ("text" : Str)) && decide (s3 = ("great" : Str)) && decide (t = ("told" : Str)) && gliB sc "RingError" && gliB sc "_law_kind" && gliB sc "_law_whole" && ret1B "at" b1 && ret2B "many" "most" b2
  | _ => false
def saidN : List Str := ["_law_call", "_law_found", "_law_e", "_law_word"]
/-- what a class must have for the fields of its instances to be read -/
structure XfF (K : PySem.W.Frag) (D : Addr) (fs : List Str) : Prop where
  xf : XfC K D
  no : ∀ f ∈ fs, PySem.W.findIn K (.ref D) f = some none
def fldN (i : Nat) : List Str := if i = 9 then ["many", "most"] else ["at"]
/-- a refusal's word -/
def ToldP (K : PySem.W.Frag) (cls : Value) (d : Option Addr) (H : Hp) (Q : VK) : Prop :=
  ∃ (i : Nat) (D : Addr) (w : Str), i < 7 ∧ cls = .ref D ∧ d = none ∧ ClsF K i D ∧ kinds10[i]? = some w ∧ ∀ H2, Grw H H2 → ∀ p, H2 p = none → Q (.ref p) (upd H2 p (.tup [.str w]))
def Told1 (K : PySem.W.Frag) (cls : Value) (d : Option Addr) (H : Hp) (Q : VK) : Prop :=
  ∃ (i : Nat) (D : Addr) (w : Str) (dd : Addr) (fs : List (Str × V)) (k : Int), (i = 7 ∨ i = 8) ∧ cls = .ref D ∧ d = some dd ∧ ClsF K i D ∧ XfF K D ["at"] ∧ kinds10[i]? = some w ∧ H dd = some (.xd fs) ∧ fs.lookup ("at" : Str) = some (V.int k) ∧ ∀ H2, Grw H H2 → ∀ p, H2 p = none → Q (.ref p) (upd H2 p (.tup [.str w, .int k]))
def Told2 (K : PySem.W.Frag) (cls : Value) (d : Option Addr) (H : Hp) (Q : VK) : Prop :=
  ∃ (D : Addr) (dd : Addr) (fs : List (Str × V)) (k l : Int), cls = .ref D ∧ d = some dd ∧ ClsF K 9 D ∧ XfF K D ["many", "most"] ∧ H dd = some (.xd fs) ∧ fs.lookup ("many" : Str) = some (V.int k) ∧ fs.lookup ("most" : Str) = some (V.int l) ∧ ∀ H2, Grw H H2 → ∀ p, H2 p = none → Q (.ref p) (upd H2 p (.tup [.str "great", .int k, .int l]))
def Told (K : PySem.W.Frag) (cls : Value) (d : Option Addr) (H : Hp) (Q : VK) : Prop := ToldP K cls d H Q ∨ Told1 K cls d H Q ∨ Told2 K cls d H Q
theorem Told.exm {K : PySem.W.Frag} {cls : Value} {d : Option Addr} {H : Hp} {Q : VK} (h : Told K cls d H Q) : PySem.W.exmOne K cls (.ref (He.ga K "RingError")) = some true := by
  rcases h with ⟨i, D, w, _, ec, _, cf, _⟩ | ⟨i, D, w, dd, fs, k, _, ec, _, cf, _⟩ | ⟨D, dd, fs, k, l, ec, _, cf, _⟩
  · rw [ec]; exact cf.exm
  · rw [ec]; exact cf.exm
  · rw [ec]; exact cf.exm
def TTsaid (K : PySem.W.Frag) : (XK → Hp → VK → Prop) → Hp → VK → Prop := fun tl H Q => tl (fun cls d H' => Told K cls d H' Q) H fun v H' => ∃ v' : V, (some (some v) : Option (Option V)) = some (some v') ∧ 2 ≤ sizeLine ∧ ∀ p, H' p = none → Q (.ref p) (upd H' p (.tup [.str "told", v']))
theorem pss_never {X : Cx} {b : List Stmt} : PSs X b (fun _ _ _ => False) := ⟨fun _ _ _ _ _ _ h => h.elim⟩
theorem word_no : ∀ i, i < 7 → ∀ w, kinds10[i]? = some w → ([PyData.str "list", PyData.str "text"].any fun z => PyData.eqv z (.str w)) = false ∧ decide (V.str w = V.str "great") = false ∧ SeqAt.shaped (.str w) = true := by
  intro i hi w hw
  match i, hi with
  | 0, _ => cases hw; decide +kernel
  | 1, _ => cases hw; decide +kernel
  | 2, _ => cases hw; decide +kernel
  | 3, _ => cases hw; decide +kernel
  | 4, _ => cases hw; decide +kernel
  | 5, _ => cases hw; decide +kernel
  | 6, _ => cases hw; decide +kernel
theorem word_at : ∀ i, i = 7 ∨ i = 8 → ∀ w, kinds10[i]? = some w → ([PyData.str "list", PyData.str "text"].any fun z => PyData.eqv z (.str w)) = true ∧ SeqAt.shaped (.str w) = true := by
  rintro i (rfl | rfl) w hw
  · cases hw; decide +kernel
  · cases hw; decide +kernel
/-- e.f if _law_whole(e.f) else None -/
theorem pe_ifx {Y : Cx} {a D : Addr} {oe : Obj} {cls : Value} {d : Option Addr} {pn : List (Addr × Obj)} {f : Str} {x : Expr} {L : List Str} (WF : WholeF Y.K Y.mg) (M : ModF Y.mg Y.K) (eN : Y.N = saidN) (l2 : Y.env.scope.names.lookup ("_law_e" : Str) = some .local) (g3 : Y.env.scope.names.lookup ("_law_whole" : Str) = some .globalImplicit)
    (hr : L2H.RoomH 1 (Y.suite a ((a, oe) :: pn)).A) (hz : Zc cls d oe) (hf : ∃ vs, oe.data = .fields vs) (T : XfF Y.K D L) (hL : f ∈ L) (h : ifxB f x = true) :
    PE (Y.suite a ((a, oe) :: pn)) x (fun σ H Q => σ[2]? = some (some (.ref a)) ∧ cls = .ref D ∧ ∃ (dd : Addr) (fs : List (Str × V)) (k : Int), d = some dd ∧ H dd = some (.xd fs) ∧ fs.lookup f = some (.int k) ∧ Q (.int k) H) ∧ ∀ es env, starEach (x :: es) env = (false, eval x env) :: starEach es env := by
  unfold ifxB at h
  split at h
  case h_2 => cases h
  simp only [Bool.and_eq_true, decide_eq_true_eq, List.cons.injEq, and_true] at h
  obtain ⟨⟨rfl, ⟨rfl, rfl⟩⟩, ⟨e1, e2⟩⟩ := h
  rw [e1, e2]
  have pv : ∀ p, PE (Y.suite a ((a, oe) :: pn)) (.Name "_law_e" p) (tVar 2) := fun p => pe_var (by show Y.N[2]? = _; rw [eN]; rfl) (.inl l2)
  have px : ∀ p q, PE (Y.suite a ((a, oe) :: pn)) (.Attribute (.Name "_law_e" p) f q) (tXf a cls d D f (tVar 2)) := fun p q => pe_xf T.xf (T.no f hL) hz hf (pv p)
  refine ⟨wkE (pe_ifExp (pt_truth (pe_whole (X := Y.suite a ((a, oe) :: pn)) WF M List.mem_cons_self hr g3 (px _ _) rfl) fun _ => rfl) (px _ _) pe_non) fun σ H Q ⟨s2, ec, dd, fs, k, ed, hd, hl, q⟩ => ?_, fun _ _ => rfl⟩
  refine ⟨.ref a, s2, rfl, ec, dd, fs, .int k, ed, hd, hl, k, rfl, true, rfl, ?_⟩
  show (if true = true then _ else _)
  rw [if_pos rfl]
  exact ⟨.ref a, s2, rfl, ec, dd, fs, .int k, ed, hd, hl, q⟩
def tSuite (K : PySem.W.Frag) (a : Addr) (cls : Value) (d : Option Addr) : TS := fun D σ H => (∃ σ0 : L2.St, σ = σ0.set 2 (some (.ref a))) ∧ Told K cls d H D.rt
theorem pss_suite {Y : Cx} {a : Addr} {oe : Obj} {cls : Value} {d : Option Addr} {pn : List (Addr × Obj)} {b1 b2 : List Stmt} {q1 q2 q3 q4 q5 q6 q7 q8 q9 q10 q11 q12 q13 q14 q15 q16 q17 q18 : Pos} {k1 k2 k3 k4 k5 : Nat} (F : KindF Y.K Y.mg) (WF : WholeF Y.K Y.mg) (M : ModF Y.mg Y.K) (hb1 : ret1B "at" b1 = true) (hb2 : ret2B "many" "most" b2 = true) (eN : Y.N = saidN) (nd : Y.N.Nodup)
    (l2 : Y.env.scope.names.lookup ("_law_e" : Str) = some .local) (l3 : Y.env.scope.names.lookup ("_law_word" : Str) = some .local) (g2 : Y.env.scope.names.lookup ("_law_kind" : Str) = some .globalImplicit) (g3 : Y.env.scope.names.lookup ("_law_whole" : Str) = some .globalImplicit) (hd : Y.A.depth + 8 < recursionLimit) (hu : Y.A.units + 216 < cLine)
    (hz : Zc cls d oe) (hf : ∃ vs, oe.data = .fields vs) :
    PSs (Y.suite a ((a, oe) :: pn)) [.Assign [.Name "_law_word" q1] (.Call (.Name "_law_kind" q2) [.Name "_law_e" q3] [] q4) q5, .If (.Compare (.Name "_law_word" q6) [.In] [.Tuple [.Constant (.str "list") k1 q7, .Constant (.str "text") k2 q8] k3 q9] q10) b1 [] q11,
      .If (.Compare (.Name "_law_word" q12) [.Eq] [.Constant (.str "great") k4 q13] q14) b2 [] q15, .Return (some (.Tuple [.Name "_law_word" q16] k5 q17)) q18] (tSuite Y.K a cls d) := by
  refine ⟨fun pins s2 σ H2 E I ⟨⟨σ0, e0⟩, told⟩ => ?_⟩
  have hl : σ.length = 4 := by have := I.len; rw [this]; show Y.N.length = 4; rw [eN]; rfl
  have h2 : σ[2]? = some (some (.ref a)) := by rw [e0] at hl ⊢; rw [List.getElem?_set_self (by simpa using (by rw [List.length_set] at hl; omega : 2 < σ0.length))]
  have hrh : L2H.RoomH 1 (Y.suite a ((a, oe) :: pn)).A := ⟨by show Y.A.depth + 3 * 1 + 5 < _; omega, by show Y.A.units + 16 * 1 + 200 < _; omega⟩
  have pw : ∀ p, PE (Y.suite a ((a, oe) :: pn)) (.Name "_law_word" p) (tVar 3) := fun p => pe_var (by show Y.N[3]? = _; rw [eN]; rfl) (.inl l3)
  rcases told with ⟨i, D, w, hi, ec, ed, cf, hw, q⟩ | ⟨i, D, w, dd, fs, k, hi, ec, ed, cf, xf, hw, hd0, hl0, q⟩ | ⟨D, dd, fs, k, l, ec, ed, cf, xf, hd0, hl0, hl1, q⟩
  · subst ec ed
    obtain ⟨n1, n2, n3⟩ := word_no i hi w hw
    refine PSs.run (X := Y.suite a ((a, oe) :: pn)) (pss_cons (X := Y.suite a ((a, oe) :: pn)) (ps_set (X := Y.suite a ((a, oe) :: pn)) (i := 3) nd (by show Y.N[3]? = _; rw [eN]; rfl) (.inl l3) (pe_kind (X := Y.suite a ((a, oe) :: pn)) F M cf hw hz hf List.mem_cons_self hrh g2 (pe_var (i := 2) (by show Y.N[2]? = _; rw [eN]; rfl) (.inl l2))) rfl (.inr l3))
        (pss_cons (ps_if (pt_cmpR (o_inT (by show Y.A.units + 65 < cLine; omega)) (pw _) (pe_tup (pa_cons pe_str (pa_cons pe_str pa_nil rfl) rfl)) rfl) pss_never pss_nil)
        (pss_cons (ps_if (pt_cmpR op_eq (pw _) pe_str (nomark _)) pss_never pss_nil) (pss_one (ps_ret (pe_tup (pa_cons (pw _) pa_nil rfl))))))) pins s2 σ H2 E I ?_
    refine ⟨h2, .none, fun H3 g3 => ?_⟩
    refine ⟨.str w, by rw [List.getElem?_set_self (by omega)], show 2 ≤ sizeLine by decide, fun t1 nt1 => ?_⟩
    refine ⟨.str w, [.str "list", .str "text"], .str w, .tup (.inl (.inl upd_same)) (.cons (.str _) (.cons (.str _) .nil)), n3, by decide +kernel, ?_⟩
    rw [if_neg (by decide), n1]
    refine ⟨false, rfl, ?_⟩
    dsimp only
    rw [if_neg (by decide)]
    refine ⟨.str w, by rw [List.getElem?_set_self (by omega)], rfl, ?_⟩
    rw [n2]
    refine ⟨false, rfl, ?_⟩
    dsimp only
    rw [if_neg (by decide)]
    refine ⟨.str w, by rw [List.getElem?_set_self (by omega)], show 1 ≤ sizeLine by decide, fun p np => ?_⟩
    exact q _ (g3.trans (Grw.new nt1)) p np
  · obtain ⟨n1, n3⟩ := word_at i hi w hw
    unfold ret1B at hb1
    split at hb1
    case h_2 => cases hb1
    obtain ⟨z1, z2⟩ := Bool.and_eq_true_iff.mp hb1
    obtain rfl := of_decide_eq_true z1
    obtain ⟨pi, hst⟩ := pe_ifx (pn := pn) (a := a) (D := D) WF M eN l2 g3 hrh hz hf xf (List.mem_cons_self ..) z2
    subst ec ed
    refine PSs.run (X := Y.suite a ((a, oe) :: pn)) (pss_cons (X := Y.suite a ((a, oe) :: pn)) (ps_set (X := Y.suite a ((a, oe) :: pn)) (i := 3) nd (by show Y.N[3]? = _; rw [eN]; rfl) (.inl l3) (pe_kind (X := Y.suite a ((a, oe) :: pn)) F M cf hw hz hf List.mem_cons_self hrh g2 (pe_var (i := 2) (by show Y.N[2]? = _; rw [eN]; rfl) (.inl l2))) rfl (.inr l3))
        (pss_cons (ps_if (pt_cmpR (o_inT (by show Y.A.units + 65 < cLine; omega)) (pw _) (pe_tup (pa_cons pe_str (pa_cons pe_str pa_nil rfl) rfl)) rfl) (pss_one (ps_ret (pe_tup (pa_cons (pw _) (pa_cons pi pa_nil (hst _ _)) rfl)))) pss_nil)
        (pss_cons (ps_if (pt_cmpR op_eq (pw _) pe_str (nomark _)) pss_never pss_nil) (pss_one (ps_ret (pe_tup (pa_cons (pw _) pa_nil rfl))))))) pins s2 σ H2 E I ?_
    refine ⟨h2, fun _ e => (by cases e; exact ⟨fs, hd0⟩), fun H3 g3 => ?_⟩
    refine ⟨.str w, by rw [List.getElem?_set_self (by omega)], show 2 ≤ sizeLine by decide, fun t1 nt1 => ?_⟩
    refine ⟨.str w, [.str "list", .str "text"], .str w, .tup (.inl (.inl upd_same)) (.cons (.str _) (.cons (.str _) .nil)), n3, by decide +kernel, ?_⟩
    rw [if_neg (by decide), n1]
    refine ⟨true, rfl, ?_⟩
    dsimp only
    rw [if_pos rfl]
    have gg := g3.trans (Grw.new (o := .tup [.str "list", .str "text"]) nt1)
    refine ⟨.str w, by rw [List.getElem?_set_self (by omega)], ⟨by rw [List.getElem?_set_ne (by decide)]; exact h2, rfl, dd, fs, k, rfl, gg _ _ hd0 (fun z => z), hl0, show 2 ≤ sizeLine by decide, fun p np => ?_⟩⟩
    exact q _ gg p np
  · have hw : kinds10[9]? = some ("great" : Str) := rfl
    unfold ret2B at hb2
    split at hb2
    case h_2 => cases hb2
    obtain ⟨z0, z3⟩ := Bool.and_eq_true_iff.mp hb2
    obtain ⟨z1, z2⟩ := Bool.and_eq_true_iff.mp z0
    obtain rfl := of_decide_eq_true z1
    obtain ⟨pi, hst⟩ := pe_ifx (pn := pn) (a := a) (D := D) WF M eN l2 g3 hrh hz hf xf (List.mem_cons_self ..) z2
    obtain ⟨pj, hst2⟩ := pe_ifx (pn := pn) (a := a) (D := D) WF M eN l2 g3 hrh hz hf xf (List.mem_cons_of_mem _ (List.mem_cons_self ..)) z3
    subst ec ed
    refine PSs.run (X := Y.suite a ((a, oe) :: pn)) (pss_cons (X := Y.suite a ((a, oe) :: pn)) (ps_set (X := Y.suite a ((a, oe) :: pn)) (i := 3) nd (by show Y.N[3]? = _; rw [eN]; rfl) (.inl l3) (pe_kind (X := Y.suite a ((a, oe) :: pn)) F M cf hw hz hf List.mem_cons_self hrh g2 (pe_var (i := 2) (by show Y.N[2]? = _; rw [eN]; rfl) (.inl l2))) rfl (.inr l3))
        (pss_cons (ps_if (pt_cmpR (o_inT (by show Y.A.units + 65 < cLine; omega)) (pw _) (pe_tup (pa_cons pe_str (pa_cons pe_str pa_nil rfl) rfl)) rfl) pss_never pss_nil)
        (pss_cons (ps_if (pt_cmpR op_eq (pw _) pe_str (nomark _)) (pss_one (ps_ret (pe_tup (pa_cons (pw _) (pa_cons pi (pa_cons pj pa_nil (hst2 _ _)) (hst _ _)) rfl)))) pss_nil) (pss_one (ps_ret (pe_tup (pa_cons (pw _) pa_nil rfl))))))) pins s2 σ H2 E I ?_
    refine ⟨h2, fun _ e => (by cases e; exact ⟨fs, hd0⟩), fun H3 g3 => ?_⟩
    refine ⟨.str "great", by rw [List.getElem?_set_self (by omega)], show 2 ≤ sizeLine by decide, fun t1 nt1 => ?_⟩
    refine ⟨.str "great", [.str "list", .str "text"], .str "great", .tup (.inl (.inl upd_same)) (.cons (.str _) (.cons (.str _) .nil)), by decide +kernel, by decide +kernel, ?_⟩
    rw [if_neg (by decide), show ([PyData.str "list", PyData.str "text"].any fun z => PyData.eqv z (.str "great")) = false by decide +kernel]
    refine ⟨false, rfl, ?_⟩
    dsimp only
    rw [if_neg (by decide)]
    refine ⟨.str "great", by rw [List.getElem?_set_self (by omega)], rfl, ?_⟩
    rw [show decide (V.str "great" = V.str "great") = true by decide +kernel]
    refine ⟨true, rfl, ?_⟩
    dsimp only
    rw [if_pos rfl]
    have gg := g3.trans (Grw.new (o := .tup [.str "list", .str "text"]) nt1)
    refine ⟨.str "great", by rw [List.getElem?_set_self (by omega)], ⟨by rw [List.getElem?_set_ne (by decide)]; exact h2, rfl, dd, fs, k, rfl, gg _ _ hd0 (fun z => z), hl0, ⟨by rw [List.getElem?_set_ne (by decide)]; exact h2, rfl, dd, fs, l, rfl, gg _ _ hd0 (fun z => z), hl1, show 3 ≤ sizeLine by decide, fun p np => ?_⟩⟩⟩
    exact q _ gg p np
theorem said_gives {X : Cx} {sg : Scope} {g : Addr} {cdg : Value} {bg : List Stmt} {k : Nat} (F : KindF X.K X.mg) (WF : WholeF X.K X.mg) (M : ModF X.mg X.K) (hb : saidB sg bg = true) (S : FnScope saidN [("_law_call" : Str)] sg) (l1 : sg.names.lookup ("_law_found" : Str) = some .local) (l2 : sg.names.lookup ("_law_e" : Str) = some .local) (l3 : sg.names.lookup ("_law_word" : Str) = some .local)
    (hr : Room (k + 2) X.A) {q : Str} : LamX.GivesTo X saidN "_law_said" sg g cdg bg "_law_call" q (TTsaid X.K) := by
  intro f c' s H Q tl act hc h
  unfold saidB at hb
  split at hb
  case h_2 => cases hb
  simp only [Bool.and_eq_true, decide_eq_true_eq, List.replicate_succ, List.replicate_zero, List.cons.injEq, and_true, gliB] at hb
  obtain ⟨⟨⟨⟨⟨⟨⟨⟨⟨⟨⟨⟨⟨⟨⟨rfl, rfl⟩, rfl⟩, rfl⟩, ⟨rfl, rfl⟩⟩, ⟨rfl, rfl, rfl, rfl⟩⟩, rfl⟩, rfl⟩, rfl⟩, rfl⟩, rfl⟩, g1⟩, g2⟩, g3⟩, hb1⟩, hb2⟩ := hb
  have l0 : Loc sg "_law_call" := S.par _ (List.mem_singleton.mpr rfl)
  have hun : X.A.units + 3 + 200 < cLine := by have := hr.un; omega
  refine ⟨_, pss_cons (ps_try_as (X := (cxOf C8.CX0 X.prog X.w X.K X.mg X.base saidN "_law_said" sg g cdg X.A X.stack s H C8.E0).nox) (i := 2) (c := .ref (He.ga X.K "RingError")) (Wout := fun _ _ _ _ => False)
      (tb := fun W D σ H => ∃ Ech : XK, (∀ cls d σ' H', Ech cls d H' → W cls d σ' H') ∧ σ[0]? = some (some (.ref f)) ∧ H c' = some (LamX.CodeO c' q) ∧ tl Ech H fun v H' => D.nx (σ.set 1 (some v)) H') (ts := tSuite X.K)
      rfl rfl S.nd rfl l2 ⟨g1, by decide, .inl M.re⟩ LamX.takes0 (fun W pn xe tk _ => ?_) (fun a oe cls d pn hz hf => pss_suite (Y := (cxOf C8.CX0 X.prog X.w X.K X.mg X.base saidN "_law_said" sg g cdg X.A X.stack s H C8.E0).nox) F WF M hb1 hb2 rfl S.nd l2 l3 g2 g3 (by have := hr.dp; show X.A.depth + 1 + 8 < _; omega) (by have := hr.un; show X.A.units + 3 + 216 < _; omega) hz hf))
    (pss_one (ps_ret (pe_tup (pa_cons pe_str (pa_cons (pe_var (i := 1) rfl (.inl l1)) pa_nil rfl) rfl)))), ?_⟩
  · refine ⟨fun pins s' σ H' D I ⟨Ech, hW, h1, h2, h3⟩ => ?_⟩
    exact (pss_one (ps_set (i := 1) S.nd rfl (.inl l1) (act W pn xe Ech _ _ tk hW) rfl (.inr l1))).run pins s' σ H' D I ⟨h1, h2, h3⟩
  · refine ⟨fun cls d H' => Told X.K cls d H' Q, fun cls d σ' H' hT => ?_, rfl, hc, ?_⟩
    · exact ⟨true, hT.exm, fun _ a na => ⟨⟨σ', rfl⟩, hT⟩, fun z => by cases z⟩
    · exact h
end Tw

set_option Elab.async false
set_option linter.all false
set_option maxRecDepth 100000
set_option maxHeartbeats 1000000
namespace Tw
open PySem PySem.Spec PyProof.Rows L2
/-- an exception of the program's own classes -/
def XokP (K : PySem.W.Frag) : Exc → Value → Option Addr → Hp → Prop := fun x c dd _ => x.cls < 7 ∧ ∃ C, cn10[x.cls]? = some C ∧ c = .ref (He.ga K C) ∧ dd = none
def Xok1 (K : PySem.W.Frag) : Exc → Value → Option Addr → Hp → Prop := fun x c dd H => (x.cls = 7 ∨ x.cls = 8) ∧ ∃ (C : Str) (dx : Addr) (fs : List (Str × V)) (k : Int), cn10[x.cls]? = some C ∧ c = .ref (He.ga K C) ∧ dd = some dx ∧ H dx = some (.xd fs) ∧ x.flds = [.int k] ∧ fs.lookup ("at" : Str) = some (V.int k)
def Xok2 (K : PySem.W.Frag) : Exc → Value → Option Addr → Hp → Prop := fun x c dd H => x.cls = 9 ∧ ∃ (C : Str) (dx : Addr) (fs : List (Str × V)) (k l : Int), cn10[x.cls]? = some C ∧ c = .ref (He.ga K C) ∧ dd = some dx ∧ H dx = some (.xd fs) ∧ x.flds = [.int k, .int l] ∧ fs.lookup ("many" : Str) = some (V.int k) ∧ fs.lookup ("most" : Str) = some (V.int l)
def XOK (K : PySem.W.Frag) : Exc → Value → Option Addr → Hp → Prop := fun x c dd H => XokP K x c dd H ∨ Xok1 K x c dd H ∨ Xok2 K x c dd H
structure SaidF (K : PySem.W.Frag) (mg : Str → Option Value) : Prop where
  ex : ∃ (g : Addr) (pg : Arguments) (bg : List Stmt) (sg : Scope) (dV kV doc pm cdv ct oc : Value) (an od : Option Addr) (osl : Array (Option Value)),
    K.lookup g = some ⟨oc, od, .func (PySem.W.fnOf "_law_said" "_law_said" pg bg sg dV kV doc pm an cdv ct), osl⟩ ∧ PySem.W.codeIn K cdv "_law_said" = true ∧ Binds K (PySem.W.fnOf "_law_said" "_law_said" pg bg sg dV kV doc pm an cdv ct) [("_law_call" : Str)] [] ∧ FnScope saidN [("_law_call" : Str)] sg ∧ saidB sg bg = true ∧
      sg.names.lookup ("_law_found" : Str) = some .local ∧ sg.names.lookup ("_law_e" : Str) = some .local ∧ sg.names.lookup ("_law_word" : Str) = some .local ∧ mg "_law_said" = some (.ref g) ∧ PySem.W.keepIn K (.ref g) = true
  kind : KindF K mg
  mod : ModF mg K
  cls : ∀ (i : Nat) (C : Str), cn10[i]? = some C → ClsF K i (He.ga K C)
  whole : WholeF K mg
  fld : ∀ (i : Nat) (C : Str), 7 ≤ i → cn10[i]? = some C → XfF K (He.ga K C) (fldN i)
section
variable {K : PySem.W.Frag} {B0 : Addr → Prop} {ρ : Rho} {σ : L2.St} {H H1 : Hp}
theorem notTbl {o : HO} (t : isTbl o = false) : ∀ ps, o ≠ .tbl ps := fun ps e => by rw [e] at t; cases t
theorem stp_tab (e : LamX.ExtN H H1) : Stp ρ H ρ H1 σ := ⟨fun a o h _ t => e a o h (notTbl t), fun _ h => h, fun _ => rfl⟩
theorem Rl.tabs (r : Rl K B0 ρ σ H) (e : LamX.ExtN H H1) (t : LamX.Tabs (tabsOf K) H1) : Rl K B0 ρ σ H1 where
  len := r.len
  dat := fun i d h => by
    obtain ⟨v, e1, q⟩ := r.dat i d h
    exact ⟨v, e1, r.keep (stp_tab e) q⟩
  mu := fun i xs m => by
    obtain ⟨a, vs, e1, e2, z, h, n⟩ := r.mu i xs m
    exact ⟨a, vs, e1, e _ _ e2 (fun ps q => by cases q), z, r.keepA (stp_tab e) h, n⟩
  inj := r.inj
  amb := fun a b => by
    obtain ⟨vs, q⟩ := r.amb a b
    exact ⟨vs, e _ _ q (fun ps z => by cases z)⟩
  tab := t
end
theorem saidX_plain {x : Exc} {w : Str} (h : x.cls < 7) (hw : kinds10[x.cls]? = some w) : saidX x = some (.tuple [.str w]) := by
  unfold saidX
  rw [if_pos h, hw]
  rfl
theorem kind_at {i : Nat} (h : i < 7) : ∃ w, kinds10[i]? = some w := ⟨_, List.getElem?_eq_getElem (show i < 10 by omega)⟩
theorem m_said {X : Cx} {G : Gv} {k : Nat} {c P : Addr} {params : Arguments} {body : Expr} {scope : Scope} {p lpos pos : Pos} {m : Rho → Res D} (SF : SaidF X.K X.mg) (eK : X.K = G.K) (eX : G.XO = XOK G.K) (hr : Room (k + 2) X.A) (hg : Gl X "_law_said")
    (TB : LamX.TabB X.base X.mg c P) (hcode : X.env.code = .ref c) (hmT : (P, X.env.qual ++ "<lambda>") ∈ tabsOf X.K) (hu : ∀ q ∈ tabsOf X.K, q.1 = P → q.2 = X.env.qual ++ "<lambda>") (L : LamX.LamS X.env.scope scope) (hdef : defaultsOf params X.env = ([], []))
    (hbind : ∀ (q : Str) (cl : List (Str × Addr)) (pm cv ctv : Value), bindArgs (PySem.W.kla_fn "<lambda>" q params body scope cl pm cv ctv) ⟨[], []⟩ = pure [])
    (hbody : ∀ (A : Around) (outer : List Env) (s : Shared) (H : Hp) (E : XK) (f c' : Addr), Room k (A.deeper (LamX.lamEnv X scope s.heap.objs.size f c')) → PE (LamX.lamCx X A outer s H E scope f c') body (tM { G with W := some fun c d _ H => E c d H } m)) :
    PE X (.Call (.Name "_law_said" p) [.Lambda params body scope lpos] [] pos) (tM G fun ρ => saidR (m ρ)) := by
  obtain ⟨g, pg, bg, sg, dV, kV, doc, pm, cdv, ct, oc, an, od, osl, lk, hcg, hb, S, hsb, l1, l2, l3, hm, hk⟩ := SF.ex
  have lc : Vis sg "_law_call" := (S.par _ (List.mem_singleton.mpr rfl)).elim .inl fun z => .inr (.inl z)
  refine wkE (LamX.pe_lamcall (T := tabsOf X.K) (TT := TTsaid X.K) (t := fun E => tM { G with W := some fun c d _ H => E c d H } m) hg hm hk lk hcg hb S rfl lc (said_gives SF.kind SF.whole SF.mod hsb S l1 l2 l3 hr) TB hcode hmT hu hr L hdef hbind hbody) fun σ H Q ⟨ρ, r, q⟩ => ⟨by rw [eK]; exact r.tab, fun H1 eN T1 => ?_⟩
  have T1' : LamX.Tabs (tabsOf G.K) H1 := by rw [← eK]; exact T1
  have s1 : Stp ρ H ρ H1 σ := stp_tab eN
  refine ⟨ρ, r.tabs eN T1', ?_⟩
  have q : post G σ ρ H (fun d ρ' H' => ∀ v, Rp G.K H' (G.B ρ' σ) d v → Q v H') (saidR (m ρ)) := q
  cases em : m ρ with
  | ok d ρ' =>
    rw [em] at q
    intro H' r' s' v rp
    refine ⟨v, rfl, by decide, fun p np => ?_⟩
    have g : Grw H' (upd H' p (.tup [.str "told", v])) := Grw.new np
    exact q _ (r'.grw g) ((s1.trans s').trans (Stp.grw g)) _ (.tup (.inl (.inl upd_same)) (show 2 ≤ sizeLine by decide) (.cons (.str _) (.cons (rp.grw g) .nil)))
  | exc x ρ' =>
    rw [em] at q
    intro cc dd H' r' xo s'
    have xo : G.XO x cc dd H' := xo
    rw [eX] at xo
    have q : post G σ ρ H (fun d ρ' H' => ∀ v, Rp G.K H' (G.B ρ' σ) d v → Q v H') (.opt (saidX x) ρ') := q
    rcases xo with ⟨h7, C, hC, ec, ed⟩ | ⟨h7, C, dx, fs, k, hC, ec, ed, hd, hfl, hl⟩ | ⟨h7, C, dx, fs, k, l, hC, ec, ed, hd, hfl, hl, hl2⟩
    · obtain ⟨w, hw⟩ := kind_at h7
      rw [saidX_plain h7 hw] at q
      refine .inl ⟨x.cls, He.ga X.K C, w, h7, by rw [ec, eK], ed, SF.cls _ C hC, hw, fun H2 g2 p np => ?_⟩
      have g : Grw H' (upd H2 p (.tup [.str w])) := g2.trans (Grw.new np)
      exact q _ (r'.grw g) ((s1.trans s').trans (Stp.grw g)) _ (.tup (.inl (.inl upd_same)) (show 1 ≤ sizeLine by decide) (.cons (.str _) .nil))
    · obtain ⟨w, hw⟩ : ∃ w, kinds10[x.cls]? = some w := ⟨_, List.getElem?_eq_getElem (show x.cls < 10 by omega)⟩
      have hx : saidX x = some (.tuple [.str w, .int k]) := by
        obtain ⟨xc, xf⟩ := x
        dsimp only at h7 hfl hw
        subst hfl
        rcases h7 with rfl | rfl <;> (cases hw; rfl)
      rw [hx] at q
      have hf := SF.fld _ C (by omega) hC
      rw [show fldN x.cls = (["at"] : List Str) from if_neg (by omega)] at hf
      refine .inr (.inl ⟨x.cls, He.ga X.K C, w, dx, fs, k, h7, by rw [ec, eK], ed, SF.cls _ C hC, hf, hw, hd, hl, fun H2 g2 p np => ?_⟩)
      have g : Grw H' (upd H2 p (.tup [.str w, .int k])) := g2.trans (Grw.new np)
      exact q _ (r'.grw g) ((s1.trans s').trans (Stp.grw g)) _ (.tup (.inl (.inl upd_same)) (show 2 ≤ sizeLine by decide) (.cons (.str _) (.cons (.int _) .nil)))
    · have hx : saidX x = some (.tuple [.str "great", .int k, .int l]) := by
        obtain ⟨xc, xf⟩ := x
        dsimp only at h7 hfl
        subst hfl h7
        rfl
      rw [hx] at q
      have hf := SF.fld _ C (by omega) hC
      have hc := SF.cls _ C hC
      rw [h7] at hf hc
      refine .inr (.inr ⟨He.ga X.K C, dx, fs, k, l, by rw [ec, eK], ed, hc, hf, hd, hl, hl2, fun H2 g2 p np => ?_⟩)
      have g : Grw H' (upd H2 p (.tup [.str "great", .int k, .int l])) := g2.trans (Grw.new np)
      exact q _ (r'.grw g) ((s1.trans s').trans (Stp.grw g)) _ (.tup (.inl (.inl upd_same)) (show 3 ≤ sizeLine by decide) (.cons (.str _) (.cons (.int _) (.cons (.int _) .nil))))
  | stuck => rw [em] at q; exact q
end Tw

set_option Elab.async false
set_option linter.all false
set_option maxRecDepth 100000
set_option maxHeartbeats 1000000
namespace Tw
open PySem PySem.Spec PyProof.Rows L2

/-- what is known of the module: names that are free (built-in), the functions in order, constants -/
structure Tbl where
  frees : List Str
  fns : List (Nat × Str)
  globs : List (Str × D)
  rlim : Nat
  lam : List Nat
  exc : Bool
  kw : List (Str × List Str)
/-- the functions ahead of n may be called; may lambdas be made; no repr -/
structure Lv where
  n : Nat
  lm : Bool
  nr : Bool
def noArgs (a : Arguments) : Bool := a.posonlyargs.isEmpty && a.args.isEmpty && a.vararg.isNone && a.kwonlyargs.isEmpty && a.kw_defaults.isEmpty && a.kwarg.isNone && a.defaults.isEmpty
def visB (sc : Scope) (x : Str) : Bool := match sc.names.lookup x with
  | some .local => true
  | some .cell => true
  | some .free => true
  | _ => false
def glB (sc : Scope) (x : Str) : Bool := (match sc.names.lookup x with
  | some .globalImplicit => true
  | _ => false) && !(x == ("__debug__" : Str)) && !(x == ("__name__" : Str))
def stoB (s0 sc : Scope) (x : Str) : Bool := match sc.names.lookup x with
  | some .local => true
  | some .cell => (match s0.names.lookup x with
    | some .cell => true
    | _ => false)
  | _ => false
def varB (N : List Str) (sc : Scope) (i : Nat) (x : Str) : Bool := decide (N[i]? = some x) && visB sc x && !(x == ("__debug__" : Str)) && !(x == ("__classdict__" : Str))
def fiB (T : Tbl) (sc : Scope) (x : Str) : Bool := glB sc x && decide (x ∈ T.frees)
def notStar : Expr → Bool
  | .Starred .. => false
  | _ => true
def notSet : Expr → Bool
  | .Set .. => false
  | _ => true
def plainIx : Expr → Bool
  | .Slice .. => false
  | _ => true
/-- no form of its own as a test -/
def plainTest : Expr → Bool
  | .UnaryOp .Not _ _ => false
  | .BoolOp .. => false
  | .IfExp .. => false
  | .Compare .. => false
  | _ => true
mutual
def sameD : D → D → Bool
  | .none, .none => true
  | .bool a, .bool b => a == b
  | .int a, .int b => decide (a = b)
  | .str a, .str b => decide (a = b)
  | .tuple a, .tuple b => sameDs a b
  | _, _ => false
def sameDs : List D → List D → Bool
  | [], [] => true
  | a :: r, b :: s => sameD a b && sameDs r s
  | _, _ => false
end
mutual
theorem sameD_eq : ∀ {a b : D}, sameD a b = true → a = b
  | .none, b, h => by cases b <;> first | rfl | cases h
  | .bool a, b, h => by
    cases b <;> first | cases h | skip
    have h' : (a == _) = true := h
    rw [beq_iff_eq] at h'
    rw [h']
  | .int a, b, h => by
    cases b <;> first | cases h | skip
    exact congrArg _ (of_decide_eq_true h)
  | .str a, b, h => by
    cases b <;> first | cases h | skip
    exact congrArg _ (of_decide_eq_true h)
  | .tuple a, b, h => by
    cases b <;> first | cases h | skip
    exact congrArg _ (sameDs_eq h)
  | .list a, b, h => by cases b <;> cases h
  | .dict a, b, h => by cases b <;> cases h
theorem sameDs_eq : ∀ {a b : List D}, sameDs a b = true → a = b
  | [], [], _ => rfl
  | [], _ :: _, h => by cases h
  | _ :: _, [], h => by cases h
  | a :: r, b :: s, h => by
    have h' : (sameD a b && sameDs r s) = true := h
    rw [Bool.and_eq_true] at h'
    rw [sameD_eq h'.1, sameDs_eq h'.2]
end
def conB : D → Expr → Bool
  | .int i, .Constant (.int j) _ _ => decide (i = j)
  | .bool i, .Constant (.bool j) _ _ => decide (i = j)
  | .str i, .Constant (.str j) _ _ => decide (i = j)
  | .none, .Constant .none _ _ => true
  | _, _ => false
def gloB (T : Tbl) (sc : Scope) (x : Str) (d : D) : Expr → Bool
  | .Name y _ => decide (x = y) && glB sc x && (match T.globs.lookup x with
    | some d' => sameD d d'
    | none => false)
  | _ => false
def opOf : BOp → Operator
  | .add => .Add | .sub => .Sub | .mul => .Mult | .fdiv => .FloorDiv | .mod => .Mod | .pow => .Pow
def btName : Bt → Str
  | .len => "len" | .int => "int" | .tuple => "tuple" | .list => "list" | .sorted => "sorted" | .min => "min" | .max => "max" | .sum => "sum" | .all => "all" | .repr => "repr" | .divmod => "divmod" | .str => "str"
def tgB (N : List Str) (s0 sc : Scope) : Tg → Expr → Bool
  | .name i, e => match e with
    | .Name x _ => decide (N[i]? = some x) && stoB s0 sc x
    | _ => false
  | .tup is, e => match e with
    | .Tuple es _ _ => decide (es.length = is.length) && (is.zip es).all fun p => match p.2 with
      | .Name x _ => decide (N[p.1]? = some x) && stoB s0 sc x
      | _ => false
    | _ => false
/-- not a call without arguments -/
def noSup : Expr → Bool
  | .Call _ [] _ _ => false
  | _ => true
theorem base_ok {o : Expr} {n : Str} {env : Env} (h : noSup o = true) : attributeBase o n env (eval o env) = eval o env := by
  cases o with
  | Call f args kw pos =>
    cases args with
    | nil => cases h
    | cons a as => cases f <;> rfl
  | _ => rfl
/-- all arguments by their names, in the parameters' order -/
def kwB (T : Tbl) (y : Str) (kws : List Keyword) : Bool := match T.kw.lookup y with
  | some ps => decide (kws.map (·.arg) = ps.map some)
  | none => false
def isTup : Expr → Bool
  | .Tuple .. => true
  | _ => false
mutual
def chkE (T : Tbl) (lim : Lv) (N : List Str) : Scope → CE → Expr → Bool
  | _, .con d, x => conB d x
  | sc, .glo y d, x => gloB T sc y d x
  | sc, .var i, x => match x with
    | .Name y _ => varB N sc i y
    | _ => false
  | sc, .bin o a b, x => match x with
    | .BinOp l op r _ => decide (op = opOf o) && chkE T lim N sc a l && chkE T lim N sc b r
    | _ => false
  | sc, .neg a, x => match x with
    | .UnaryOp .USub e _ => chkE T lim N sc a e
    | _ => false
  | sc, .cmp o a b, x => match x with
    | .Compare l [op] [r] _ => decide (op = cmpOp o) && chkE T lim N sc a l && chkE T lim N sc b r && !behindInMarks op r
    | _ => false
  | sc, .cmp2 o p a b e, x => match x with
    | .Compare l [op, oq] [r, t] _ => decide (op = cmpOp o) && decide (oq = cmpOp p) && chkE T lim N sc a l && chkE T lim N sc b r && chkE T lim N sc e t && !lastMarks [op, oq] [r, t]
    | _ => false
  | sc, .and es, x => match x with
    | .BoolOp .And vs _ => chkEs T lim N sc es vs && !vs.isEmpty
    | _ => false
  | sc, .or es, x => match x with
    | .BoolOp .Or vs _ => chkEs T lim N sc es vs && !vs.isEmpty
    | _ => false
  | sc, .not a, x => match x with
    | .UnaryOp .Not e _ => chkE T lim N sc a e
    | _ => false
  | sc, .ite t a b, x => match x with
    | .IfExp ct ca cb _ => chkE T lim N sc t ct && chkE T lim N sc a ca && chkE T lim N sc b cb
    | _ => false
  | sc, .tup es, x => match x with
    | .Tuple vs _ _ => chkEs T lim N sc es vs && decide (vs.length ≤ 1000)
    | _ => false
  | sc, .lst es, x => match x with
    | .List vs _ => chkEs T lim N sc es vs && decide (vs.length ≤ 1000)
    | _ => false
  | sc, .idx a i, x => match x with
    | .Subscript o j _ => chkE T lim N sc a o && chkE T lim N sc i j && plainIx j
    | _ => false
  | sc, .slc a lo hi, x => match x with
    | .Subscript o (.Slice l h none _) _ => chkE T lim N sc a o && chkO T lim N sc lo l && chkO T lim N sc hi h
    | _ => false
  | sc, .rev a, x => match x with
    | .Subscript o (.Slice none none (some (.UnaryOp .USub (.Constant (.int i) _ _) _)) _) _ => decide (i = 1) && chkE T lim N sc a o
    | _ => false
  | sc, .comp own elt tg it cond, x => match x with
    | .ListComp el [⟨t, i, ifs, as⟩] scope _ => decide (as = 0) && blkC N sc scope own && tg.ixs.all (fun j => (own.map (·.2)).contains j) && tgB N scope (relS scope sc) tg t && notSet i && chkI T lim N sc it t i && chkT T lim N (relS scope sc) cond ifs && chkE T lim N (relS scope sc) elt el
    | _ => false
  | sc, .call f ms es, x => match x with
    | .Call (.Name y _) args [] _ => glB sc y && decide ((T.fns.take lim.n).lookup f = some y) && chkEs T lim N sc es args
    | .Call (.Name y _) [] kws _ => glB sc y && decide ((T.fns.take lim.n).lookup f = some y) && chkEs T lim N sc es (kws.map (·.value)) && kwB T y kws
    | _ => false
  | sc, .callT f g ms es k, x => match x with
    | .Call (.Name y _) [.Call (.Name z _) args [] _, .Constant (.int k') _ _] [] _ => glB sc y && decide ((T.fns.take lim.n).lookup f = some y) && (glB sc z && decide ((T.fns.take lim.n).lookup g = some z) && chkEs T lim N sc es args) && decide (k = k')
    | _ => false
  | sc, .blt b es, x => match x with
    | .Call (.Name y _) args [] _ => fiB T sc y && decide (y = btName b) && chkEs T lim N sc es args && !args.isEmpty && !(isRepr b && lim.nr)
    | _ => false
  | sc, .isi ty a, x => match x with
    | .Call (.Name y _) [e, .Name t _] [] _ => fiB T sc y && decide (y = ("isinstance" : Str)) && fiB T sc t && decide (t = (tyStr ty : Str)) && chkE T lim N sc a e && notStar e
    | _ => false
  | sc, .sset a, x => match x with
    | .Call (.Name y _) [.Call (.Name z _) [e] [] _] [] _ => fiB T sc y && decide (y = ("sorted" : Str)) && fiB T sc z && decide (z = ("set" : Str)) && chkE T lim N sc a e && notStar e
    | _ => false
  | sc, .lset a, x => match x with
    | .Call (.Name y _) [.Call (.Name z _) [e] [] _] [] _ => fiB T sc y && decide (y = ("len" : Str)) && fiB T sc z && decide (z = ("set" : Str)) && chkE T lim N sc a e && notStar e
    | _ => false
  | sc, .index a b, x => match x with
    | .Call (.Attribute o at_ ap) [e] [] cp => decide (at_ = ("index" : Str)) && chkE T lim N sc a o && chkE T lim N sc b e && notStar e && (ap.endLine == cp.line) && noSup o
    | _ => false
  | sc, .join a b, x => match x with
    | .Call (.Attribute o at_ ap) [e] [] cp => decide (at_ = ("join" : Str)) && chkE T lim N sc a o && chkE T lim N sc b e && notStar e && (ap.endLine == cp.line) && noSup o
    | _ => false
  | sc, .split a b, x => match x with
    | .Call (.Attribute o at_ ap) [e] [] cp => decide (at_ = ("split" : Str)) && chkE T lim N sc a o && chkE T lim N sc b e && notStar e && (ap.endLine == cp.line) && noSup o
    | _ => false
  | sc, .tupR3 a b d, x => match x with
    | .Call (.Name y _) [.Call (.Name z _) [e, f, g] [] _] [] _ => fiB T sc y && decide (y = ("tuple" : Str)) && fiB T sc z && decide (z = ("range" : Str)) && chkE T lim N sc a e && notStar e && chkE T lim N sc b f && notStar f && chkE T lim N sc d g && notStar g
    | _ => false
  | sc, .tupR a, x => match x with
    | .Call (.Name y _) [.Call (.Name z _) [e] [] _] [] _ => fiB T sc y && decide (y = ("tuple" : Str)) && fiB T sc z && decide (z = ("range" : Str)) && chkE T lim N sc a e && notStar e
    | _ => false
  | _, .count _ _, _ => false
  | _, .dct, x => match x with
    | .Dict [some (.Constant (.str s) _ _)] [.Constant (.int i) _ _] _ => decide (s = ("a" : Str)) && decide (i = 1)
    | _ => false
  | sc, .fnv id y, x => match x with
    | .Name z _ => glB sc z && decide (y = z) && decide ((T.fns.take lim.n).lookup id = some z)
    | _ => false
  | sc, .callv al i es, x => match x with
    | .Call (.Name y _) args [] _ => varB N sc i y && al.all (fun q => decide ((T.fns.take lim.n).lookup q.1 = some q.2)) && chkEs T lim N sc es args && !args.isEmpty
    | .Call (.Name y _) [] kws _ => varB N sc i y && al.all (fun q => decide ((T.fns.take lim.n).lookup q.1 = some q.2)) && chkEs T lim N sc es (kws.map (·.value)) && al.all (fun q => kwB T q.2 kws)
    | _ => false
  | sc, .said e, x => match x with
    | .Call (.Name y _) [.Lambda ps body scope _] [] _ => lim.lm && decide (y = ("_law_said" : Str)) && glB sc y && noArgs ps && LamX.lamSB sc scope && chkE T ⟨min lim.n T.rlim, false, true⟩ N scope e body
    | _ => false
def chkEs (T : Tbl) (lim : Lv) (N : List Str) : Scope → CEs → List Expr → Bool
  | _, .nil, xs => xs.isEmpty
  | sc, .cons e es, xs => match xs with
    | [] => false
    | x :: r => notStar x && chkE T lim N sc e x && chkEs T lim N sc es r
def chkO (T : Tbl) (lim : Lv) (N : List Str) : Scope → CO → Option Expr → Bool
  | _, .none, x => x.isNone
  | sc, .some e, x => match x with
    | some x => chkE T lim N sc e x
    | none => false
def chkT (T : Tbl) (lim : Lv) (N : List Str) : Scope → CO → List Expr → Bool
  | _, .none, x => x.isEmpty
  | sc, .some e, x => match x with
    | [x] => chkE T lim N sc e x
    | _ => false
def chkI (T : Tbl) (lim : Lv) (N : List Str) : Scope → CI → Expr → Expr → Bool
  | sc, .seq e, _, x => chkE T lim N sc e x
  | sc, .range es, _, x => match x with
    | .Call (.Name y _) args [] _ => fiB T sc y && decide (y = ("range" : Str)) && chkEs T lim N sc es args && (decide (args.length = 1) || decide (args.length = 2) || decide (args.length = 3))
    | _ => false
  | sc, .enum e, t, x => match x with
    | .Call (.Name y _) [a] [] _ => fiB T sc y && decide (y = ("enumerate" : Str)) && chkE T lim N sc e a && notStar a && isTup t
    | _ => false
  | sc, .zip e f, t, x => match x with
    | .Call (.Name y _) [a, b] [] _ => fiB T sc y && decide (y = ("zip" : Str)) && chkE T lim N sc e a && chkE T lim N sc f b && notStar a && notStar b && isTup t
    | _ => false
end

/-- how arguments come to parameters: by place, by names -/
def BndK (T : Tbl) (K : PySem.W.Frag) (x : Str) (fd : FuncData) (fps : List Str) : Prop := Binds K fd fps [] ∧ ∀ ps, T.kw.lookup x = some ps → fps = ps ∧ BindsK fd fps
structure Fcts (xs : Bool) (T : Tbl) (tab : Nat → FnDef) (c : CallT) (lim : Lv) (XO : Exc → Value → Option Addr → Hp → Prop) (P : Program) (w : World) (K : PySem.W.Frag) (mg : Str → Option Value) (base : Heap) (A : Around) : Prop where
  un : A.units + 70 < cLine
  gd : lim.nr = false → A.guards = some []
  nr : lim.nr = true → lim.n ≤ T.rlim
  rm : Room (3 * lim.n) A
  free : ∀ x ∈ T.frees, mg x = none
  glo : ∀ x d, T.globs.lookup x = some d → ∃ v u, mg x = some u ∧ RelV v u ∧ ∀ H B, Rp K H B d v
  fn : ∀ (q id : Nat) (x : Str), q < lim.n → T.fns[q]? = some (id, x) → (∀ as, c id as = run tab id as) ∧ ∃ fd fps, FnG (decide (q < T.rlim)) P w K mg base (L2.CX P w) (3 * (q + 1)) (He.ga K x) fd fps (spF xs K XO tab id) ∧ mg x = some (.ref (He.ga K x)) ∧ PySem.W.keepIn K (.ref (He.ga K x)) = true ∧ BndK T K x fd fps
  sd : lim.lm = true → xs = true ∧ SaidF K mg ∧ XO = XOK K
theorem look_take : ∀ {l : List (Nat × Str)} {n f : Nat} {y : Str}, (l.take n).lookup f = some y → ∃ j, j < n ∧ l[j]? = some (f, y)
  | [], n, f, y, h => by simp at h
  | _ :: _, 0, f, y, h => by simp at h
  | (g, z) :: l, n + 1, f, y, h => by
    rw [List.take_succ_cons, List.lookup_cons] at h
    cases q : (f == g) with
    | true =>
      rw [q] at h
      cases h
      exact ⟨0, Nat.succ_pos _, by rw [beq_iff_eq.mp q]; rfl⟩
    | false =>
      rw [q] at h
      obtain ⟨j, h1, h2⟩ := look_take h
      exact ⟨j + 1, Nat.succ_lt_succ h1, by simpa using h2⟩
theorem Fcts.at {xs : Bool} {T : Tbl} {tab : Nat → FnDef} {c : CallT} {lim : Lv} {XO : Exc → Value → Option Addr → Hp → Prop} {P : Program} {w : World} {K : PySem.W.Frag} {mg : Str → Option Value} {base : Heap} {A : Around} (F : Fcts xs T tab c lim XO P w K mg base A) {id : Nat} {x : Str} (h : (T.fns.take lim.n).lookup id = some x) :
    (∀ as, c id as = run tab id as) ∧ ∃ nr k fd fps, FnG nr P w K mg base (L2.CX P w) k (He.ga K x) fd fps (spF xs K XO tab id) ∧ Room k A ∧ (nr = false → A.guards = some []) ∧ mg x = some (.ref (He.ga K x)) ∧ PySem.W.keepIn K (.ref (He.ga K x)) = true ∧ BndK T K x fd fps := by
  obtain ⟨q, hq, e⟩ := look_take h
  obtain ⟨hc, fd, fps, G, hm, hk, hb⟩ := F.fn q id x hq e
  refine ⟨hc, _, _, fd, fps, G, F.rm.mono (by omega), fun z => F.gd ?_, hm, hk, hb⟩
  cases e : lim.nr with
  | false => rfl
  | true =>
    have := F.nr e
    rw [decide_eq_false_iff_not] at z
    omega
theorem kwB_of {T : Tbl} {K : PySem.W.Frag} {y : Str} {fd : FuncData} {fps : List Str} {kws : List Keyword} (h : kwB T y kws = true) (b : BndK T K y fd fps) : kws.map (·.arg) = fps.map some ∧ BindsK fd fps := by
  unfold kwB at h
  split at h
  · rename_i ps e
    obtain ⟨e1, e2⟩ := b.2 ps e
    exact ⟨by rw [e1]; exact of_decide_eq_true h, e2⟩
  · cases h
structure Cok (xs : Bool) (T : Tbl) (tab : Nat → FnDef) (c : CallT) (lim : Lv) (N : List Str) (X : Cx) (G : Gv) (s0 sc : Scope) : Prop where
  eK : X.K = G.K
  eN : X.N = N
  nd : N.Nodup
  esc : X.env.scope = sc
  calm : X.calm = true
  xw : xs = false → G.W = none
  fc : Fcts xs T tab c lim G.XO X.prog X.w X.K X.mg X.base X.A
  sto : ∀ x, s0.names.lookup x = some .cell → X.fn x = true
  tk : ∀ σ, PassesAt (L2.CX X.prog X.w) X σ (EW G σ)
  lam : lim.lm = true → Room (3 * lim.n + 2) X.A ∧ ∃ c P, LamX.TabB X.base X.mg c P ∧ X.env.code = .ref c ∧ (P, X.env.qual ++ "<lambda>") ∈ tabsOf X.K ∧ ∀ q ∈ tabsOf X.K, q.1 = P → q.2 = X.env.qual ++ "<lambda>"
section
variable {xs : Bool} {T : Tbl} {tab : Nat → FnDef} {c : CallT} {lim : Lv} {N : List Str} {X : Cx} {G : Gv} {s0 sc : Scope}
theorem Cok.vis (C : Cok xs T tab c lim N X G s0 sc) {x : Str} (h : visB sc x = true) : Vis X.env.scope x := by
  rw [C.esc]
  unfold visB at h
  split at h
  · exact .inl (by assumption)
  · exact .inr (.inl (by assumption))
  · exact .inr (.inr (by assumption))
  · cases h
theorem glB_of {x : Str} (h : glB sc x = true) : sc.names.lookup x = some .globalImplicit ∧ (x == ("__debug__" : Str)) = false ∧ x ≠ "__name__" := by
  unfold glB at h
  rw [Bool.and_eq_true, Bool.and_eq_true] at h
  obtain ⟨⟨h1, h2⟩, h3⟩ := h
  refine ⟨?_, by simpa using h2, fun e => ?_⟩
  · split at h1
    · assumption
    · cases h1
  · rw [e] at h3
    exact absurd h3 (by decide)
theorem Cok.gl (C : Cok xs T tab c lim N X G s0 sc) {x : Str} (h : glB sc x = true) : Gl X x := by
  show X.env.scope.names.lookup x = _
  rw [C.esc]
  exact (glB_of h).1
theorem fiB_of {x : Str} (h : fiB T sc x = true) : glB sc x = true ∧ x ∈ T.frees := by
  unfold fiB at h
  rw [Bool.and_eq_true, decide_eq_true_eq] at h
  exact h
theorem Cok.var (C : Cok xs T tab c lim N X G s0 sc) {i : Nat} {x : Str} {pos : Pos} (h : varB N sc i x = true) : PE X (.Name x pos) (tVar i) := by
  unfold varB at h
  simp only [Bool.and_eq_true, decide_eq_true_eq, Bool.not_eq_true'] at h
  obtain ⟨⟨⟨h1, h2⟩, h3⟩, h4⟩ := h
  exact pe_var (by rw [C.eN]; exact h1) (C.vis h2) h3 h4
theorem star_cons {e : Expr} {es : List Expr} {env : Env} (h : notStar e = true) : starEach (e :: es) env = (false, eval e env) :: starEach es env := by
  cases e <;> first | rfl | cases h
theorem loc_of {x : Str} (h : stoB s0 sc x = true) : Loc sc x := by
  unfold stoB at h
  split at h
  · exact .inl (by assumption)
  · exact .inr (by assumption)
  · cases h
theorem Cok.stf (C : Cok xs T tab c lim N X G s0 sc) {x : Str} (h : stoB s0 sc x = true) : X.fn x = true ∨ X.env.scope.names.lookup x = some .local := by
  unfold stoB at h
  split at h
  · rw [C.esc]; exact .inr (by assumption)
  · split at h
    · exact .inl (C.sto x (by assumption))
    · cases h
  · cases h
/-- in a comprehension's block -/
theorem Cok.blk (C : Cok xs T tab c lim N X G s0 sc) (s : Shared) (H : Hp) (scope : Scope) (cl : List (Str × Addr)) (A : Addr) (fp : List Addr) (B : Addr → Prop) : Cok xs T tab c lim N (X.blk s H scope (compEnvC scope cl A X.env) fp) (G.calm B) scope (relS scope sc) where
  eK := C.eK
  eN := C.eN
  nd := C.nd
  esc := by rw [← C.esc]; rfl
  calm := C.calm
  xw := fun _ => rfl
  fc := C.fc
  sto := fun x h => by show (scope.names.lookup x == some .cell) = true; rw [h]; rfl
  tk := fun σ pins H s e s' I h => by
    obtain ⟨a, B, H', cls, d, _, _, _, _, _, _, _, w⟩ := h
    exact False.elim w
  lam := C.lam
end
end Tw

set_option Elab.async false
set_option linter.all false
set_option maxRecDepth 100000
set_option maxHeartbeats 1000000
namespace Tw
open PySem PySem.Spec PyProof.Rows L2

structure EOK (X : Cx) (G : Gv) (c : CallT) (e : CE) (x : Expr) : Prop where
  m : PE X x (tM G (evE c e))
  t : PT X x (tMb G fun ρ => (evE c e ρ).bind truR)
  r : PE X x (tF G (evR c e))
  v : ∀ i, e = .var i → PE X x (tVar i)
structure EsOK (X : Cx) (G : Gv) (c : CallT) (es : CEs) (xs : List Expr) : Prop where
  a : PA X xs (tMs G (evEs c es))
  q : PA X xs (tMqs G (evQs c es))
  k : ∀ kws : List Keyword, kws.map (·.value) = xs → PK X kws (tMqs G (evQs c es))
  len : ∀ ρ ds ρ', evEs c es ρ = .ok ds ρ' → ds.length = xs.length
  and_ : ∀ pos, xs ≠ [] → PE X (.BoolOp .And xs pos) (tM G (evAnd c es)) ∧ PW X (.BoolOp .And xs pos) (tMb G fun ρ => (evAnd c es ρ).bind truR)
  or_ : ∀ pos, xs ≠ [] → PE X (.BoolOp .Or xs pos) (tM G (evOr c es)) ∧ PW X (.BoolOp .Or xs pos) (tMb G fun ρ => (evOr c es ρ).bind truR)
  st : ∀ pos : Pos, (backTo pos (starEach xs X.env)).any (·.1) = false
section
variable {X : Cx} {G : Gv} {c : CallT} {x : Expr}
theorem tru_plain (h : plainTest x = true) (env : Env) (whole : Sem Value) : isTrue x env whole = (do let v ← whole; standAt x.pos; holding [v] (truthy v)) := by
  cases x with
  | UnaryOp op e p => cases op <;> first | rfl | cases h
  | BoolOp => cases h
  | IfExp => cases h
  | Compare => cases h
  | _ => rfl
theorem f_of_m {m : Rho → Res D} {g : D → Bool} (h : PE X x (tM G m)) (hn : ∀ d, g d = false) : PE X x (tF G fun ρ => (m ρ).bind fun d ρ1 => .ok (d, g d) ρ1) :=
  wkE h fun σ H Q ⟨ρ, r, q⟩ => ⟨ρ, r, q.bind.imp fun d ρ' H' r' s h v rp => (post.ok h r').1 v rp fun hf => by rw [hn] at hf; cases hf⟩
theorem Rl.more2 {K : PySem.W.Frag} {B0 : Addr → Prop} {ρ : Rho} {σ : L2.St} {H H' : Hp} {p : Addr} {us : List V} (r : Rl K B0 ρ σ H) (hp : H p = none) (g : Grw H H') (e : H' p = some (.lst us)) : Rl K (fun a => B0 a ∨ a = p) ρ σ H' := by
  have hb : ∀ a, Bs (fun a => B0 a ∨ a = p) ρ σ a → Bs B0 ρ σ a ∨ Nw H a := fun a h => by
    rcases h with (h | h) | h
    · exact .inl (.inl h)
    · exact .inr (Nw.of (by rw [h]; exact hp))
    · exact .inl (.inr h)
  refine ⟨r.len, fun i d e1 => ?_, fun i xs m => ?_, r.inj, fun a b => ?_, r.tab.ext fun b o e => g b o e id⟩
  · obtain ⟨v, e1, h⟩ := r.dat i d e1
    exact ⟨v, e1, h.mono (O := fun _ => False) g.fr (fun _ z => z.elim) (fun _ z => z.elim) hb⟩
  · obtain ⟨a, vs, e1, e2, z, h, n⟩ := r.mu i xs m
    refine ⟨a, vs, e1, g _ _ e2 id, z, h.mono (O := fun _ => False) g.fr (fun _ z => z.elim) (fun _ z => z.elim) hb, fun b => ?_⟩
    rcases b with b | b
    · exact n b
    · rw [b, hp] at e2; cases e2
  · rcases b with b | b
    · obtain ⟨vs, e⟩ := r.amb a b; exact ⟨vs, g _ _ e id⟩
    · exact ⟨us, by rw [b]; exact e⟩
theorem f_of_n {m : Rho → Res D} {g : D → Bool} (h : PE X x (tN G m)) (hl : ∀ d, g d = true → ∃ xs, d = .list xs) : PE X x (tF G fun ρ => (m ρ).bind fun d ρ1 => .ok (d, g d) ρ1) := by
  refine wkE h fun σ H Q ⟨ρ, r, q⟩ => ⟨ρ, r, q.bind.imp fun d ρ1 H1 r1 s1 h v H' nv => ?_⟩
  refine h H' (r1.grw nv.1) (Stp.grw nv.1) v nv.2.1 fun hf => ?_
  obtain ⟨xs, rfl⟩ := hl d hf
  obtain ⟨p, us, e1, e2, e3, e4, e5⟩ := nv.2.2 xs rfl
  refine ⟨xs, p, us, rfl, e1, s1.s.old (Nw.of e2), e3, e4, r1.more2 e2 nv.1 e3, e5.less fun a z => ?_⟩
  rcases z with (z | z) | z
  · exact .inl (.inl z)
  · exact .inr z
  · exact .inl (.inr z)
theorem f_lst {m : Rho → Res D} {g : D → Bool} {st : Stmt} {i : Nat} (h : PS X st (tAsg (tN G m) (gName i))) (hl : ∀ d, g d = true → ∃ xs, d = .list xs) : PS X st (tAsg (tF G fun ρ => (m ρ).bind fun d ρ1 => .ok (d, g d) ρ1) (gName i)) := by
  refine wkS h fun E σ H ⟨ρ, r, q⟩ => ⟨ρ, r, q.bind.imp fun d ρ1 H1 r1 s1 h v H' nv => ?_⟩
  refine h H' (r1.grw nv.1) (Stp.grw nv.1) v nv.2.1 fun hf => ?_
  obtain ⟨xs, rfl⟩ := hl d hf
  obtain ⟨p, us, e1, e2, e3, e4, e5⟩ := nv.2.2 xs rfl
  refine ⟨xs, p, us, rfl, e1, s1.s.old (Nw.of e2), e3, e4, r1.more2 e2 nv.1 e3, e5.less fun a z => ?_⟩
  rcases z with (z | z) | z
  · exact .inl (.inl z)
  · exact .inr z
  · exact .inl (.inr z)
theorem newForm_list {e : CE} {d : D} (h : newForm e d = true) : ∃ xs, d = .list xs := by
  cases d with
  | list xs => exact ⟨xs, rfl⟩
  | _ => cases h
theorem newForm_no {e : CE} (h : isNew e = false) (d : D) : newForm e d = false := by
  cases d with
  | list xs => exact h
  | _ => rfl
def gen : CE → Bool
  | .var _ => false
  | .call .. => false
  | _ => true
theorem evR_gen {e : CE} (h : gen e = true) : evR c e = fun ρ => (evE c e ρ).bind fun d ρ1 => .ok (d, newForm e d) ρ1 := by
  cases e <;> first | rfl | cases h
theorem novar {e : CE} (h : gen e = true) {P : Nat → Prop} : ∀ i, e = .var i → P i := fun i q => by subst q; cases h
/-- a form that makes no new list -/
theorem ok_m {e : CE} (eK : X.K = G.K) (h : PE X x (tM G (evE c e))) (hp : plainTest x = true) (hg : gen e = true) (hn : isNew e = false) : EOK X G c e x :=
  ⟨h, m_tru eK h (tru_plain hp X.env), by rw [evR_gen hg]; exact f_of_m h (newForm_no hn), novar hg⟩
theorem ok_mt {e : CE} (h : PE X x (tM G (evE c e))) (ht : PT X x (tMb G fun ρ => (evE c e ρ).bind truR)) (hg : gen e = true) (hn : isNew e = false) : EOK X G c e x :=
  ⟨h, ht, by rw [evR_gen hg]; exact f_of_m h (newForm_no hn), novar hg⟩
theorem ok_n {e : CE} (eK : X.K = G.K) (h : PE X x (tN G (evE c e))) (hp : plainTest x = true) (hg : gen e = true) : EOK X G c e x := by
  have h' := wkE h fun σ H Q q => tN_tM q
  exact ⟨h', m_tru eK h' (tru_plain hp X.env), by rw [evR_gen hg]; exact f_of_n h fun d => newForm_list, novar hg⟩
/-- as a value only -/
theorem EOK.op {e : CE} (h : EOK X G c e x) : PE X x (tMq G (pq e (evE c e))) := q_of h.m h.v
end
section
variable {xs : Bool} {T : Tbl} {tab : Nat → FnDef} {c : CallT} {lim : Lv} {N : List Str}
theorem n_op {X : Cx} {G : Gv} {a b : Expr} {ma mb : Rho → Res D} {pos : Pos} (eK : X.K = G.K) (o : BOp) (ha : PE X a (tM G ma)) (hb : PE X b (tM G mb)) :
    PE X (.BinOp a (opOf o) b pos) (tN G fun ρ => (ma ρ).bind fun x ρ1 => (mb ρ1).bind fun y ρ2 => .opt (binD o x y) ρ2) := by
  cases o with
  | add => exact n_bin (by have := o_add (X := X); rw [eK] at this; exact this) (show Rz2 G.K (oAdd G.K) (binD .add) from fun H B x y d v w Q l r1 r2 e q => z_add H B x y d v w Q l r1 r2 (by cases x <;> cases y <;> exact e) q) ha hb
  | sub => exact n_bin op_sub z_sub ha hb
  | mul => exact n_bin o_mul (show Rz2 G.K oMul (binD .mul) from fun H B x y d v w Q l r1 r2 e q => z_mul H B x y d v w Q l r1 r2 (by cases x <;> cases y <;> exact e) q) ha hb
  | fdiv => exact n_bin op_fdiv z_fdiv ha hb
  | mod => exact n_bin op_mod z_mod ha hb
  | pow => exact n_bin op_pow z_pow ha hb
theorem boot_bt (b : Bt) : bootBuiltins (btName b) = some (btVal b) := by
  cases b <;> decide +kernel
theorem pg_names {X : Cx} {G : Gv} {s0 sc : Scope} (C : Cok xs T tab c lim N X G s0 sc) : ∀ (is : List Nat) (es : List Expr), es.length = is.length → ((is.zip es).all fun p => match p.2 with
      | .Name x _ => decide (N[p.1]? = some x) && stoB s0 sc x
      | _ => false) = true → PGs X es (gNames is) ∧ (assignEach es X.env).length = is.length ∧ (assignEach es X.env).findIdx? (·.1) = none
  | [], [], _, _ => ⟨pgs_nil, rfl, rfl⟩
  | [], _ :: _, h, _ => by cases h
  | _ :: _, [], h, _ => by cases h
  | i :: is, e :: es, hl, h => by
    rw [List.zip_cons_cons, List.all_cons, Bool.and_eq_true] at h
    obtain ⟨h1, h2⟩ := h
    obtain ⟨p1, p2, p3⟩ := pg_names C is es (by simpa using hl) h2
    cases e with
    | Name x pos =>
      have h1 : (decide (N[i]? = some x) && stoB s0 sc x) = true := h1
      rw [Bool.and_eq_true, decide_eq_true_eq] at h1
      refine ⟨pgs_cons (pg_name (by rw [C.eN]; exact C.nd) (by rw [C.eN]; exact h1.1) (by rw [C.esc]; exact loc_of h1.2) (C.stf h1.2)) p1 rfl, by show (assignEach es X.env).length + 1 = _; rw [p2]; rfl, ?_⟩
      show ((false, assign (.Name x pos) X.env) :: assignEach es X.env).findIdx? (·.1) = none
      rw [List.findIdx?_cons, p3]
      rfl
    | _ => cases h1
theorem pg_tg {X : Cx} {G : Gv} {s0 sc : Scope} (C : Cok xs T tab c lim N X G s0 sc) {tg : Tg} {x : Expr} (h : tgB N s0 sc tg x = true) : PG X x (gTg X.K tg) := by
  cases tg with
  | name i =>
    cases x with
    | Name y pos =>
      have h1 : (decide (N[i]? = some y) && stoB s0 sc y) = true := h
      rw [Bool.and_eq_true, decide_eq_true_eq] at h1
      exact pg_name (by rw [C.eN]; exact C.nd) (by rw [C.eN]; exact h1.1) (by rw [C.esc]; exact loc_of h1.2) (C.stf h1.2)
    | _ => cases h
  | tup is =>
    cases x with
    | Tuple es k pos =>
      have h1 : (decide (es.length = is.length) && (is.zip es).all fun p => match p.2 with
        | .Name x _ => decide (N[p.1]? = some x) && stoB s0 sc x
        | _ => false) = true := h
      rw [Bool.and_eq_true, decide_eq_true_eq] at h1
      obtain ⟨p1, p2, p3⟩ := pg_names C is es h1.1 h1.2
      exact ⟨fun pins s σ H v u Q I r hw => hw.elim (fun h => (pg_tup C.calm p1 p2 p3).run pins s σ H v u Q I r h) fun h => (pg_lst C.calm p1 p2 p3).run pins s σ H v u Q I r h⟩
    | _ => cases h
theorem folded {i : Expr} {env : Env} (h : notSet i = true) : ∀ x, foldedSetIterable i env x = pure x := fun x => by
  cases i <;> first | rfl | cases h
/-- the parts of a comprehension -/
structure CompOK (X : Cx) (G : Gv) (c : CallT) (own : List (Str × Nat)) (elt : CE) (tg : Tg) (it : CI) (cond : CO) (el t i : Expr) (ifs : List Expr) (scope : Scope) : Prop where
  hi : PI X t i (tMi G (evI c it))
  ok : BlkOk X.N X.env.scope scope own
  htg : ∀ j ∈ tg.ixs, j ∈ own.map (·.2)
  hg : ∀ (s : Shared) (H : Hp) (C : Addr) (cl : List (Str × Addr)) (fp : List Addr), PG (X.blk s H scope (compEnvC scope cl C X.env) fp) t (gTg X.K tg)
  ht : ∀ (s : Shared) (H : Hp) (C : Addr) (cl : List (Str × Addr)) (fp : List Addr), PTs (X.blk s H scope (compEnvC scope cl C X.env) fp) ifs (tMbx G (evC c cond))
  he : ∀ (s : Shared) (H : Hp) (C : Addr) (cl : List (Str × Addr)) (fp : List Addr), PE (X.blk s H scope (compEnvC scope cl C X.env) fp) el (tMx G (evE c elt))
  hs : notSet i = true
theorem CompOK.rdN {X : Cx} {G : Gv} {s0 sc : Scope} {own : List (Str × Nat)} {elt : CE} {tg : Tg} {it : CI} {cond : CO} {el t i : Expr} {ifs : List Expr} {scope : Scope} (C : Cok xs T tab c lim N X G s0 sc) (K : CompOK X G c own elt tg it cond el t i ifs scope) :
    ∀ σ H Q, tN G (evE c (.comp own elt tg it cond)) σ H Q → tLc (tMi G (evI c it)) (gTg X.K tg) (tMbx G (evC c cond)) (tMx G (evE c elt)) (own.map (·.2)) σ H Q :=
  n_comp C.eK C.calm (by rw [C.eN]; exact C.nd) K.hi K.ok K.htg K.hg K.ht K.he (pos := ⟨0, 0, 0, 0⟩)
theorem CompOK.pe {X : Cx} {G : Gv} {s0 sc : Scope} {own : List (Str × Nat)} {elt : CE} {tg : Tg} {it : CI} {cond : CO} {el t i : Expr} {ifs : List Expr} {scope : Scope} {pos : Pos} (C : Cok xs T tab c lim N X G s0 sc) (K : CompOK X G c own elt tg it cond el t i ifs scope) :
    PE X (.ListComp el [⟨t, i, ifs, 0⟩] scope pos) (tN G (evE c (.comp own elt tg it cond))) :=
  wkE (pe_lc C.calm (by rw [C.eN]; exact C.nd) K.hi K.ok K.hg K.ht K.he (folded K.hs)) (K.rdN C)
theorem andT {a b : Bool} (h : (a && b) = true) : a = true ∧ b = true := by rw [Bool.and_eq_true] at h; exact h
theorem key_call {f : Nat} {ms : List Bool} {es : CEs} {lim : Lv} {X : Cx} {G : Gv} {s0 sc : Scope} {y : Str} {p pos : Pos} {args : List Expr} (C : Cok xs T tab c lim N X G s0 sc) (h1 : (glB sc y && decide ((T.fns.take lim.n).lookup f = some y)) = true) (h2 : chkEs T lim N sc es args = true) (ks : EsOK X G c es args) : PE X (.Call (.Name y p) args [] pos) (tF G fun ρ => (evQs c es ρ).bind fun ps ρ1 => callP c f ms ps ρ1) := by
  obtain ⟨h5, h6⟩ := andT h1
  obtain ⟨hc, nr, k, fd, fps, F, hr, hgd, hm, hk, hb⟩ := C.fc.at (of_decide_eq_true h6)
  have F' : FnG nr X.prog X.w X.K X.mg X.base (L2.CX X.prog X.w) k (He.ga X.K y) fd fps (spF xs G.K G.XO tab f) := by have := F; rw [C.eK] at this ⊢; exact this
  cases es with
  | nil =>
    cases args with
    | nil => exact f_call0 C.xw C.eK hc F' hr hgd (C.gl h5) hm hk hb.1 C.tk (glB_of h5).2.1
    | cons _ _ => cases h2
  | cons e0 es0 =>
    cases args with
    | nil => cases h2
    | cons a0 r0 =>
      have h2' : (notStar a0 && chkE T lim N sc e0 a0 && chkEs T lim N sc es0 r0) = true := h2
      obtain ⟨h7, h8⟩ := andT h2'
      obtain ⟨h9, h10⟩ := andT h7
      exact f_call C.xw C.eK hc F' hr hgd (C.gl h5) hm hk hb.1 C.tk ks.q (glB_of h5).2.1 (star_cons h9) (by
        have := ks.st pos
        rw [star_cons h9] at this
        have : (false || (backTo pos (starEach r0 X.env)).any (·.1)) = false := this
        simpa using this)
mutual
theorem soundE : ∀ (e : CE) {lim : Lv} {X : Cx} {G : Gv} {s0 sc : Scope} {x : Expr}, Cok xs T tab c lim N X G s0 sc → chkE T lim N sc e x = true → EOK X G c e x
  | .con d, lim, X, G, s0, sc, x, C, h => by
    have h : conB d x = true := h
    cases x with
    | Constant k j pos =>
      cases d with
      | int i => cases k with
        | int i' => obtain rfl : i = i' := of_decide_eq_true h; exact ok_m C.eK (m_con pe_int fun _ _ => .int i) rfl rfl rfl
        | _ => cases h
      | bool i => cases k with
        | bool i' => obtain rfl : i = i' := of_decide_eq_true h; exact ok_m C.eK (m_con pe_bl fun _ _ => .bl i) rfl rfl rfl
        | _ => cases h
      | str i => cases k with
        | str i' => obtain rfl : i = i' := of_decide_eq_true h; exact ok_m C.eK (m_con pe_str fun _ _ => .str i) rfl rfl rfl
        | _ => cases h
      | none => cases k with
        | none => exact ok_m C.eK (m_con pe_non fun _ _ => .non) rfl rfl rfl
        | _ => cases h
      | _ => cases h
    | _ => cases d <;> cases h
  | .glo y d, lim, X, G, s0, sc, x, C, h => by
    have h : gloB T sc y d x = true := h
    cases x with
    | Name z pos =>
      obtain ⟨h1, h2⟩ := andT h
      obtain ⟨h3, h4⟩ := andT h1
      obtain rfl : y = z := of_decide_eq_true h3
      cases e1 : T.globs.lookup y with
      | none => rw [e1] at h2; cases h2
      | some d' =>
        rw [e1] at h2
        obtain rfl := sameD_eq h2
        obtain ⟨v, u, g1, g2, g3⟩ := C.fc.glo y d e1
        exact ok_m C.eK (m_con (pe_glob (C.gl h4) g1 g2 (glB_of h4).2.1) fun H B => by have := g3 H B; rw [C.eK] at this; exact this) rfl rfl rfl
    | _ => cases h
  | .var i, lim, X, G, s0, sc, x, C, h => by
    cases x with
    | Name y pos =>
      have hv : PE X (.Name y pos) (tVar i) := C.var (show varB N sc i y = true from h)
      have hm : PE X (.Name y pos) (tM G (evE c (.var i))) := m_var hv
      refine ⟨hm, m_tru C.eK hm (tru_plain rfl X.env), ?_, fun j q => by cases q; exact hv⟩
      refine wkE hv fun σ H Q ⟨ρ, r, q⟩ => ?_
      have q : post G σ ρ H (fun r ρ' H' => ∀ v, Rp G.K H' (G.B ρ' σ) r.1 v → (r.2 = true → Fre G ρ H ρ' H' σ r.1 v) → Q v H') (match ρ[i]? with
        | some (some (.own xs)) => Res.ok (PyData.list xs, true) (ρ.set i none)
        | some (some (.dat d)) => .ok (d, false) ρ
        | _ => .stuck) := q
      split at q
      · rename_i xs e
        obtain ⟨a, us, e1, e2, z, ra, nb⟩ := r.mu i xs (.inl e)
        have he : (ρ.set i none)[i]? = some none := get_set_self e
        have hm : ∀ j ys, mutAt (ρ.set i none) j ys → i ≠ j ∧ mutAt ρ j ys := fun j ys m => by
          by_cases q : i = j
          · subst q
            rcases m with m | m <;> (rw [he] at m; cases m)
          · unfold mutAt at m
            rw [List.getElem?_set_ne q] at m
            exact ⟨q, m⟩
        have ow : ∀ b, Own (ρ.set i none) σ b → Own ρ σ b := fun b ⟨j, ys, m, q⟩ => ⟨j, ys, (hm j ys m).2, q⟩
        have oa : Own ρ σ a := ⟨i, xs, .inl e, e1⟩
        have bs : ∀ b, Bs (fun x => G.B0 x ∨ x = a) (ρ.set i none) σ b → Bs G.B0 ρ σ b := fun b q => by
          rcases q with (q | q) | q
          · exact .inl q
          · exact .inr (by rw [q]; exact oa)
          · exact .inr (ow b q)
        have rl : Rl G.K (fun x => G.B0 x ∨ x = a) (ρ.set i none) σ H := by
          refine ⟨by rw [List.length_set]; exact r.len, fun j d q => ?_, fun j ys m => ?_, fun j k ys zs b m1 m2 => r.inj j k ys zs b (hm j ys m1).2 (hm k zs m2).2, fun b q => ?_, r.tab⟩
          · by_cases qi : i = j
            · subst qi; rw [he] at q; cases q
            · rw [List.getElem?_set_ne qi] at q
              obtain ⟨v, q1, q2⟩ := r.dat j d q
              exact ⟨v, q1, q2.less bs⟩
          · obtain ⟨ne, m⟩ := hm j ys m
            obtain ⟨b, ws, q1, q2, q3, q4, q5⟩ := r.mu j ys m
            refine ⟨b, ws, q1, q2, q3, q4.less bs, fun q => q.elim q5 fun q => ne (r.inj i j xs ys a (.inl e) m e1 (by rw [← q]; exact q1))⟩
          · exact q.elim (r.amb b) fun q => ⟨us, by rw [q]; exact e2⟩
        have rp : Rp G.K H (G.B (ρ.set i none) σ) (.list xs) (.ref a) := by
          refine .lst (.inl e2) (fun q => ?_) z (ra.less fun b q => bs b (q.imp .inl fun z => z))
          rcases q with q | ⟨j, ys, m, q⟩
          · exact nb q
          · obtain ⟨ne, m⟩ := hm j ys m
            exact ne (r.inj i j xs ys a (.inl e) m e1 q)
        have sp : Stp ρ H (ρ.set i none) H σ := ⟨Fr.refl, ow, fun j => by
          by_cases qi : i = j
          · subst qi; rw [he, e]; rfl
          · rw [List.getElem?_set_ne qi]⟩
        exact ⟨.ref a, e1, q H (rl.amb_less fun b q => .inl q) sp (.ref a) rp fun _ => ⟨xs, a, us, rfl, rfl, .inl oa, e2, z, rl, ra.less bs⟩⟩
      · rename_i d e
        obtain ⟨v, e1, rp⟩ := r.dat i d e
        exact ⟨v, e1, q H r Stp.refl v rp fun q => by cases q⟩
      · exact q.elim
    | _ => cases h
  | .bin o a b, lim, X, G, s0, sc, x, C, h => by
    cases x with
    | BinOp l op r pos =>
      obtain ⟨h1, h2⟩ := andT h
      obtain ⟨h3, h4⟩ := andT h1
      obtain rfl := of_decide_eq_true h3
      exact ok_n C.eK (n_op C.eK o (soundE a C h4).m (soundE b C h2).m) rfl rfl
    | _ => cases h
  | .neg a, lim, X, G, s0, sc, x, C, h => by
    cases x with
    | UnaryOp op e pos => cases op with
      | USub => exact ok_m C.eK (m_neg (soundE a C h).m) rfl rfl rfl
      | _ => cases h
    | _ => cases h
  | .cmp o a b, lim, X, G, s0, sc, x, C, h => by
    cases x with
    | Compare l ops rs pos =>
      match ops, rs, h with
      | [op], [r], h =>
        obtain ⟨h1, h2⟩ := andT h
        obtain ⟨h3, h4⟩ := andT h1
        obtain ⟨h5, h6⟩ := andT h3
        obtain rfl := of_decide_eq_true h5
        obtain ⟨k1, k2⟩ := m_cmp (pos := pos) (by have := C.fc.un; omega) C.eK rfl (soundE a C h6).op (soundE b C h4).op (by simpa using h2)
        exact ok_mt k1 k2 rfl rfl
    | _ => cases h
  | .cmp2 o p a b e, lim, X, G, s0, sc, x, C, h => by
    cases x with
    | Compare l ops rs pos =>
      match ops, rs, h with
      | [op, oq], [r, t], h =>
        obtain ⟨h1, h2⟩ := andT h
        obtain ⟨h3, h4⟩ := andT h1
        obtain ⟨h5, h6⟩ := andT h3
        obtain ⟨h7, h8⟩ := andT h5
        obtain ⟨h9, h10⟩ := andT h7
        obtain rfl := of_decide_eq_true h9
        obtain rfl := of_decide_eq_true h10
        obtain ⟨k1, k2⟩ := m_chain (pos := pos) (by have := C.fc.un; omega) C.eK rfl rfl (soundE a C h8).m (soundE b C h6).m (soundE e C h4).m (by simpa using h2)
        exact ok_mt k1 k2 rfl rfl
    | _ => cases h
  | .and es, lim, X, G, s0, sc, x, C, h => by
    cases x with
    | BoolOp op vs pos => cases op with
      | And =>
        obtain ⟨h1, h2⟩ := andT h
        obtain ⟨k1, k2⟩ := (soundEs es C h1).and_ pos (by intro q; subst q; cases h2)
        exact ok_mt k1 k2.pt rfl rfl
      | _ => cases h
    | _ => cases h
  | .or es, lim, X, G, s0, sc, x, C, h => by
    cases x with
    | BoolOp op vs pos => cases op with
      | Or =>
        obtain ⟨h1, h2⟩ := andT h
        obtain ⟨k1, k2⟩ := (soundEs es C h1).or_ pos (by intro q; subst q; cases h2)
        exact ok_mt k1 k2.pt rfl rfl
      | _ => cases h
    | _ => cases h
  | .not a, lim, X, G, s0, sc, x, C, h => by
    cases x with
    | UnaryOp op e pos => cases op with
      | Not =>
        have k := soundE a C h
        obtain ⟨k1, k2⟩ := m_not (pos := pos) C.eK k.m k.t
        exact ok_mt k1 k2 rfl rfl
      | _ => cases h
    | _ => cases h
  | .ite t a b, lim, X, G, s0, sc, x, C, h => by
    cases x with
    | IfExp ct ca cb pos =>
      obtain ⟨h1, h2⟩ := andT h
      obtain ⟨h3, h4⟩ := andT h1
      have ka := soundE a C h4
      have kb := soundE b C h2
      obtain ⟨k1, k2⟩ := m_ite (pos := pos) (soundE t C h3).t ka.m kb.m ka.t kb.t
      exact ok_mt k1 k2 rfl rfl
    | _ => cases h
  | .tup es, lim, X, G, s0, sc, x, C, h => by
    cases x with
    | Tuple vs k pos =>
      obtain ⟨h1, h2⟩ := andT h
      have ks := soundEs es C h1
      exact ok_n C.eK (n_tup ks.a fun ρ xs ρ' e => by rw [ks.len ρ xs ρ' e]; exact of_decide_eq_true h2) rfl rfl
    | _ => cases h
  | .lst es, lim, X, G, s0, sc, x, C, h => by
    cases x with
    | List vs pos =>
      obtain ⟨h1, h2⟩ := andT h
      have ks := soundEs es C h1
      exact ok_n C.eK (n_lst ks.a fun ρ xs ρ' e => by rw [ks.len ρ xs ρ' e]; exact of_decide_eq_true h2) rfl rfl
    | _ => cases h
  | .idx a i, lim, X, G, s0, sc, x, C, h => by
    cases x with
    | Subscript o j pos =>
      obtain ⟨h1, h2⟩ := andT h
      obtain ⟨h3, h4⟩ := andT h1
      exact ok_m C.eK (m_idx C.eK (soundE a C h3).op (soundE i C h4).m (fun _ _ => by cases j <;> first | rfl | cases h2)) rfl rfl rfl
    | _ => cases h
  | .slc a lo hi, lim, X, G, s0, sc, x, C, h => by
    cases x with
    | Subscript o j pos =>
      cases j with
      | Slice l hh st p2 =>
        cases st with
        | none =>
          obtain ⟨h1, h2⟩ := andT h
          obtain ⟨h3, h4⟩ := andT h1
          exact ok_n C.eK (n_slc C.eK (soundE a C h3).op (soundO lo C h4) (soundO hi C h2)) rfl rfl
        | some _ => cases h
      | _ => cases h
    | _ => cases h
  | .rev a, lim, X, G, s0, sc, x, C, h => by
    cases x with
    | Subscript o j pos =>
      match j, h with
      | .Slice none none (some (.UnaryOp .USub (.Constant (.int i) _ _) _)) _, h =>
        obtain ⟨h1, h2⟩ := andT h
        obtain rfl := of_decide_eq_true h1
        exact ok_n C.eK (n_rev C.eK (soundE a C h2).op) rfl rfl
    | _ => cases h
  | .comp own elt tg it cond, lim, X, G, s0, sc, x, C, h => by
    cases x with
    | ListComp el gs scope pos =>
      match gs, h with
      | [⟨t, i, ifs, as⟩], h =>
        obtain ⟨h1, h2⟩ := andT h
        obtain ⟨h3, h4⟩ := andT h1
        obtain ⟨h5, h6⟩ := andT h3
        obtain ⟨h7, h8⟩ := andT h5
        obtain ⟨h9, h10⟩ := andT h7
        obtain ⟨h11, h12⟩ := andT h9
        obtain ⟨h13, h14⟩ := andT h11
        obtain rfl := of_decide_eq_true h13
        have K : CompOK X G c own elt tg it cond el t i ifs scope := by
          refine ⟨soundI it C h6, blkOk_by (by rw [C.eN, C.esc]; exact h14), fun j hj => ?_, fun s H A cl fp => pg_tg (C.blk s H scope cl A fp (fun _ => False)) h10, fun s H A cl fp => ⟨fun pins s' σ H' Q I ⟨B, q⟩ => (soundT cond (C.blk s H scope cl A fp B) h4).run pins s' σ H' Q I q⟩, fun s H A cl fp => ⟨fun pins s' σ H' Q I ⟨B, q⟩ => (soundE elt (C.blk s H scope cl A fp B) h2).m.run pins s' σ H' Q I q⟩, h8⟩
          have := List.all_eq_true.mp h12 j hj
          exact List.contains_iff_mem.mp this
        exact ok_n C.eK (K.pe C) rfl rfl
    | _ => cases h
  | .call f ms es, lim, X, G, s0, sc, x, C, h => by
    cases x with
    | Call fx args kw pos =>
      cases fx with
      | Name y p =>
        cases kw with
        | nil =>
          obtain ⟨h1, h2⟩ := andT h
          obtain ⟨h5, h6⟩ := andT h1
          obtain ⟨hc, nr, k, fd, fps, F, hr, hgd, hm, hk, hb⟩ := C.fc.at (of_decide_eq_true h6)
          have ks := soundEs es C h2
          have F' : FnG nr X.prog X.w X.K X.mg X.base (L2.CX X.prog X.w) k (He.ga X.K y) fd fps (spF xs G.K G.XO tab f) := by have := F; rw [C.eK] at this ⊢; exact this
          have key : PE X (.Call (.Name y p) args [] pos) (tF G fun ρ => (evQs c es ρ).bind fun ps ρ1 => callP c f ms ps ρ1) := by
            cases es with
            | nil =>
              cases args with
              | nil => exact f_call0 C.xw C.eK hc F' hr hgd (C.gl h5) hm hk hb.1 C.tk (glB_of h5).2.1
              | cons _ _ => cases h2
            | cons e0 es0 =>
              cases args with
              | nil => cases h2
              | cons a0 r0 =>
                have h2' : (notStar a0 && chkE T lim N sc e0 a0 && chkEs T lim N sc es0 r0) = true := h2
                obtain ⟨h7, h8⟩ := andT h2'
                obtain ⟨h9, h10⟩ := andT h7
                exact f_call C.xw C.eK hc F' hr hgd (C.gl h5) hm hk hb.1 C.tk ks.q (glB_of h5).2.1 (star_cons h9) (by
                  have := ks.st pos
                  rw [star_cons h9] at this
                  have : (false || (backTo pos (starEach r0 X.env)).any (·.1)) = false := this
                  simpa using this)
          have hm2 : PE X (.Call (.Name y p) args [] pos) (tM G (evE c (.call f ms es))) := wkE key fun σ H Q q => tF_of_tM (by
            obtain ⟨ρ, r, q⟩ := q
            exact ⟨ρ, r, by dsimp only; rw [Res.bind_assoc]; exact q⟩)
          exact ⟨hm2, m_tru C.eK hm2 (tru_plain rfl X.env), key, fun i q => by cases q⟩
        | cons kw0 kws =>
          cases args with
          | cons _ _ => cases h
          | nil =>
            have h : (glB sc y && decide ((T.fns.take lim.n).lookup f = some y) && chkEs T lim N sc es ((kw0 :: kws).map (·.value)) && kwB T y (kw0 :: kws)) = true := h
            obtain ⟨h0, h4⟩ := andT h
            obtain ⟨h1, h2⟩ := andT h0
            obtain ⟨h5, h6⟩ := andT h1
            obtain ⟨hc, nr, k, fd, fps, F, hr, hgd, hm, hk, hb⟩ := C.fc.at (of_decide_eq_true h6)
            have ks := soundEs es C h2
            have F' : FnG nr X.prog X.w X.K X.mg X.base (L2.CX X.prog X.w) k (He.ga X.K y) fd fps (spF xs G.K G.XO tab f) := by have := F; rw [C.eK] at this ⊢; exact this
            obtain ⟨b1, b2⟩ := kwB_of h4 hb
            have key : PE X (.Call (.Name y p) [] (kw0 :: kws) pos) (tF G fun ρ => (evQs c es ρ).bind fun ps ρ1 => callP c f ms ps ρ1) := f_callK C.xw C.eK hc F' hr hgd (C.gl h5) hm hk b2 C.tk (ks.k _ rfl) b1 (glB_of h5).2.1
            have hm2 : PE X (.Call (.Name y p) [] (kw0 :: kws) pos) (tM G (evE c (.call f ms es))) := wkE key fun σ H Q q => tF_of_tM (by
              obtain ⟨ρ, r, q⟩ := q
              exact ⟨ρ, r, by dsimp only; rw [Res.bind_assoc]; exact q⟩)
            exact ⟨hm2, m_tru C.eK hm2 (tru_plain rfl X.env), key, fun i q => by cases q⟩
      | _ => cases h
    | _ => cases h
  | .callT f g ms es k, lim, X, G, s0, sc, x, C, h => by
    match x, h with
    | .Call (.Name y p) [.Call (.Name z pz) args [] pq, .Constant (.int k') kj kp] [] pos, h =>
      have h : (glB sc y && decide ((T.fns.take lim.n).lookup f = some y) && (glB sc z && decide ((T.fns.take lim.n).lookup g = some z) && chkEs T lim N sc es args) && decide (k = k')) = true := h
      obtain ⟨h1, h2⟩ := andT h
      obtain ⟨h3, h4⟩ := andT h1
      obtain ⟨h5, h6⟩ := andT h3
      obtain ⟨h7, h8⟩ := andT h4
      obtain rfl := of_decide_eq_true h2
      obtain ⟨hc, nr, kk, fd, fps, F, hr, hgd, hm, hk, hb⟩ := C.fc.at (of_decide_eq_true h6)
      have F' : FnG nr X.prog X.w X.K X.mg X.base (L2.CX X.prog X.w) kk (He.ga X.K y) fd fps (spF xs G.K G.XO tab f) := by have := F; rw [C.eK] at this ⊢; exact this
      have key := key_call (ms := ms) (p := pz) (pos := pq) C h7 h8 (soundEs es C h8)
      have hm2 : PE X (.Call (.Name y p) [.Call (.Name z pz) args [] pq, .Constant (.int k) kj kp] [] pos) (tM G (evE c (.callT f g ms es k))) := wkE (m_callT (kk := k) hc F' hr hgd (C.gl h5) hm hk hb.1 key (glB_of h5).2.1 (star_cons rfl)) fun σ H Q q => by
        obtain ⟨ρ, r, q⟩ := q
        exact ⟨ρ, r, by dsimp only; rw [Res.bind_assoc]; exact q⟩
      exact ok_m C.eK hm2 rfl rfl rfl
  | .blt b es, lim, X, G, s0, sc, x, C, h => by
    cases x with
    | Call fx args kw pos =>
      cases fx with
      | Name y p =>
        cases kw with
        | nil =>
          obtain ⟨h0, hrp⟩ := andT h
          obtain ⟨h1, h2⟩ := andT h0
          obtain ⟨h3, h4⟩ := andT h1
          obtain ⟨h5, h6⟩ := andT h3
          obtain ⟨g1, g2⟩ := fiB_of h5
          obtain rfl := of_decide_eq_true h6
          have hrg : isRepr b = true → X.A.guards = some [] := fun z => C.fc.gd (by rw [z] at hrp; simpa using hrp)
          have ks := soundEs es C h4
          cases args with
          | nil => cases h2
          | cons a0 r0 =>
            have hst : notStar a0 = true := by
              cases es with
              | nil => cases h4
              | cons e0 es0 =>
                have h4' : (notStar a0 && chkE T lim N sc e0 a0 && chkEs T lim N sc es0 r0) = true := h4
                exact (andT (andT h4').1).1
            exact ok_n C.eK (n_bt C.eK C.calm C.fc.un hrg (C.gl g1) (C.fc.free _ g2) (boot_bt b) ks.q (glB_of g1).2.2 (glB_of g1).2.1 (star_cons hst) (by
              have := ks.st pos
              rw [star_cons hst] at this
              have : (false || (backTo pos (starEach r0 X.env)).any (·.1)) = false := this
              simpa using this)) rfl rfl
        | cons _ _ => cases h
      | _ => cases h
    | _ => cases h
  | .isi ty a, lim, X, G, s0, sc, x, C, h => by
    cases x with
    | Call fx args kw pos =>
      match fx, args, kw, h with
      | .Name y p, [e, .Name t p1], [], h =>
        obtain ⟨h1, h2⟩ := andT h
        obtain ⟨h3, h4⟩ := andT h1
        obtain ⟨h5, h6⟩ := andT h3
        obtain ⟨h7, h8⟩ := andT h5
        obtain ⟨h9, h10⟩ := andT h7
        obtain rfl := of_decide_eq_true h10
        obtain rfl := of_decide_eq_true h6
        obtain ⟨g1, g2⟩ := fiB_of h9
        obtain ⟨g3, g4⟩ := fiB_of h8
        have hbt : bootBuiltins (tyStr ty : Str) = some (.type (tyStr ty)) := by cases ty <;> decide +kernel
        exact ok_m C.eK (m_isi (p := p) (p1 := p1) (p2 := p) C.eK (C.gl g1) (C.fc.free _ g2) (C.gl g3) (C.fc.free _ g4) hbt (soundE a C h4).op (star_cons h2) (glB_of g3).2.2 (glB_of g3).2.1) rfl rfl rfl
    | _ => cases h
  | .sset a, lim, X, G, s0, sc, x, C, h => by
    cases x with
    | Call fx args kw pos =>
      match fx, args, kw, h with
      | .Name y p, [.Call (.Name z p1) [e] [] p2], [], h =>
        obtain ⟨h1, h2⟩ := andT h
        obtain ⟨h3, h4⟩ := andT h1
        obtain ⟨h5, h6⟩ := andT h3
        obtain ⟨h7, h8⟩ := andT h5
        obtain ⟨h9, h10⟩ := andT h7
        obtain rfl := of_decide_eq_true h10
        obtain rfl := of_decide_eq_true h6
        obtain ⟨g1, g2⟩ := fiB_of h9
        obtain ⟨g3, g4⟩ := fiB_of h8
        exact ok_n C.eK (n_sset (p3 := p) C.eK C.calm (C.gl g1) (C.fc.free _ g2) (C.gl g3) (C.fc.free _ g4) (soundE a C h4).op (star_cons h2)) rfl rfl
    | _ => cases h
  | .lset a, lim, X, G, s0, sc, x, C, h => by
    cases x with
    | Call fx args kw pos =>
      match fx, args, kw, h with
      | .Name y p, [.Call (.Name z p1) [e] [] p2], [], h =>
        obtain ⟨h1, h2⟩ := andT h
        obtain ⟨h3, h4⟩ := andT h1
        obtain ⟨h5, h6⟩ := andT h3
        obtain ⟨h7, h8⟩ := andT h5
        obtain ⟨h9, h10⟩ := andT h7
        obtain rfl := of_decide_eq_true h10
        obtain rfl := of_decide_eq_true h6
        obtain ⟨g1, g2⟩ := fiB_of h9
        obtain ⟨g3, g4⟩ := fiB_of h8
        exact ok_m C.eK (m_lset (p3 := p) C.eK C.calm (C.gl g1) (C.fc.free _ g2) (C.gl g3) (C.fc.free _ g4) (soundE a C h4).op (star_cons h2)) rfl rfl rfl
    | _ => cases h
  | .index a b, lim, X, G, s0, sc, x, C, h => by
    cases x with
    | Call fx args kw pos =>
      match fx, args, kw, h with
      | .Attribute o at_ ap, [e], [], h =>
        obtain ⟨h1, h2⟩ := andT h
        obtain ⟨h3, h4⟩ := andT h1
        obtain ⟨h5, h6⟩ := andT h3
        obtain ⟨h7, h8⟩ := andT h5
        obtain ⟨h9, h10⟩ := andT h7
        obtain rfl := of_decide_eq_true h9
        exact ok_m C.eK (m_index C.eK C.fc.un (soundE a C h10).op (soundE b C h8).m (base_ok h2) (by rw [star_cons h6]; rfl) h4 (star_cons h6) rfl) rfl rfl rfl
    | _ => cases h
  | .join a b, lim, X, G, s0, sc, x, C, h => by
    cases x with
    | Call fx args kw pos =>
      match fx, args, kw, h with
      | .Attribute o at_ ap, [e], [], h =>
        obtain ⟨h1, h2⟩ := andT h
        obtain ⟨h3, h4⟩ := andT h1
        obtain ⟨h5, h6⟩ := andT h3
        obtain ⟨h7, h8⟩ := andT h5
        obtain ⟨h9, h10⟩ := andT h7
        obtain rfl := of_decide_eq_true h9
        exact ok_m C.eK (m_join C.eK (soundE a C h10).m (soundE b C h8).m (base_ok h2) h4 (star_cons h6)) rfl rfl rfl
    | _ => cases h
  | .split a b, lim, X, G, s0, sc, x, C, h => by
    cases x with
    | Call fx args kw pos =>
      match fx, args, kw, h with
      | .Attribute o at_ ap, [e], [], h =>
        obtain ⟨h1, h2⟩ := andT h
        obtain ⟨h3, h4⟩ := andT h1
        obtain ⟨h5, h6⟩ := andT h3
        obtain ⟨h7, h8⟩ := andT h5
        obtain ⟨h9, h10⟩ := andT h7
        obtain rfl := of_decide_eq_true h9
        exact ok_m C.eK (m_split C.eK (soundE a C h10).m (soundE b C h8).m (base_ok h2) h4 (star_cons h6)) rfl rfl rfl
    | _ => cases h
  | .tupR3 a b d, lim, X, G, s0, sc, x, C, h => by
    cases x with
    | Call fx args kw pos =>
      match fx, args, kw, h with
      | .Name y p, [.Call (.Name z p1) [e, f, g] [] p2], [], h =>
        obtain ⟨h1, n3⟩ := andT h
        obtain ⟨h2, c3⟩ := andT h1
        obtain ⟨h3, n2⟩ := andT h2
        obtain ⟨h4, c2⟩ := andT h3
        obtain ⟨h5, n1⟩ := andT h4
        obtain ⟨h6, c1⟩ := andT h5
        obtain ⟨h7, h8⟩ := andT h6
        obtain ⟨h9, h10⟩ := andT h7
        obtain ⟨h11, h12⟩ := andT h9
        obtain rfl := of_decide_eq_true h12
        obtain rfl := of_decide_eq_true h8
        obtain ⟨g1, g2⟩ := fiB_of h11
        obtain ⟨g3, g4⟩ := fiB_of h10
        exact ok_n C.eK (n_tupR3 C.calm (C.gl g1) (C.fc.free _ g2) (C.gl g3) (C.fc.free _ g4) (soundE a C c1).m (soundE b C c2).m (soundE d C c3).m (star_cons n1) (star_cons n2) (star_cons n3)) rfl rfl
    | _ => cases h
  | .tupR a, lim, X, G, s0, sc, x, C, h => by
    cases x with
    | Call fx args kw pos =>
      match fx, args, kw, h with
      | .Name y p, [.Call (.Name z p1) [e] [] p2], [], h =>
        obtain ⟨h1, h2⟩ := andT h
        obtain ⟨h3, h4⟩ := andT h1
        obtain ⟨h5, h6⟩ := andT h3
        obtain ⟨h7, h8⟩ := andT h5
        obtain ⟨h9, h10⟩ := andT h7
        obtain rfl := of_decide_eq_true h10
        obtain rfl := of_decide_eq_true h6
        obtain ⟨g1, g2⟩ := fiB_of h9
        obtain ⟨g3, g4⟩ := fiB_of h8
        exact ok_n C.eK (n_tupR C.calm (C.gl g1) (C.fc.free _ g2) (C.gl g3) (C.fc.free _ g4) (soundE a C h4).m (star_cons h2)) rfl rfl
    | _ => cases h
  | .count a b, lim, X, G, s0, sc, x, C, h => by cases h
  | .dct, lim, X, G, s0, sc, x, C, h => by
    match x, h with
    | .Dict [some (.Constant (.str _) _ _)] [.Constant (.int _) _ _] _, h =>
      obtain ⟨h1, h2⟩ := andT h
      obtain rfl := of_decide_eq_true h1
      obtain rfl := of_decide_eq_true h2
      refine ok_m C.eK (wkE (pe_disp (pps_cons pe_str pe_int pps_nil) rfl rfl (by simp) (show 1 ≤ 15 by decide)) fun σ H Q ⟨ρ, r, q⟩ p np => ⟨upd_same, [(Sum.inr _, .int _)], rfl, (show 1 ≤ 15 by decide), ?_⟩) rfl rfl rfl
      refine (post.ok q r).2 _ (fun a o e _ => ?_) _ (.dct upd_same)
      have ne : a ≠ p := fun z => by rw [z, np] at e; cases e
      rw [upd_ne ne, upd_ne ne]; exact e
  | .fnv id y, lim, X, G, s0, sc, x, C, h => by
    cases x with
    | Name z pos =>
      obtain ⟨h1, h2⟩ := andT h
      obtain ⟨h3, h4⟩ := andT h1
      obtain rfl : y = z := of_decide_eq_true h4
      obtain ⟨hc, nr, k, fd, fps, F, hr, hgd, hm, hk, hb⟩ := C.fc.at (of_decide_eq_true h2)
      exact ok_m C.eK (m_con (pe_glob (v := .ref (He.ga X.K y)) (C.gl h3) hm rfl (glB_of h3).2.1) fun H B => by rw [C.eK]; exact .fn id y) rfl rfl rfl
    | _ => cases h
  | .callv al i es, lim, X, G, s0, sc, x, C, h => by
    cases x with
    | Call fx args kw pos =>
      cases fx with
      | Name y p =>
        cases kw with
        | nil =>
          obtain ⟨h1, h2⟩ := andT h
          obtain ⟨h3, h4⟩ := andT h1
          obtain ⟨h5, h6⟩ := andT h3
          have ks := soundEs es C h4
          cases args with
          | nil => cases h2
          | cons a0 r0 =>
            have hst : notStar a0 = true := by
              cases es with
              | nil => cases h4
              | cons e0 es0 => exact (andT (andT (show (notStar a0 && chkE T lim N sc e0 a0 && chkEs T lim N sc es0 r0) = true from h4)).1).1
            refine ok_m C.eK ⟨fun pins s σ H Q I ⟨ρ, r, q⟩ => ?_⟩ rfl rfl rfl
            have q : post G σ ρ H (fun d ρ' H' => ∀ v, Rp G.K H' (G.B ρ' σ) d v → Q v H') (match (pk ρ i).bind fnOf with
              | some q => if al.contains q = true then (evQs c es ρ).bind fun ps ρ1 => (callP c q.1 (ps.map fun _ => false) ps ρ1).bind fun r ρ2 => .ok r.1 ρ2 else .stuck
              | none => .stuck) := q
            cases ef : (pk ρ i).bind fnOf with
            | none => rw [ef] at q; exact q.elim
            | some qq =>
              rw [ef] at q
              obtain ⟨id, z⟩ := qq
              by_cases hal : al.contains (id, z) = true
              case neg => have q := (show post G σ ρ H _ (if al.contains (id, z) = true then _ else _) from q); rw [if_neg hal] at q; exact q.elim
              have q := (show post G σ ρ H _ (if al.contains (id, z) = true then _ else _) from q)
              rw [if_pos hal] at q
              obtain ⟨d, e1, e2⟩ := Option.bind_eq_some_iff.mp ef
              obtain ⟨v, e3, ro⟩ := pk_ok r e1
              have hf : (T.fns.take lim.n).lookup id = some z := of_decide_eq_true (List.all_eq_true.mp h6 _ (List.contains_iff_mem.mp hal))
              obtain ⟨hc, nr, k, fd, fps, F, hr, hgd, hm, hk, hb⟩ := C.fc.at hf
              have ev : v = .ref (He.ga G.K z) := by
                cases ro with
                | fn id' z' =>
                  have : fnOf (fnD id' z') = some (id', z') := by unfold fnD fnOf; simp
                  rw [this] at e2
                  cases e2
                  rfl
                | dct => cases e2
                | _ => cases e2
              subst ev
              have F' : FnG nr X.prog X.w X.K X.mg X.base (L2.CX X.prog X.w) k (He.ga X.K z) fd fps (spF xs G.K G.XO tab id) := by have := F; rw [C.eK] at this ⊢; exact this
              refine (pe_callVG F' hr hgd (C.var h5) hk hb.1 C.tk ks.q (star_cons hst) (by
                have := ks.st pos
                rw [star_cons hst] at this
                have : (false || (backTo pos (starEach r0 X.env)).any (·.1)) = false := this
                simpa using this)).run pins s σ H Q I ⟨by rw [C.eK]; exact e3, ρ, r, ?_⟩
              refine q.bind.imp fun ps ρ1 H1 r1 s1 hq vs pr => ?_
              exact r_call (ms := ps.map fun _ => false) C.xw hc σ H1 Q ρ1 ps vs r1 pr (hq.bind.imp fun rr ρ2 H2 r2 s2 hz v rp _ => (post.ok hz r2).1 v rp)
        | cons kw0 kws =>
          cases args with
          | cons _ _ => cases h
          | nil =>
            have h : (varB N sc i y && al.all (fun q => decide ((T.fns.take lim.n).lookup q.1 = some q.2)) && chkEs T lim N sc es ((kw0 :: kws).map (·.value)) && al.all (fun q => kwB T q.2 (kw0 :: kws))) = true := h
            obtain ⟨h1, h2⟩ := andT h
            obtain ⟨h3, h4⟩ := andT h1
            obtain ⟨h5, h6⟩ := andT h3
            have ks := soundEs es C h4
            refine ok_m C.eK ⟨fun pins s σ H Q I ⟨ρ, r, q⟩ => ?_⟩ rfl rfl rfl
            have q : post G σ ρ H (fun d ρ' H' => ∀ v, Rp G.K H' (G.B ρ' σ) d v → Q v H') (match (pk ρ i).bind fnOf with
              | some q => if al.contains q = true then (evQs c es ρ).bind fun ps ρ1 => (callP c q.1 (ps.map fun _ => false) ps ρ1).bind fun r ρ2 => .ok r.1 ρ2 else .stuck
              | none => .stuck) := q
            cases ef : (pk ρ i).bind fnOf with
            | none => rw [ef] at q; exact q.elim
            | some qq =>
              rw [ef] at q
              obtain ⟨id, z⟩ := qq
              by_cases hal : al.contains (id, z) = true
              case neg => have q := (show post G σ ρ H _ (if al.contains (id, z) = true then _ else _) from q); rw [if_neg hal] at q; exact q.elim
              have q := (show post G σ ρ H _ (if al.contains (id, z) = true then _ else _) from q)
              rw [if_pos hal] at q
              obtain ⟨d, e1, e2⟩ := Option.bind_eq_some_iff.mp ef
              obtain ⟨v, e3, ro⟩ := pk_ok r e1
              have hf : (T.fns.take lim.n).lookup id = some z := of_decide_eq_true (List.all_eq_true.mp h6 _ (List.contains_iff_mem.mp hal))
              obtain ⟨hc, nr, k, fd, fps, F, hr, hgd, hm, hk, hb⟩ := C.fc.at hf
              obtain ⟨b1, b2⟩ := kwB_of (List.all_eq_true.mp h2 _ (List.contains_iff_mem.mp hal)) hb
              have ev : v = .ref (He.ga G.K z) := by
                cases ro with
                | fn id' z' =>
                  have : fnOf (fnD id' z') = some (id', z') := by unfold fnD fnOf; simp
                  rw [this] at e2
                  cases e2
                  rfl
                | dct => cases e2
                | _ => cases e2
              subst ev
              have F' : FnG nr X.prog X.w X.K X.mg X.base (L2.CX X.prog X.w) k (He.ga X.K z) fd fps (spF xs G.K G.XO tab id) := by have := F; rw [C.eK] at this ⊢; exact this
              refine (pe_callVGK F' hr hgd (C.var h5) hk b2 C.tk (ks.k _ rfl) b1).run pins s σ H Q I ⟨by rw [C.eK]; exact e3, ρ, r, ?_⟩
              refine q.bind.imp fun ps ρ1 H1 r1 s1 hq vs pr => ?_
              exact r_call (ms := ps.map fun _ => false) C.xw hc σ H1 Q ρ1 ps vs r1 pr (hq.bind.imp fun rr ρ2 H2 r2 s2 hz v rp _ => (post.ok hz r2).1 v rp)
      | _ => cases h
    | _ => cases h
  | .said e, lim, X, G, s0, sc, x, C, h => by
    cases x with
    | Call fx args kw pos =>
      match fx, args, kw, h with
      | .Name y p, [.Lambda ps body scope lp], [], h =>
        obtain ⟨h1, h2⟩ := andT h
        obtain ⟨h3, h4⟩ := andT h1
        obtain ⟨h5, h6⟩ := andT h3
        obtain ⟨h7, h8⟩ := andT h5
        obtain ⟨h9, h10⟩ := andT h7
        obtain rfl := of_decide_eq_true h10
        obtain ⟨hxs, SF, eX⟩ := C.fc.sd h9
        obtain ⟨hrm, cc, P, TB, hcode, hmT, hu⟩ := C.lam h9
        have L : LamX.LamS X.env.scope scope := by rw [C.esc]; exact LamX.lamS_by h4
        have hps : ps = ⟨[], [], none, [], [], none, []⟩ := by
          unfold noArgs at h6
          simp only [Bool.and_eq_true, List.isEmpty_iff, Option.isNone_iff_eq_none] at h6
          obtain ⟨a1, a2, a3, a4, a5, a6, a7⟩ := ps
          obtain ⟨⟨⟨⟨⟨⟨rfl, rfl⟩, rfl⟩, rfl⟩, rfl⟩, rfl⟩, rfl⟩ := h6
          rfl
        subst hps
        refine ok_m C.eK (m_said SF C.eK (by rw [eX, C.eK]) hrm (C.gl h8) TB hcode hmT hu L rfl (fun q cl pm cv ctv => rfl) fun A outer s H E f c' hr => ?_) rfl rfl rfl
        have C' : Cok xs T tab c ⟨min lim.n T.rlim, false, true⟩ N (LamX.lamCx X A outer s H E scope f c') { G with W := some fun c d _ H => E c d H } scope scope := by
          refine ⟨C.eK, C.eN, C.nd, rfl, rfl, (fun z => by rw [hxs] at z; cases z), ⟨?_, (fun z => by cases z), fun _ => Nat.min_le_right _ _, hr.mono (by show 3 * min lim.n T.rlim ≤ _; omega), C.fc.free, C.fc.glo, fun q id x hq e => C.fc.fn q id x (Nat.lt_of_lt_of_le hq (Nat.min_le_left _ _)) e, (fun z => by cases z)⟩, fun x hx => ?_, fun σ => ?_, (fun z => by cases z)⟩
          · have := hr.un
            show (A.deeper (LamX.lamEnv X scope s.heap.objs.size f c')).units + 70 < cLine
            omega
          · exact absurd rfl (L.own _ (PySem.mem_of_lookup hx)).2
          · exact passAt (W := fun c d _ H => E c d H) (takes_of rfl rfl rfl rfl) σ
        exact (soundE e C' h2).m
    | _ => cases h
theorem soundEs : ∀ (es : CEs) {lim : Lv} {X : Cx} {G : Gv} {s0 sc : Scope} {ys : List Expr}, Cok xs T tab c lim N X G s0 sc → chkEs T lim N sc es ys = true → EsOK X G c es ys
  | .nil, lim, X, G, s0, sc, xs, C, h => by
    cases xs with
    | nil => exact ⟨ms_nil, qs_nil, (fun kws q => by
        cases kws with
        | nil => exact qk_nil
        | cons _ _ => cases q), fun ρ ds ρ' e => by cases e; rfl, fun _ q => absurd rfl q, fun _ q => absurd rfl q, fun _ => rfl⟩
    | cons _ _ => cases h
  | .cons e es, lim, X, G, s0, sc, xs, C, h => by
    cases xs with
    | nil => cases h
    | cons x r =>
      have h' : (notStar x && chkE T lim N sc e x && chkEs T lim N sc es r) = true := h
      obtain ⟨h1, h2⟩ := andT h'
      obtain ⟨h3, h4⟩ := andT h1
      have k := soundE e C h4
      have ks := soundEs es C h2
      refine ⟨ms_cons k.m ks.a (star_cons h3), qs_cons k.op ks.q (star_cons h3), (fun kws q => by
        cases kws with
        | nil => cases q
        | cons kw0 kws =>
          obtain ⟨nm, v, kp⟩ := kw0
          obtain ⟨rfl, q2⟩ := List.cons.inj (show v :: kws.map (·.value) = x :: r from q)
          exact qk_cons k.op (ks.k kws q2)), fun ρ ds ρ' e0 => ?_, fun pos _ => ?_, fun pos _ => ?_, fun pos => ?_⟩
      · have e0 : ((evE c e ρ).bind fun x ρ1 => (evEs c es ρ1).bind fun xs ρ2 => .ok (x :: xs) ρ2) = .ok ds ρ' := e0
        cases e1 : evE c e ρ with
        | ok d ρ1 =>
          rw [e1] at e0
          have e0 : ((evEs c es ρ1).bind fun xs ρ2 => .ok (d :: xs) ρ2) = .ok ds ρ' := e0
          cases e2 : evEs c es ρ1 with
          | ok ds2 ρ2 =>
            rw [e2] at e0
            cases e0
            rw [List.length_cons, List.length_cons, ks.len _ _ _ e2]
          | exc z ρ2 => rw [e2] at e0; cases e0
          | stuck => rw [e2] at e0; cases e0
        | exc z ρ1 => rw [e1] at e0; cases e0
        | stuck => rw [e1] at e0; cases e0
      · cases es with
        | nil =>
          cases r with
          | nil => exact ⟨pe_one k.m, pw_and1 k.t⟩
          | cons _ _ => cases h2
        | cons e2 es2 =>
          cases r with
          | nil => cases h2
          | cons x2 r2 =>
            obtain ⟨a1, a2⟩ := ks.and_ pos (by simp)
            exact m_and C.eK k.m k.t a1 a2
      · cases es with
        | nil =>
          cases r with
          | nil => exact ⟨pe_one k.m, pw_or1 k.t⟩
          | cons _ _ => cases h2
        | cons e2 es2 =>
          cases r with
          | nil => cases h2
          | cons x2 r2 =>
            obtain ⟨a1, a2⟩ := ks.or_ pos (by simp)
            exact m_or C.eK k.m k.t a1 a2
      · rw [star_cons h3]
        show (false || (backTo pos (starEach r X.env)).any (·.1)) = false
        rw [ks.st pos]; rfl
theorem soundO : ∀ (o : CO) {lim : Lv} {X : Cx} {G : Gv} {s0 sc : Scope} {x : Option Expr}, Cok xs T tab c lim N X G s0 sc → chkO T lim N sc o x = true → PO X x (tMo G (evO c o))
  | .none, lim, X, G, s0, sc, x, C, h => by
    cases x with
    | none => exact mo_none
    | some _ => cases h
  | .some e, lim, X, G, s0, sc, x, C, h => by
    cases x with
    | none => cases h
    | some x => exact mo_some (soundE e C h).m
theorem soundT : ∀ (o : CO) {lim : Lv} {X : Cx} {G : Gv} {s0 sc : Scope} {ys : List Expr}, Cok xs T tab c lim N X G s0 sc → chkT T lim N sc o ys = true → PTs X ys (tMb G (evC c o))
  | .none, lim, X, G, s0, sc, xs, C, h => by
    cases xs with
    | nil => exact ⟨fun pins s σ H Q I ⟨ρ, r, q⟩ => pts_nil.run pins s σ H Q I ((post.ok q r).1)⟩
    | cons _ _ => cases h
  | .some e, lim, X, G, s0, sc, xs, C, h => by
    match xs, h with
    | [x], h => exact pts_one (soundE e C h).t
theorem soundI : ∀ (i : CI) {lim : Lv} {X : Cx} {G : Gv} {s0 sc : Scope} {t x : Expr}, Cok xs T tab c lim N X G s0 sc → chkI T lim N sc i t x = true → PI X t x (tMi G (evI c i))
  | .seq e, lim, X, G, s0, sc, t, x, C, h => i_seq C.eK (soundE e C h).m
  | .range es, lim, X, G, s0, sc, t, x, C, h => by
    cases x with
    | Call fx args kw pos =>
      cases fx with
      | Name y p =>
        cases kw with
        | nil =>
          obtain ⟨h1, h2⟩ := andT h
          obtain ⟨h3, h4⟩ := andT h1
          obtain ⟨h5, h6⟩ := andT h3
          obtain rfl := of_decide_eq_true h6
          obtain ⟨g1, g2⟩ := fiB_of h5
          have ks := soundEs es C h4
          have hst : ∀ {a0 : Expr} {r0 : List Expr}, args = a0 :: r0 → notStar a0 = true ∧ ∃ es0, chkEs T lim N sc es0 r0 = true := fun {a0 r0} q => by
            subst q
            cases es with
            | nil => cases h4
            | cons e0 es0 =>
              have h4' : (notStar a0 && chkE T lim N sc e0 a0 && chkEs T lim N sc es0 r0) = true := h4
              exact ⟨(andT (andT h4').1).1, es0, (andT h4').2⟩
          match args, h2 with
          | [a], _ => exact i_range1 (C.gl g1) (C.fc.free _ g2) ks.a (star_cons (hst rfl).1) ks.len
          | [a, b], _ =>
            obtain ⟨n1, es0, h0⟩ := hst rfl
            have n2 : notStar b = true := by
              cases es0 with
              | nil => cases h0
              | cons e1 es1 =>
                have h0' : (notStar b && chkE T lim N sc e1 b && chkEs T lim N sc es1 []) = true := h0
                exact (andT (andT h0').1).1
            exact i_range2 (C.gl g1) (C.fc.free _ g2) ks.a (by rw [star_cons n1, star_cons n2]; rfl) (star_cons n2) ks.len
          | [a, b, c], _ =>
            obtain ⟨n1, es0, h0⟩ := hst rfl
            have n2 : notStar b = true ∧ notStar c = true := by
              cases es0 with
              | nil => cases h0
              | cons e1 es1 =>
                have h0' : (notStar b && chkE T lim N sc e1 b && chkEs T lim N sc es1 [c]) = true := h0
                refine ⟨(andT (andT h0').1).1, ?_⟩
                have h1' := (andT h0').2
                cases es1 with
                | nil => cases h1'
                | cons e2 es2 =>
                  have h2' : (notStar c && chkE T lim N sc e2 c && chkEs T lim N sc es2 []) = true := h1'
                  exact (andT (andT h2').1).1
            exact i_range3 (C.gl g1) (C.fc.free _ g2) ks.a (star_cons n1) (by rw [star_cons n2.1, star_cons n2.2]; rfl) ks.len
        | cons _ _ => cases h
      | _ => cases h
    | _ => cases h
  | .enum e, lim, X, G, s0, sc, t, x, C, h => by
    cases x with
    | Call fx args kw pos =>
      match fx, args, kw, h with
      | .Name y p, [a], [], h =>
        obtain ⟨h1, h2⟩ := andT h
        obtain ⟨h3, h4⟩ := andT h1
        obtain ⟨h5, h6⟩ := andT h3
        obtain ⟨h7, h8⟩ := andT h5
        obtain rfl := of_decide_eq_true h8
        obtain ⟨g1, g2⟩ := fiB_of h7
        cases t with
        | Tuple elts kk tpos => exact i_enum C.eK (C.gl g1) (C.fc.free _ g2) (soundE e C h6).m (star_cons h4)
        | _ => cases h2
    | _ => cases h
  | .zip e f, lim, X, G, s0, sc, t, x, C, h => by
    cases x with
    | Call fx args kw pos =>
      match fx, args, kw, h with
      | .Name y p, [a, b], [], h =>
        obtain ⟨h1, h2⟩ := andT h
        obtain ⟨h3, h4⟩ := andT h1
        obtain ⟨h5, h6⟩ := andT h3
        obtain ⟨h7, h8⟩ := andT h5
        obtain ⟨h9, h10⟩ := andT h7
        obtain ⟨h11, h12⟩ := andT h9
        obtain rfl := of_decide_eq_true h12
        obtain ⟨g1, g2⟩ := fiB_of h11
        cases t with
        | Tuple elts kk tpos => exact i_zip C.eK (C.gl g1) (C.fc.free _ g2) (soundE e C h10).m (soundE f C h8).m (star_cons h6) (star_cons h4)
        | _ => cases h2
    | _ => cases h
end
end
end Tw

set_option Elab.async false
set_option linter.all false
set_option maxRecDepth 100000
set_option maxHeartbeats 1000000
namespace Tw
open PySem PySem.Spec PyProof.Rows L2

def noSD : Expr → Bool
  | .SetComp .. => false
  | .DictComp .. => false
  | _ => true
def noComp : Expr → Bool
  | .ListComp .. => false
  | .SetComp .. => false
  | .DictComp .. => false
  | _ => true
/-- the store of a comprehension is exchanged -/
def swB (sc : Scope) (x : Expr) (y : Str) (py : Pos) : Bool := match x with
  | .ListComp _ _ scope p => (match sc.names.lookup y with
    | some .local => true
    | _ => false) && (py.line == p.line) && !(scope.names.any fun (n, k) => n == y && (k == .local || k == .cell))
  | _ => false
def ssR (sc : Scope) (ts vs : List Expr) : Option (Option (List Str)) :=
  if (!(ts.length == 2 || ts.length == 3) || vs.length != ts.length || sc.kind != .function) = true then some none else
  if (vs.any fun | .Starred .. => true | _ => false) = true then some none else
  if ((ts.filterMap fun | .Name id pos => if (sc.names.lookup id == some .local && pos.line == (ts.head?.map (·.pos.line)).getD 0) = true then some id else none | _ => none).length != ts.length ||
    (ts.filterMap fun | .Name id pos => if (sc.names.lookup id == some .local && pos.line == (ts.head?.map (·.pos.line)).getD 0) = true then some id else none | _ => none).eraseDups.length !=
    (ts.filterMap fun | .Name id pos => if (sc.names.lookup id == some .local && pos.line == (ts.head?.map (·.pos.line)).getD 0) = true then some id else none | _ => none).length) = true then some none else
  if (vs.all (foldedForSure 8)) = true then some none else
  if (vs.all (constantsAlone 8)) = true then none else
  some (some (ts.filterMap fun | .Name id pos => if (sc.names.lookup id == some .local && pos.line == (ts.head?.map (·.pos.line)).getD 0) = true then some id else none | _ => none))
section
variable {env : Env} {sc : Scope}
theorem ss_eq {ts vs : List Expr} {k k2 : Nat} {p p2 : Pos} {r : Option (List Str)} (h : env.scope = sc) (hk : sc.kind = .function) (e : ssR sc ts vs = some r) : swappedStores [.Tuple ts k p] (.Tuple vs k2 p2) env = pure r := by
  have hb : env.blockKind = .function := by unfold Env.blockKind; rw [h, hk]; rfl
  have hkd : ∀ x, env.kindOf x = sc.names.lookup x := fun x => by unfold Env.kindOf; rw [h]
  unfold ssR at e
  unfold swappedStores
  simp only [hb, hkd]
  rw [hk] at e
  by_cases c1 : (!(ts.length == 2 || ts.length == 3) || vs.length != ts.length || ScopeKind.function != .function) = true
  · rw [if_pos c1] at e; cases e; exact (if_pos c1).trans rfl
  rw [if_neg c1] at e
  refine (if_neg c1).trans ?_
  by_cases c2 : (vs.any fun | .Starred .. => true | _ => false) = true
  · have e' := (if_pos c2).symm.trans e; cases e'; exact (if_pos c2).trans rfl
  have e' := (if_neg c2).symm.trans e
  refine (if_neg c2).trans ?_
  split at e'
  · rename_i c3
    cases e'; exact (if_pos c3).trans rfl
  · rename_i c3
    refine (if_neg c3).trans ?_
    by_cases c4 : (vs.all (foldedForSure 8)) = true
    · have e' := (if_pos c4).symm.trans e'; cases e'; exact (if_pos c4).trans rfl
    have e' := (if_neg c4).symm.trans e'
    refine (if_neg c4).trans ?_
    by_cases c5 : (vs.all (constantsAlone 8)) = true
    · have e' := (if_pos c5).symm.trans e'; cases e'
    have e' := (if_neg c5).symm.trans e'
    refine (if_neg c5).trans ?_
    cases e'
    rfl
theorem sw_eq {x : Expr} {y : Str} {py : Pos} {l : Nat} (h : env.scope = sc) (hk : sc.kind = .function) (hn : noSD x = true) : swapsWith x (some (.Name y py)) l env = pure (swB sc x y py) := by
  have hb : env.blockKind = .function := by unfold Env.blockKind; rw [h, hk]; rfl
  have hkd : ∀ x, env.kindOf x = sc.names.lookup x := fun x => by unfold Env.kindOf; rw [h]
  cases x with
  | ListComp e gs scope p =>
    unfold swapsWith swB
    simp only [hb, hkd, Expr.pos]
    congr 1
    cases sc.names.lookup y with
    | none => rfl
    | some k => cases k <;> rfl
  | SetComp => cases hn
  | DictComp => cases hn
  | _ => rfl
theorem sw_tup {x : Expr} {ts : List Expr} {k : Nat} {p : Pos} {l : Nat} : swapsWithSole [.Tuple ts k p] x l env = pure false := by cases x <;> rfl
theorem sw_sub {x o i : Expr} {p : Pos} {l : Nat} : swapsWithSole [.Subscript o i p] x l env = pure false := by cases x <;> rfl
theorem sw_none {x : Expr} {l : Nat} (h : noComp x = true) : swapsWith x none l env = pure false := by cases x <;> first | rfl | cases h
theorem ss_tup {x : Expr} {ts : List Expr} {k : Nat} {p : Pos} (h : isTup x = false) : swappedStores [.Tuple ts k p] x env = pure none := by cases x <;> first | rfl | cases h
theorem ss_sub {x o i : Expr} {p : Pos} : swappedStores [.Subscript o i p] x env = pure none := by cases x <;> rfl
end
/-- (x, y), (x, y, z): the names, if all are plain and apart -/
def names2 : List Expr → Option (Str × Str)
  | [.Name x _, .Name y _] => some (x, y)
  | _ => none
def parB (sc : Scope) (ns : List Str) (vs : List Expr) : List Nat → List Expr → Bool
  | [i, j], [.Name x _, .Name y _] => decide (ns = [x, y]) && decide (i ≠ j) && decide (sc.names.lookup x = some .local) && decide (sc.names.lookup y = some .local) && decide (vs.length = 2)
  | [i, j, k], [.Name x _, .Name y _, .Name z _] => decide (ns = [x, y, z]) && decide (i ≠ j) && decide (i ≠ k) && decide (j ≠ k) && decide (sc.names.lookup x = some .local) && decide (sc.names.lookup y = some .local) && decide (sc.names.lookup z = some .local) && decide (vs.length = 3)
  | _, _ => false
theorem parB_of {sc : Scope} {ns : List Str} {vs : List Expr} : ∀ {is : List Nat} {ts : List Expr}, parB sc ns vs is ts = true →
    (∃ i j x px y py a b, is = [i, j] ∧ ts = [.Name x px, .Name y py] ∧ ns = [x, y] ∧ i ≠ j ∧ sc.names.lookup x = some .local ∧ sc.names.lookup y = some .local ∧ vs = [a, b]) ∨
    ∃ i j k x px y py z pz a b d, is = [i, j, k] ∧ ts = [.Name x px, .Name y py, .Name z pz] ∧ ns = [x, y, z] ∧ i ≠ j ∧ i ≠ k ∧ j ≠ k ∧ sc.names.lookup x = some .local ∧ sc.names.lookup y = some .local ∧ sc.names.lookup z = some .local ∧ vs = [a, b, d] := by
  intro is ts h
  unfold parB at h
  split at h
  · simp only [Bool.and_eq_true, decide_eq_true_eq] at h
    obtain ⟨⟨⟨⟨h1, h2⟩, h3⟩, h4⟩, h5⟩ := h
    match vs, h5 with
    | [a, b], _ => exact .inl ⟨_, _, _, _, _, _, a, b, rfl, rfl, h1, h2, h3, h4, rfl⟩
  · simp only [Bool.and_eq_true, decide_eq_true_eq] at h
    obtain ⟨⟨⟨⟨⟨⟨⟨h1, h2⟩, h3⟩, h4⟩, h5⟩, h6⟩, h7⟩, h8⟩ := h
    match vs, h8 with
    | [a, b, d], _ => exact .inr ⟨_, _, _, _, _, _, _, _, _, a, b, d, rfl, rfl, h1, h2, h3, h4, h5, h6, h7, rfl⟩
  · cases h
def asgTup (N : List Str) (sc : Scope) (is : List Nat) (ts : List Expr) (x : Expr) : Bool := match x with
  | .Tuple vs _ _ => (match ssR sc ts vs with
    | some none => true
    | some (some ns) => parB sc ns vs is ts
    | none => false)
  | _ => true
def isNilE : CEs → Bool
  | .nil => true
  | _ => false
def raisB (sc : Scope) (k : Nat) (es : CEs) : Stmt → Bool
  | .Raise (some (.Call (.Name y _) [.Constant (.str _) _ _] [] _)) none _ => isNilE es && decide (k < 7) && decide (cn10[k]? = some y) && glB sc y
  | _ => false
/-- a refusal with fields -/
def raisF (T : Tbl) (lim : Lv) (N : List Str) (sc : Scope) (k : Nat) (es : CEs) : Stmt → Bool
  | .Raise (some (.Call (.Name y _) args [] _)) none _ => decide (7 ≤ k) && decide (k < 10) && decide (cn10[k]? = some y) && glB sc y && chkEs T lim N sc es args && !args.isEmpty
  | _ => false
/-- a, b = ([], []) -/
def boxesB (N : List Str) (sc : Scope) (is : List Nat) : Stmt → Bool
  | .Assign [.Tuple ts _ _] (.Tuple vs _ _) _ => tgB N sc sc (.tup is) (.Tuple ts 0 default) && (vs.all fun
    | .List [] _ => true
    | _ => false) && (match ssR sc ts vs with
    | some (some ns) => parB sc ns vs is ts
    | _ => false)
  | _ => false
def callB : Expr → Bool
  | .Call _ (_ :: _) _ _ => true
  | _ => false
mutual
def chkS (T : Tbl) (lim : Lv) (N : List Str) (sc : Scope) : CS → Stmt → Bool
  | .asg tg e, s => match s with
    | .Assign [t] x _ => tgB N sc sc tg t && chkE T lim N sc e x && noSD x && (match tg, t with
      | .tup is, .Tuple ts _ _ => asgTup N sc is ts x
      | .name _, .Name .. => true
      | _, _ => false)
    | _ => false
  | .box i e, s => match s with
    | .Assign [.Name y _] x _ => decide (N[i]? = some y) && stoB sc sc y && chkE T lim N sc e x && noSD x
    | _ => false
  | .expr e, s => match s with
    | .Expr x _ => chkE T lim N sc e x && noComp x
    | _ => false
  | .app i e, s => match s with
    | .Expr (.Call (.Attribute (.Name y _) at_ ap) [x] [] cp) _ => varB N sc i y && decide (at_ = ("append" : Str)) && chkE T lim N sc e x && notStar x && (ap.endLine == cp.line)
    | _ => false
  | .ext i e, s => match s with
    | .Expr (.Call (.Attribute (.Name y _) at_ ap) [x] [] cp) _ => varB N sc i y && decide (at_ = ("extend" : Str)) && chkE T lim N sc e x && notStar x && (ap.endLine == cp.line)
    | _ => false
  | .seti i ix e, s => match s with
    | .Assign [.Subscript (.Name y _) j _] x _ => varB N sc i y && chkE T lim N sc ix j && chkE T lim N sc e x && plainIx j
    | _ => false
  | .ret e, s => match s with
    | .Return (some x) _ => chkE T lim N sc e x
    | _ => false
  | .pass, s => match s with
    | .Pass _ => true
    | _ => false
  | .brk, s => match s with
    | .Break _ => true
    | _ => false
  | .iff t a b, s => match s with
    | .If x p q _ => chkE T lim N sc t x && chkSs T lim N sc a p && chkSs T lim N sc b q
    | _ => false
  | .forr tg it body, s => match s with
    | .For t i b [] _ => tgB N sc sc tg t && notSet i && chkI T lim N sc it t i && chkSs T lim N sc body b
    | _ => false
  | .whil t body, s => match s with
    | .While x b [] _ => chkE T lim N sc t x && chkSs T lim N sc body b
    | _ => false
  | .rais k es, s => !T.exc || (raisB sc k es s || raisF T lim N sc k es s)
  | .boxes is _, s => boxesB N sc is s
  | .appT e k, s => match s with
    | .Expr (.Call (.Attribute o at_ ap) [.Constant (.int k') _ _] [] cp) _ => chkE T lim N sc e o && callB o && decide (at_ = ("append" : Str)) && decide (k = k') && (ap.endLine == cp.line)
    | _ => false
def chkSs (T : Tbl) (lim : Lv) (N : List Str) (sc : Scope) : CSs → List Stmt → Bool
  | .nil, ss => ss.isEmpty
  | .cons s r, ss => match ss with
    | [] => false
    | x :: xs => chkS T lim N sc s x && chkSs T lim N sc r xs
end
section
variable {xs : Bool} {T : Tbl} {tab : Nat → FnDef} {c : CallT} {lim : Lv} {N : List Str} {X : Cx} {G : Gv} {sc : Scope}
/-- name = a comprehension whose store is exchanged -/
theorem CompOK.ps {own : List (Str × Nat)} {elt : CE} {tg : Tg} {it : CI} {cond : CO} {el t i : Expr} {ifs : List Expr} {scope : Scope} {pos spos py : Pos} {j : Nat} {y : Str} {s0 : Scope} (C : Cok xs T tab c lim N X G s0 sc) (K : CompOK X G c own elt tg it cond el t i ifs scope)
    (hj : N[j]? = some y) (hl : sc.names.lookup y = some .local) (hsw : swapsWith (.ListComp el [⟨t, i, ifs, 0⟩] scope pos) (some (.Name y py)) spos.line X.env = pure true) :
    PS X (.Assign [.Name y py] (.ListComp el [⟨t, i, ifs, 0⟩] scope pos) spos) (tAsg (tN G (evE c (.comp own elt tg it cond))) (gName j)) :=
  wkS (ps_setLc C.calm (by rw [C.eN]; exact C.nd) (by rw [C.eN]; exact hj) (by rw [C.esc]; exact hl) hsw K.hi K.ok K.hg K.ht K.he (folded K.hs)) fun E σ H q => K.rdN C σ H _ q
theorem comp_of {own : List (Str × Nat)} {elt : CE} {tg : Tg} {it : CI} {cond : CO} {el : Expr} {gs : List Comprehension} {scope : Scope} {pos : Pos} {s0 : Scope} (C : Cok xs T tab c lim N X G s0 sc) (h : chkE T lim N sc (.comp own elt tg it cond) (.ListComp el gs scope pos) = true) :
    ∃ t i ifs, gs = [⟨t, i, ifs, 0⟩] ∧ CompOK X G c own elt tg it cond el t i ifs scope := by
  match gs, h with
  | [⟨t, i, ifs, as⟩], h =>
    obtain ⟨h1, h2⟩ := andT h
    obtain ⟨h3, h4⟩ := andT h1
    obtain ⟨h5, h6⟩ := andT h3
    obtain ⟨h7, h8⟩ := andT h5
    obtain ⟨h9, h10⟩ := andT h7
    obtain ⟨h11, h12⟩ := andT h9
    obtain ⟨h13, h14⟩ := andT h11
    obtain rfl := of_decide_eq_true h13
    refine ⟨t, i, ifs, rfl, soundI it C h6, blkOk_by (by rw [C.eN, C.esc]; exact h14), fun j hj => ?_, fun s H A cl fp => pg_tg (C.blk s H scope cl A fp (fun _ => False)) h10, fun s H A cl fp => ⟨fun pins s' σ H' Q I ⟨B, q⟩ => (soundT cond (C.blk s H scope cl A fp B) h4).run pins s' σ H' Q I q⟩, fun s H A cl fp => ⟨fun pins s' σ H' Q I ⟨B, q⟩ => (soundE elt (C.blk s H scope cl A fp B) h2).m.run pins s' σ H' Q I q⟩, h8⟩
    exact List.contains_iff_mem.mp (List.all_eq_true.mp h12 j hj)
/-- name = value, in both forms -/
theorem set_name {e : CE} {x : Expr} {y : Str} {py pos : Pos} {j : Nat} (C : Cok xs T tab c lim N X G sc sc) (hk : sc.kind = .function) (h : chkE T lim N sc e x = true) (hn : noSD x = true) (hj : N[j]? = some y) (hs : stoB sc sc y = true) :
    PS X (.Assign [.Name y py] x pos) (tAsg (tM G (evE c e)) (gName j)) ∧ PS X (.Assign [.Name y py] x pos) (tAsg (tF G (evR c e)) (gName j)) := by
  have sw := sw_eq (l := pos.line) (y := y) (py := py) C.esc hk hn
  have ok := soundE e C h
  cases b : swB sc x y py with
  | false =>
    rw [b] at sw
    exact ⟨ps_set (by rw [C.eN]; exact C.nd) (by rw [C.eN]; exact hj) (by rw [C.esc]; exact loc_of hs) ok.m sw (C.stf hs), ps_set (by rw [C.eN]; exact C.nd) (by rw [C.eN]; exact hj) (by rw [C.esc]; exact loc_of hs) ok.r sw (C.stf hs)⟩
  | true =>
    rw [b] at sw
    cases x with
    | ListComp el gs scope p =>
      have hl : sc.names.lookup y = some .local := by
        have b' := (andT (andT b).1).1
        split at b'
        · assumption
        · cases b'
      cases e with
      | comp own elt tg it cond =>
        obtain ⟨t, i, ifs, rfl, K⟩ := comp_of C h
        have key := K.ps C hj hl sw
        refine ⟨wkS key fun E σ H q => tN_tM q, ?_⟩
        rw [evR_gen rfl]
        exact f_lst key fun d => newForm_list
      | con d => cases d <;> cases h
      | _ => cases h
    | _ => cases b
theorem sound_boxes (hk : sc.kind = .function) (C : Cok xs T tab c lim N X G sc sc) {is js : List Nat} {x : Stmt} (h : boxesB N sc is x = true) : PS X x (tS G fun ρ => nextO ((boxs ρ is).bind fun ρ1 => thaw ρ1 js)) := by
  unfold boxesB at h
  split at h
  · rename_i tt kk tp vs k2 p2 pos
    obtain ⟨h1, h2⟩ := andT h
    obtain ⟨h5, h4⟩ := andT h1
    cases er : ssR sc tt vs with
    | none => rw [er] at h2; cases h2
    | some r =>
      rw [er] at h2
      cases r with
      | none => cases h2
      | some ns =>
        have hw := ss_eq (k := kk) (p := tp) (k2 := k2) (p2 := p2) C.esc hk er
        have h5 : (decide (tt.length = is.length) && (is.zip tt).all fun p => match p.2 with
          | .Name x _ => decide (N[p.1]? = some x) && stoB sc sc x
          | _ => false) = true := h5
        have h5b := (andT h5).2
        have h2 : parB sc ns vs is tt = true := h2
        have nilE : ∀ v : Expr, (match v with
          | .List [] _ => true
          | _ => false) = true → ∃ p, v = .List [] p := fun v hv => by
          split at hv
          · exact ⟨_, rfl⟩
          · cases hv
        rcases parB_of h2 with ⟨i, j, x, px, y, py, a, b, rfl, rfl, rfl, hij, hx, hy, rfl⟩ | ⟨i, j, k, x, px, y, py, z, pz, a, b, d, rfl, rfl, rfl, hij, hik, hjk, hx, hy, hz, rfl⟩
        · simp only [List.zip_cons_cons, List.zip_nil_right, List.all_cons, List.all_nil, Bool.and_eq_true, decide_eq_true_eq] at h5b
          obtain ⟨⟨n1, _⟩, ⟨n2, _⟩, _⟩ := h5b
          have ha := List.all_eq_true.mp h4
          obtain ⟨pa, rfl⟩ := nilE a (ha a (by simp))
          obtain ⟨pb, rfl⟩ := nilE b (ha b (by simp))
          exact s_box2 (ps_par C.calm (by rw [C.eN]; exact C.nd) (by rw [C.eN]; exact n1) (by rw [C.eN]; exact n2) hij (by rw [C.esc]; exact hx) (by rw [C.esc]; exact hy) (pa_cons (pe_lst pa_nil) (pa_cons (pe_lst pa_nil) pa_nil)) hw sw_tup)
        · simp only [List.zip_cons_cons, List.zip_nil_right, List.all_cons, List.all_nil, Bool.and_eq_true, decide_eq_true_eq] at h5b
          obtain ⟨⟨n1, _⟩, ⟨n2, _⟩, ⟨n3, _⟩, _⟩ := h5b
          have ha := List.all_eq_true.mp h4
          obtain ⟨pa, rfl⟩ := nilE a (ha a (by simp))
          obtain ⟨pb, rfl⟩ := nilE b (ha b (by simp))
          obtain ⟨pd, rfl⟩ := nilE d (ha d (by simp))
          exact s_box3 (ps_par3 C.calm (by rw [C.eN]; exact C.nd) (by rw [C.eN]; exact n1) (by rw [C.eN]; exact n2) (by rw [C.eN]; exact n3) hij hik hjk (by rw [C.esc]; exact hx) (by rw [C.esc]; exact hy) (by rw [C.esc]; exact hz) (pa_cons (pe_lst pa_nil) (pa_cons (pe_lst pa_nil) (pa_cons (pe_lst pa_nil) pa_nil))) hw sw_tup)
  · cases h
mutual
theorem soundS (hp : PassesOwn (model X.prog X.w) X.A X.env X.xe) (hk : sc.kind = .function) (hR : ∀ (k : Nat) (es : CEs) (x : Stmt), chkS T lim N sc (.rais k es) x = true → PS X x (tS G (evS c (.rais k es)))) (C : Cok xs T tab c lim N X G sc sc) : ∀ (s : CS) {x : Stmt}, chkS T lim N sc s x = true → PS X x (tS G (evS c s))
  | .asg tg e, x, h => by
    cases x with
    | Assign ts v pos =>
      match ts, h with
      | [t], h =>
        obtain ⟨h1, h2⟩ := andT h
        obtain ⟨h3, h4⟩ := andT h1
        obtain ⟨h5, h6⟩ := andT h3
        cases tg with
        | name i =>
          cases t with
          | Name y py =>
            have h5 : (decide (N[i]? = some y) && stoB sc sc y) = true := h5
            obtain ⟨k1, k2⟩ := andT h5
            exact s_asg (tg := .name i) (set_name C hk h6 h4 (of_decide_eq_true k1) k2).1
          | _ => cases h2
        | tup is =>
          cases t with
          | Tuple tt kk tp =>
            have hg := pg_tg C h5
            have h2 : asgTup N sc is tt v = true := h2
            have plain : swappedStores [.Tuple tt kk tp] v X.env = pure none → PS X (.Assign [.Tuple tt kk tp] v pos) (tS G (evS c (.asg (.tup is) e))) := fun hw => by
              rw [C.eK] at hg
              exact s_asg (tg := .tup is) (ps_asg (soundE e C h6).m hg sw_tup hw rfl)
            cases v with
            | Tuple vs k2 p2 =>
              unfold asgTup at h2
              dsimp only at h2
              cases er : ssR sc tt vs with
              | none => rw [er] at h2; cases h2
              | some r =>
                rw [er] at h2
                have hw := ss_eq (k := kk) (p := tp) (k2 := k2) (p2 := p2) C.esc hk er
                cases r with
                | none => exact plain hw
                | some ns =>
                  cases e with
                  | tup es =>
                    have hes := (andT (show (chkEs T lim N sc es vs && decide (vs.length ≤ 1000)) = true from h6)).1
                    have ks := soundEs es C hes
                    have h5 : (decide (tt.length = is.length) && (is.zip tt).all fun p => match p.2 with
                      | .Name x _ => decide (N[p.1]? = some x) && stoB sc sc x
                      | _ => false) = true := h5
                    have h5b := (andT h5).2
                    have h2 : parB sc ns vs is tt = true := h2
                    rcases parB_of h2 with ⟨i, j, x, px, y, py, a, b, rfl, rfl, rfl, hij, hx, hy, rfl⟩ | ⟨i, j, k, x, px, y, py, z, pz, a, b, d, rfl, rfl, rfl, hij, hik, hjk, hx, hy, hz, rfl⟩
                    · simp only [List.zip_cons_cons, List.zip_nil_right, List.all_cons, List.all_nil, Bool.and_eq_true, decide_eq_true_eq] at h5b
                      obtain ⟨⟨n1, _⟩, ⟨n2, _⟩, _⟩ := h5b
                      exact s_par (ps_par C.calm (by rw [C.eN]; exact C.nd) (by rw [C.eN]; exact n1) (by rw [C.eN]; exact n2) hij (by rw [C.esc]; exact hx) (by rw [C.esc]; exact hy) ks.a hw sw_tup) ks.len
                    · simp only [List.zip_cons_cons, List.zip_nil_right, List.all_cons, List.all_nil, Bool.and_eq_true, decide_eq_true_eq] at h5b
                      obtain ⟨⟨n1, _⟩, ⟨n2, _⟩, ⟨n3, _⟩, _⟩ := h5b
                      exact s_par3 (ps_par3 C.calm (by rw [C.eN]; exact C.nd) (by rw [C.eN]; exact n1) (by rw [C.eN]; exact n2) (by rw [C.eN]; exact n3) hij hik hjk (by rw [C.esc]; exact hx) (by rw [C.esc]; exact hy) (by rw [C.esc]; exact hz) ks.a hw sw_tup)
                  | con d => cases d <;> cases h6
                  | _ => cases h6
            | _ => exact plain (ss_tup rfl)
          | _ => cases h2
    | _ => cases h
  | .box i e, x, h => by
    cases x with
    | Assign ts v pos =>
      match ts, h with
      | [.Name y py], h =>
        obtain ⟨h1, h2⟩ := andT h
        obtain ⟨h3, h4⟩ := andT h1
        obtain ⟨h5, h6⟩ := andT h3
        exact s_box (set_name C hk h4 h2 (of_decide_eq_true h5) h6).2
    | _ => cases h
  | .expr e, x, h => by
    cases x with
    | Expr v pos =>
      obtain ⟨h1, h2⟩ := andT h
      exact s_drop (ps_expr (soundE e C h1).m (sw_none h2))
    | _ => cases h
  | .app i e, x, h => by
    cases x with
    | Expr v pos =>
      match v, h with
      | .Call (.Attribute (.Name y p) at_ ap) [v] [] cp, h =>
        obtain ⟨h1, h2⟩ := andT h
        obtain ⟨h3, h4⟩ := andT h1
        obtain ⟨h5, h6⟩ := andT h3
        obtain ⟨h7, h8⟩ := andT h5
        obtain rfl := of_decide_eq_true h8
        refine s_app C.eK (C.var h7) (soundE e C h6).m rfl ?_ h2 (star_cons h4) rfl rfl
        unfold Few
        rw [star_cons h4]
        rfl
    | _ => cases h
  | .ext i e, x, h => by
    cases x with
    | Expr v pos =>
      match v, h with
      | .Call (.Attribute (.Name y p) at_ ap) [v] [] cp, h =>
        obtain ⟨h1, h2⟩ := andT h
        obtain ⟨h3, h4⟩ := andT h1
        obtain ⟨h5, h6⟩ := andT h3
        obtain ⟨h7, h8⟩ := andT h5
        obtain rfl := of_decide_eq_true h8
        refine s_ext C.eK (C.var h7) (soundE e C h6).m rfl ?_ h2 (star_cons h4) rfl rfl
        unfold Few
        rw [star_cons h4]
        rfl
    | _ => cases h
  | .seti i ix e, x, h => by
    cases x with
    | Assign ts v pos =>
      match ts, h with
      | [.Subscript (.Name y p) j tp], h =>
        obtain ⟨h1, h2⟩ := andT h
        obtain ⟨h3, h4⟩ := andT h1
        obtain ⟨h5, h6⟩ := andT h3
        exact s_seti C.eK (C.var h5) (soundE ix C h6).m (soundE e C h4).m (fun v => by cases j <;> first | rfl | cases h2) sw_sub ss_sub rfl
    | _ => cases h
  | .ret e, x, h => by
    cases x with
    | Return v pos =>
      cases v with
      | some v => exact s_ret (soundE e C h).r
      | none => cases h
    | _ => cases h
  | .pass, x, h => by
    cases x with
    | Pass pos => exact s_pass
    | _ => cases h
  | .brk, x, h => by
    cases x with
    | Break pos => exact s_brk
    | _ => cases h
  | .iff t a b, x, h => by
    cases x with
    | If v p q pos =>
      obtain ⟨h1, h2⟩ := andT h
      obtain ⟨h3, h4⟩ := andT h1
      exact s_if (soundE t C h3).t (soundSs hp hk hR C a h4) (soundSs hp hk hR C b h2)
    | _ => cases h
  | .forr tg it body, x, h => by
    cases x with
    | For t i b orelse pos =>
      cases orelse with
      | nil =>
        obtain ⟨h1, h2⟩ := andT h
        obtain ⟨h3, h4⟩ := andT h1
        obtain ⟨h5, h6⟩ := andT h3
        exact s_for C.eK hp C.calm (soundI it C h4) (pg_tg C h5) (soundSs hp hk hR C body h2) (folded h6)
      | cons _ _ => cases h
    | _ => cases h
  | .whil t body, x, h => by
    cases x with
    | While v b orelse pos =>
      cases orelse with
      | nil =>
        obtain ⟨h1, h2⟩ := andT h
        exact s_while hp (soundE t C h1).t (soundSs hp hk hR C body h2)
      | cons _ _ => cases h
    | _ => cases h
  | .rais k es, x, h => hR k es x h
  | .boxes is js, x, h => sound_boxes hk C h
  | .appT e k, x, h => by
    cases x with
    | Expr v pos =>
      match v, h with
      | .Call (.Attribute o at_ ap) [.Constant (.int k') kj kp] [] cp, h =>
        obtain ⟨h1, h2⟩ := andT h
        obtain ⟨h3, h4⟩ := andT h1
        obtain ⟨h5, h6⟩ := andT h3
        obtain ⟨h7, h8⟩ := andT h5
        obtain rfl := of_decide_eq_true h6
        obtain rfl := of_decide_eq_true h4
        refine s_appT C.eK (soundE e C h7).r ?_ ?_ h2 (star_cons rfl) rfl rfl
        · cases o with
          | Call f as kw p => cases as with
            | nil => cases h8
            | cons a as => cases f <;> rfl
          | _ => cases h8
        · unfold Few
          rw [star_cons rfl]
          rfl
    | _ => cases h
theorem soundSs (hp : PassesOwn (model X.prog X.w) X.A X.env X.xe) (hk : sc.kind = .function) (hR : ∀ (k : Nat) (es : CEs) (x : Stmt), chkS T lim N sc (.rais k es) x = true → PS X x (tS G (evS c (.rais k es)))) (C : Cok xs T tab c lim N X G sc sc) : ∀ (s : CSs) {ys : List Stmt}, chkSs T lim N sc s ys = true → PSs X ys (tS G (evSs c s))
  | .nil, xs, h => by
    cases xs with
    | nil => exact s_nil
    | cons _ _ => cases h
  | .cons s r, xs, h => by
    cases xs with
    | nil => cases h
    | cons x xs =>
      have h' : (chkS T lim N sc s x && chkSs T lim N sc r xs) = true := h
      obtain ⟨h1, h2⟩ := andT h'
      exact s_cons (soundS hp hk hR C s h1) (soundSs hp hk hR C r h2)
end
/-- where nothing may be raised -/
theorem raise_none (hW : G.W = none) (k : Nat) (es : CEs) (x : Stmt) : PS X x (tS G (evS c (.rais k es))) := wkS ps_never fun E σ H ⟨ρ, r, q⟩ => by
  have q : postS G E ρ σ H ((evEs c es ρ).thn fun xs ρ1 => if okX ⟨k, xs⟩ = true then .exc ⟨k, xs⟩ ρ1 else .stuck) := q
  have zz : ∀ z ρ', zXS G ρ σ H z ρ' → False := fun z ρ' h => by unfold zXS at h; rw [hW] at h; exact h
  cases e : evEs c es ρ with
  | ok d ρ1 =>
    rw [e] at q
    have q : postS G E ρ σ H (if okX ⟨k, d⟩ = true then .exc ⟨k, d⟩ ρ1 else .stuck) := q
    split at q
    · exact zz _ _ q
    · exact q
  | exc z ρ1 => rw [e] at q; exact zz _ _ q
  | stuck => rw [e] at q; exact q
end
end Tw

set_option Elab.async false
set_option linter.all false
set_option maxRecDepth 100000
set_option maxHeartbeats 1000000
namespace Tw
open PySem PySem.Spec PyProof.Rows L2
/-- THE RULE, where no guard stands around -/
theorem fn_ofG {nr : Bool} {CX : CXT} {P : Program} {w : World} {K : PySem.W.Frag} {mg : Str → Option Value} {base : Heap} {k : Nat} {f : Addr} {name qual : Str} {params : Arguments} {body : List Stmt} {scope : Scope} {dV kV doc pm cdv ct oc : Value} {an od : Option Addr}
    {osl : Array (Option Value)} {N ps : List Str} {sp : Sp} (lk : K.lookup f = some ⟨oc, od, .func (PySem.W.fnOf name qual params body scope dV kV doc pm an cdv ct), osl⟩) (hcd : PySem.W.codeIn K cdv qual = true) (S : FnScope N ps scope)
    (len : ∀ vs H Q E, sp vs H Q E → vs.length = ps.length)
    (hbody : ∀ (A : Around) (outer : List Env) (s : Shared) (H : Hp) (vs : List V) (Q : VK) (E : XK), Room k (A.deeper (envOfC qual scope s.heap.objs.size f cdv)) → (nr = false → (A.deeper (envOfC qual scope s.heap.objs.size f cdv)).guards = some []) → sp vs H Q E →
      ∃ t, PSs (cxOf CX P w K mg base N qual scope f cdv A outer s H E) body t ∧ t { nx := fun _ H' => Q .non H', rt := Q } (start N vs) H) :
    FnG nr P w K mg base CX (k + 1) f (PySem.W.fnOf name qual params body scope dV kV doc pm an cdv ct) ps sp := by
  refine ⟨len, fun A outer s H args us vs Q E hr hgd e0 hb r hsp => ?_⟩
  have hl := len _ _ _ _ hsp
  have KX : K.In s.heap := e0.mod.kin.keeps fun b o e => (e0.bs b o e).1
  have hkind : ∀ y ∈ ps.zip us, scope.names.lookup y.1 = some .local ∨ (scope.names.lookup y.1 = some .cell ∧ ((cellsFrom (s.heap.objs.size + 1) scope.names []).lookup y.1).isSome = true) := fun y hy =>
    (S.par y.1 (List.of_mem_zip (show (y.1, y.2) ∈ _ from hy)).1).imp id fun q => ⟨q, PySem.W.cellsFrom_some _ _ _ (.inl q)⟩
  refine codeAny_call_function hr.depth (KX _ _ lk) rfl S.co S.gen rfl (PySem.W.codeRec_of KX hcd) (hb _ _ _ _ (wpAny_newFunctionEnv_cells S.kind hkind fun env he s1 x => ?_))
  subst he
  refine ⟨(e0.mod.nolimit.keeps fun b o e => (e0.bs b o e).1).keeps x.toInCall.keep, codeAny_func ?_⟩
  obtain ⟨t, ht, hq⟩ := hbody A outer s H vs Q E (hr.deeper _) hgd hsp
  refine wpAny_mono (ht.run [] s1 (start N vs) H _ (inv_start S hr.hd e0 hl r x) hq) (fun fl s' hs => ?_) fun e s' hs => hs
  cases fl with
  | ret u =>
    obtain ⟨v, σ', H', J, rv, q⟩ := hs
    exact ⟨v, H', J.os, J.bare, J.base, J.hok, rv, q⟩
  | next =>
    obtain ⟨σ', H', J, q⟩ := hs
    exact ⟨.non, H', J.os, J.bare, J.base, J.hok, rfl, q⟩
  | _ => obtain ⟨_, _, _, q⟩ := hs; exact False.elim q

/-- what is known of the class whose __init__ is called -/
structure ReF (K : PySem.W.Frag) (mg : Str → Option Value) : Prop where
  g : mg "RingError" = some (.ref (He.ga K "RingError"))
  rd : PySem.W.readsIn K (He.ga K "RingError") (.type "type") = true
  ga : PySem.W.specialIn K (.ref (He.ga K "RingError")) "__getattribute__" = some (some (.builtin "type.__getattribute__"))
  ini : PySem.W.findCls K (.ref (He.ga K "RingError")) (.type "type") "__init__" = some (.val (.builtin "ValueError.__init__"))
theorem pe_reinit {X : Cx} {e : Expr} {es : List Expr} {ta : TA} {p1 p2 pos : Pos} {pl : Sem Bool} (R : ReF X.K X.mg) (hg : Gl X "RingError") (ha : PA X (e :: es) ta)
    (hc : eval (.Call (.Attribute (.Name "RingError" p1) "__init__" p2) (e :: es) [] pos) X.env = (do
      let ov ← eval (.Name "RingError" p1) X.env
      standAt p2.atName
      let (f, first) ← holding [ov] (getMethod ov "__init__" pl)
      callWith pos f first (backTo pos (starEach (e :: es) X.env)) (backToKw pos (keywordEach [] X.env))))
    (he : starEach (e :: es) X.env = (false, eval e X.env) :: starEach es X.env) (hpl : (backTo pos (starEach es X.env)).any (·.1) = false) :
    PE X (.Call (.Attribute (.Name "RingError" p1) "__init__" p2) (e :: es) [] pos) (tVeI X.K ta) := by
  refine ⟨fun pins s σ H Q I h => ?_⟩
  refine PySem.W.methodCall_KW (ld_glob I hg R.g ?_ (by decide)) hc
  refine PySem.W.method_cls I.kIn R.ga (PySem.W.cls_value I.kIn R.rd R.ini (by decide +kernel) ?_)
  show wpAny _ _ (callWith pos (Value.builtin "ValueError.__init__") [] (backTo pos (starEach (e :: es) X.env)) []) _ _ _
  refine PyProof.Rows.callWith_method1 (thn (ha.run pos pins _ σ H _ (I.tok _) h) fun us s1 ⟨vs, H1, I1, r1, a, C, ws, ev, hl, T, ea, q⟩ => ?_) he hpl
  subst ev
  cases r1 with
  | @cons _ u0 _ ur ra rw' =>
    obtain rfl : u0 = Value.ref a := ra
    have hlen : ur.length ≤ sizeLine := by
      rw [← Paired.length rw', sizeLine_eq]
      omega
    exact oinit_ok T I1 ea hlen fun s' J => ⟨.non, H1, J, rfl, q⟩
theorem ev_line {o e : Expr} {es : List Expr} {m : Str} {ap cp : Pos} {env : Env} (hbase : attributeBase o m env (eval o env) = eval o env) (hf : methodCallForm ((e :: es).length + 0) (backTo cp (starEach (e :: es) env)) (backToKw cp (keywordEach [] env)) = true) (hl : (ap.endLine == cp.line) = true) :
    eval (.Call (.Attribute o m ap) (e :: es) [] cp) env = (do
      let ov ← eval o env
      standAt ap.atName
      let (f, first) ← holding [ov] (getMethod ov m (plainOf o env))
      callWith cp f first (backTo cp (starEach (e :: es) env)) (backToKw cp (keywordEach [] env))) := by
  have h : eval (.Call (.Attribute o m ap) (e :: es) [] cp) env = (do
      let ov ← attributeBase o m env (eval o env)
      standAt ap.atName
      methodCall o m ap cp env ov ((e :: es).length + 0) (backTo cp (starEach (e :: es) env)) (backToKw cp (keywordEach [] env))) := by rfl
  rw [h, hbase]
  simp only [mcall_line hf hl]
/-- __init__ with one field, with two -/
def ini1B (sc : Scope) (f : Str) : List Stmt → Bool
  | [.Expr (.Call (.Attribute (.Name r _) i ap) [.Name s1 _, .Name f1 _] [] cp) _, .Assign [.Attribute (.Name s2 _) f2 _] (.Name f3 _) _] => decide (r = ("RingError" : Str)) && decide (i = ("__init__" : Str)) && decide ([s1, s2] = [("self" : Str), ("self" : Str)]) && decide ([f1, f2, f3] = [f, f, f]) && gliB sc "RingError" && (ap.endLine == cp.line)
  | _ => false
def ini2B (sc : Scope) (f g : Str) : List Stmt → Bool
  | [.Expr (.Call (.Attribute (.Name r _) i ap) [.Name s1 _, .Name f1 _, .Name g1 _] [] cp) _, .Assign [.Attribute (.Name s2 _) f2 _] (.Name f3 _) _, .Assign [.Attribute (.Name s3 _) g2 _] (.Name g3 _) _] => decide (r = ("RingError" : Str)) && decide (i = ("__init__" : Str)) && decide ([s1, s2, s3] = [("self" : Str), ("self" : Str), ("self" : Str)]) && decide ([f1, f2, f3] = [f, f, f]) && decide ([g1, g2, g3] = [g, g, g]) && gliB sc "RingError" && (ap.endLine == cp.line)
  | _ => false
def sp1 (K : PySem.W.Frag) (f : Str) : Sp := fun vs H Q E => ∃ (a C : Addr) (y : V), vs = [.ref a, y] ∧ OexC K C ∧ PySem.W.findIn K (.ref C) f = some none ∧ H a = some (exo a C none) ∧ ∀ dx, H dx = none → dx ≠ a → Q .non (upd (upd H dx (exd dx [(f, y)])) a (exo a C (some dx)))
def sp2 (K : PySem.W.Frag) (f g : Str) : Sp := fun vs H Q E => ∃ (a C : Addr) (y z : V), vs = [.ref a, y, z] ∧ OexC K C ∧ PySem.W.findIn K (.ref C) f = some none ∧ PySem.W.findIn K (.ref C) g = some none ∧ H a = some (exo a C none) ∧ ∀ dx, H dx = none → dx ≠ a → Q .non (upd (upd (upd H dx (exd dx [(f, y)])) a (exo a C (some dx))) dx (exd dx [(g, z), (f, y)]))
section
variable {X : Cx} {f g : Str} {body : List Stmt}
theorem pss_ini1 (R : ReF X.K X.mg) (eN : X.N = [("self" : Str), f]) (l0 : X.env.scope.names.lookup ("self" : Str) = some .local) (l1 : X.env.scope.names.lookup f = some .local) (d1 : (f == ("__debug__" : Str)) = false) (d2 : (f == ("__classdict__" : Str)) = false) (h : ini1B X.env.scope f body = true) :
    PSs X body (fun E σ H => ∃ (a C : Addr) (y : V), σ[0]? = some (some (.ref a)) ∧ σ[1]? = some (some y) ∧ OexC X.K C ∧ PySem.W.findIn X.K (.ref C) f = some none ∧ H a = some (exo a C none) ∧ ∀ dx, H dx = none → dx ≠ a → E.nx σ (upd (upd H dx (exd dx [(f, y)])) a (exo a C (some dx)))) := by
  unfold ini1B at h
  split at h
  case h_2 => cases h
  simp only [Bool.and_eq_true, decide_eq_true_eq, List.cons.injEq, and_true, gliB] at h
  obtain ⟨⟨⟨⟨⟨rfl, rfl⟩, ⟨rfl, rfl⟩⟩, ⟨e1, e2, e3⟩⟩, g1⟩, hp⟩ := h
  rw [e1, e2, e3]
  have ps : ∀ p, PE X (.Name "self" p) (tVar 0) := fun p => pe_var (by rw [eN]; rfl) (.inl l0)
  have pf : ∀ p, PE X (.Name f p) (tVar 1) := fun p => pe_var (by rw [eN]; rfl) (.inl l1) d1 d2
  refine wkSs (pss_cons (ps_expr (pe_reinit R g1 (pa_cons (ps _) (pa_cons (pf _) pa_nil rfl) rfl) (ev_line rfl rfl hp) rfl rfl)) (pss_one (ps_ost (ps _) (pf _)))) fun E σ H ⟨a, C, y, h0, h1, T, hno, ha, q⟩ => ?_
  refine ⟨.ref a, h0, y, h1, a, C, [y], rfl, (show 1 ≤ 1000 by decide), T, ha, ?_⟩
  exact ⟨y, h1, .ref a, h0, a, C, rfl, T, hno, .inl ⟨ha, q⟩⟩
theorem pss_ini2 (R : ReF X.K X.mg) (eN : X.N = [("self" : Str), f, g]) (l0 : X.env.scope.names.lookup ("self" : Str) = some .local) (l1 : X.env.scope.names.lookup f = some .local) (l2 : X.env.scope.names.lookup g = some .local) (d1 : (f == ("__debug__" : Str)) = false) (d2 : (f == ("__classdict__" : Str)) = false) (d3 : (g == ("__debug__" : Str)) = false) (d4 : (g == ("__classdict__" : Str)) = false) (h : ini2B X.env.scope f g body = true) :
    PSs X body (fun E σ H => ∃ (a C : Addr) (y z : V), σ[0]? = some (some (.ref a)) ∧ σ[1]? = some (some y) ∧ σ[2]? = some (some z) ∧ OexC X.K C ∧ PySem.W.findIn X.K (.ref C) f = some none ∧ PySem.W.findIn X.K (.ref C) g = some none ∧ H a = some (exo a C none) ∧ ∀ dx, H dx = none → dx ≠ a → E.nx σ (upd (upd (upd H dx (exd dx [(f, y)])) a (exo a C (some dx))) dx (exd dx [(g, z), (f, y)]))) := by
  unfold ini2B at h
  split at h
  case h_2 => cases h
  simp only [Bool.and_eq_true, decide_eq_true_eq, List.cons.injEq, and_true, gliB] at h
  obtain ⟨⟨⟨⟨⟨⟨rfl, rfl⟩, ⟨rfl, rfl, rfl⟩⟩, ⟨e1, e2, e3⟩⟩, ⟨e4, e5, e6⟩⟩, g1⟩, hp⟩ := h
  rw [e1, e2, e3, e4, e5, e6]
  have ps : ∀ p, PE X (.Name "self" p) (tVar 0) := fun p => pe_var (by rw [eN]; rfl) (.inl l0)
  have pf : ∀ p, PE X (.Name f p) (tVar 1) := fun p => pe_var (by rw [eN]; rfl) (.inl l1) d1 d2
  have pg : ∀ p, PE X (.Name g p) (tVar 2) := fun p => pe_var (by rw [eN]; rfl) (.inl l2) d3 d4
  refine wkSs (pss_cons (ps_expr (pe_reinit R g1 (pa_cons (ps _) (pa_cons (pf _) (pa_cons (pg _) pa_nil rfl) rfl) rfl) (ev_line rfl rfl hp) rfl rfl)) (pss_cons (ps_ost (ps _) (pf _)) (pss_one (ps_ost (ps _) (pg _))))) fun E σ H ⟨a, C, y, z, h0, h1, h2, T, hno, hno2, ha, q⟩ => ?_
  refine ⟨.ref a, h0, y, h1, z, h2, a, C, [y, z], rfl, (show 2 ≤ 1000 by decide), T, ha, ?_⟩
  refine ⟨y, h1, .ref a, h0, a, C, rfl, T, hno, .inl ⟨ha, fun dx hn hne => ?_⟩⟩
  refine ⟨z, h2, .ref a, h0, a, C, rfl, T, hno2, .inr ⟨dx, [(f, y)], upd_same, by rw [upd_ne hne, upd_same], (show 1 ≤ 900 by decide), q dx hn hne⟩⟩
end
/-- what is known of a class whose __init__ keeps one field, two -/
structure Ini1 (K : PySem.W.Frag) (C f : Str) : Prop where
  ex : ∃ (fI : Addr) (params : Arguments) (body : List Stmt) (scope : Scope) (name qual : Str) (dV kV doc pm cdv ct oc : Value) (an od : Option Addr) (osl : Array (Option Value)),
    K.lookup fI = some ⟨oc, od, .func (PySem.W.fnOf name qual params body scope dV kV doc pm an cdv ct), osl⟩ ∧ PySem.W.codeIn K cdv qual = true ∧ FnScope [("self" : Str), f] [("self" : Str), f] scope ∧ ini1B scope f body = true ∧
      scope.names.lookup ("self" : Str) = some .local ∧ scope.names.lookup f = some .local ∧ PySem.W.findIn K (.ref (He.ga K C)) "__init__" = some (some (.ref fI)) ∧ PySem.W.typeIn K (.ref fI) = some (.type "function") ∧ Binds K (PySem.W.fnOf name qual params body scope dV kV doc pm an cdv ct) [("self" : Str), f] []
  T : OexC K (He.ga K C)
  no : PySem.W.findIn K (.ref (He.ga K C)) f = some none
structure Ini2 (K : PySem.W.Frag) (C f g : Str) : Prop where
  ex : ∃ (fI : Addr) (params : Arguments) (body : List Stmt) (scope : Scope) (name qual : Str) (dV kV doc pm cdv ct oc : Value) (an od : Option Addr) (osl : Array (Option Value)),
    K.lookup fI = some ⟨oc, od, .func (PySem.W.fnOf name qual params body scope dV kV doc pm an cdv ct), osl⟩ ∧ PySem.W.codeIn K cdv qual = true ∧ FnScope [("self" : Str), f, g] [("self" : Str), f, g] scope ∧ ini2B scope f g body = true ∧
      scope.names.lookup ("self" : Str) = some .local ∧ scope.names.lookup f = some .local ∧ scope.names.lookup g = some .local ∧ PySem.W.findIn K (.ref (He.ga K C)) "__init__" = some (some (.ref fI)) ∧ PySem.W.typeIn K (.ref fI) = some (.type "function") ∧ Binds K (PySem.W.fnOf name qual params body scope dV kV doc pm an cdv ct) [("self" : Str), f, g] []
  T : OexC K (He.ga K C)
  no : PySem.W.findIn K (.ref (He.ga K C)) f = some none
  no2 : PySem.W.findIn K (.ref (He.ga K C)) g = some none
theorem fnOk_of {P : Program} {w : World} {K : PySem.W.Frag} {mg : Str → Option Value} {base : Heap} {CX : CXT} {k : Nat} {f : Addr} {fd : FuncData} {ps : List Str} {sp : Sp} (F : FnG true P w K mg base CX k f fd ps sp) : FnOk P w K mg base CX k f fd ps sp :=
  ⟨F.len, fun A outer s H args us vs Q E hr e0 b r h => F.run A outer s H args us vs Q E hr (fun z => nomatch z) e0 b r h⟩
section
variable {P : Program} {w : World} {K : PySem.W.Frag} {mg : Str → Option Value} {base : Heap} {C f g : Str}
theorem ini1_ok (R : ReF K mg) (d1 : (f == ("__debug__" : Str)) = false) (d2 : (f == ("__classdict__" : Str)) = false) (I : Ini1 K C f) : ∃ fI fd, PySem.W.findIn K (.ref (He.ga K C)) "__init__" = some (some (.ref fI)) ∧ PySem.W.typeIn K (.ref fI) = some (.type "function") ∧ Binds K fd [("self" : Str), f] [] ∧ FnOk P w K mg base C8.CX0 1 fI fd [("self" : Str), f] (sp1 K f) := by
  obtain ⟨fI, params, body, scope, name, qual, dV, kV, doc, pm, cdv, ct, oc, an, od, osl, lk, hcd, S, hb, l0, l1, hi, ht, hbd⟩ := I.ex
  refine ⟨fI, _, hi, ht, hbd, fnOk_of (fn_ofG (k := 0) lk hcd S (fun vs H Q E ⟨a, C, y, e, _⟩ => by rw [e]; rfl) fun A outer s H vs Q E hr hgd hsp => ?_)⟩
  refine ⟨_, pss_ini1 (X := cxOf C8.CX0 P w K mg base _ qual scope fI cdv A outer s H E) R rfl l0 l1 d1 d2 hb, ?_⟩
  obtain ⟨a, C', y, e, T, hno, ha, q⟩ := hsp
  subst e
  exact ⟨a, C', y, rfl, rfl, T, hno, ha, q⟩
theorem ini2_ok (R : ReF K mg) (d1 : (f == ("__debug__" : Str)) = false) (d2 : (f == ("__classdict__" : Str)) = false) (d3 : (g == ("__debug__" : Str)) = false) (d4 : (g == ("__classdict__" : Str)) = false) (I : Ini2 K C f g) : ∃ fI fd, PySem.W.findIn K (.ref (He.ga K C)) "__init__" = some (some (.ref fI)) ∧ PySem.W.typeIn K (.ref fI) = some (.type "function") ∧ Binds K fd [("self" : Str), f, g] [] ∧ FnOk P w K mg base C8.CX0 1 fI fd [("self" : Str), f, g] (sp2 K f g) := by
  obtain ⟨fI, params, body, scope, name, qual, dV, kV, doc, pm, cdv, ct, oc, an, od, osl, lk, hcd, S, hb, l0, l1, l2, hi, ht, hbd⟩ := I.ex
  refine ⟨fI, _, hi, ht, hbd, fnOk_of (fn_ofG (k := 0) lk hcd S (fun vs H Q E ⟨a, C, y, z, e, _⟩ => by rw [e]; rfl) fun A outer s H vs Q E hr hgd hsp => ?_)⟩
  refine ⟨_, pss_ini2 (X := cxOf C8.CX0 P w K mg base _ qual scope fI cdv A outer s H E) R rfl l0 l1 l2 d1 d2 d3 d4 hb, ?_⟩
  obtain ⟨a, C', y, z, e, T, hno, hno2, ha, q⟩ := hsp
  subst e
  exact ⟨a, C', y, z, rfl, rfl, rfl, T, hno, hno2, ha, q⟩
end
/-- the heap behind the making: a new dict -/
theorem made_new {H H2 : Hp} {a dx : Addr} {fs : List (Str × V)} (ha : H a = none) (hne : dx ≠ a) (h : ∀ b, b ≠ a → b ≠ dx → H2 b = H b) : upd (del H2 a) dx (.xd fs) = upd H dx (.xd fs) := by
  funext b
  by_cases e : b = dx
  · rw [e, upd_same, upd_same]
  · rw [upd_ne e, upd_ne e]
    by_cases e2 : b = a
    · rw [e2, del_same, ha]
    · rw [del_ne e2]; exact h b e2 e
theorem okX_1 {k : Nat} {ds : List D} (hk : k = 7 ∨ k = 8) (h : okX ⟨k, ds⟩ = true) : ∃ i, ds = [.int i] := by
  rcases hk with rfl | rfl
  · match ds, h with
    | [.int i], _ => exact ⟨i, rfl⟩
    | [], h => cases h
    | .none :: _, h => cases h
    | .bool _ :: _, h => cases h
    | .str _ :: _, h => cases h
    | .list _ :: _, h => cases h
    | .tuple _ :: _, h => cases h
    | .dict _ :: _, h => cases h
    | .int _ :: _ :: _, h => cases h
  · match ds, h with
    | [.int i], _ => exact ⟨i, rfl⟩
    | [], h => cases h
    | .none :: _, h => cases h
    | .bool _ :: _, h => cases h
    | .str _ :: _, h => cases h
    | .list _ :: _, h => cases h
    | .tuple _ :: _, h => cases h
    | .dict _ :: _, h => cases h
    | .int _ :: _ :: _, h => cases h
theorem okX_2 {ds : List D} (h : okX ⟨9, ds⟩ = true) : ∃ i j, ds = [.int i, .int j] := by
  match ds, h with
  | [.int i, .int j], _ => exact ⟨i, j, rfl⟩
  | [], h => cases h
  | [.int i], h => cases h
  | .none :: _, h => cases h
  | .bool _ :: _, h => cases h
  | .str _ :: _, h => cases h
  | .list _ :: _, h => cases h
  | .tuple _ :: _, h => cases h
  | .dict _ :: _, h => cases h
  | .int _ :: .none :: _, h => cases h
  | .int _ :: .bool _ :: _, h => cases h
  | .int _ :: .str _ :: _, h => cases h
  | .int _ :: .list _ :: _, h => cases h
  | .int _ :: .tuple _ :: _, h => cases h
  | .int _ :: .dict _ :: _, h => cases h
  | .int _ :: .int _ :: _ :: _, h => cases h
section
variable {X : Cx} {G : Gv} {c : CallT} {e : Expr} {es' : List Expr} {p pos rp : Pos} {C : Str} {k : Nat} {es : CEs} {ww : WX}
theorem stp_S {ρ ρ' : Rho} {σ : L2.St} {H H' : Hp} (s : Stp ρ H ρ' H' σ) : SStp ρ σ H ρ' σ H' := ⟨s.fr, fun a h => .inl (s.ow a h), s.pa, fun _ _ => rfl⟩
/-- raise C(y): a refusal with a field -/
theorem raise_1 (hcm : X.calm = true) (eK : X.K = G.K) (hW : G.W = some ww) (tk : Takes X ww) (eX : G.XO = XOK G.K) (R : ReF X.K X.mg) (hk : k = 7 ∨ k = 8) (hC : cn10[k]? = some C) (I : Ini1 X.K C "at") (hr : Room 2 X.A) (hg : Gl X C) (hm : X.mg C = some (.ref (He.ga X.K C))) (hdb : (C == ("__debug__" : Str)) = false)
    (ha : PA X (e :: es') (tMs G (evEs c es))) (he : starEach (e :: es') X.env = (false, eval e X.env) :: starEach es' X.env) (hpl : (backTo pos (starEach es' X.env)).any (·.1) = false) :
    PS X (.Raise (some (.Call (.Name C p) (e :: es') [] pos)) none rp) (tS G (evS c (.rais k es))) := by
  obtain ⟨fI, fd, hi, ht, hb, F⟩ := ini1_ok (P := X.prog) (w := X.w) (base := X.base) R (by decide) (by decide) I
  refine wkS (ps_raise hcm tk (pmk_oex (p := p) (pos := pos) I.T hi ht F hr hb .nil C8.pass0 hg hm ha hdb he hpl)) fun E σ H ⟨ρ, r, q⟩ => ?_
  refine ⟨ρ, r, ?_⟩
  have q : postS G E ρ σ H ((evEs c es ρ).thn fun xs ρ1 => if okX ⟨k, xs⟩ = true then .exc ⟨k, xs⟩ ρ1 else .stuck) := q
  cases ev : evEs c es ρ with
  | stuck => rw [ev] at q; exact q
  | exc z ρ1 =>
    rw [ev] at q
    have q : zXS G ρ σ H z ρ1 := q
    show zX G σ ρ H z ρ1
    unfold zXS at q
    unfold zX
    rw [hW] at q ⊢
    exact fun cc dd H' r' xo s' => q cc dd σ H' r' xo (stp_S s')
  | ok ds ρ1 =>
    rw [ev] at q
    intro H1 r1 s1 vs rpa
    have q : postS G E ρ σ H (if okX ⟨k, ds⟩ = true then .exc ⟨k, ds⟩ ρ1 else .stuck) := q
    cases ho : okX ⟨k, ds⟩ with
    | false => rw [ho] at q; exact q.elim
    | true =>
      rw [ho, if_pos rfl] at q
      have q : zXS G ρ σ H ⟨k, ds⟩ ρ1 := q
      unfold zXS at q
      rw [hW] at q
      obtain ⟨i, rfl⟩ := okX_1 hk ho
      cases rpa with
      | cons h0 h1 =>
        cases h1
        cases h0
        refine ⟨(show 1 ≤ 1000 by decide), fun a na => ?_⟩
        refine ⟨a, He.ga X.K C, .int i, rfl, I.T, I.no, upd_same, fun dx hn hne => ⟨rfl, dx, [(("at" : Str), .int i)], upd_same, by rw [upd_ne hne, upd_same], by rw [upd_ne hne] at hn; exact hn, ?_⟩⟩
        have hn1 : H1 dx = none := by rw [upd_ne hne] at hn; exact hn
        rw [made_new (H := H1) na hne fun b hb1 hb2 => by rw [upd_ne hb1, upd_ne hb2, upd_ne hb1]]
        have g := Grw.new (o := .xd [(("at" : Str), V.int i)]) hn1
        refine q _ _ σ _ (r1.grw g) ?_ (stp_S (s1.trans (Stp.grw g)))
        rw [eX]
        exact .inr (.inl ⟨hk, C, dx, _, i, hC, by rw [eK], rfl, upd_same, rfl, rfl⟩)
/-- raise C(y, z): with two -/
theorem raise_2 (hcm : X.calm = true) (eK : X.K = G.K) (hW : G.W = some ww) (tk : Takes X ww) (eX : G.XO = XOK G.K) (R : ReF X.K X.mg) (hC : cn10[9]? = some C) (I : Ini2 X.K C "many" "most") (hr : Room 2 X.A) (hg : Gl X C) (hm : X.mg C = some (.ref (He.ga X.K C))) (hdb : (C == ("__debug__" : Str)) = false)
    (ha : PA X (e :: es') (tMs G (evEs c es))) (he : starEach (e :: es') X.env = (false, eval e X.env) :: starEach es' X.env) (hpl : (backTo pos (starEach es' X.env)).any (·.1) = false) :
    PS X (.Raise (some (.Call (.Name C p) (e :: es') [] pos)) none rp) (tS G (evS c (.rais 9 es))) := by
  obtain ⟨fI, fd, hi, ht, hb, F⟩ := ini2_ok (P := X.prog) (w := X.w) (base := X.base) R (by decide) (by decide) (by decide) (by decide) I
  refine wkS (ps_raise hcm tk (pmk_oex (p := p) (pos := pos) I.T hi ht F hr hb .nil C8.pass0 hg hm ha hdb he hpl)) fun E σ H ⟨ρ, r, q⟩ => ?_
  refine ⟨ρ, r, ?_⟩
  have q : postS G E ρ σ H ((evEs c es ρ).thn fun xs ρ1 => if okX ⟨9, xs⟩ = true then .exc ⟨9, xs⟩ ρ1 else .stuck) := q
  cases ev : evEs c es ρ with
  | stuck => rw [ev] at q; exact q
  | exc z ρ1 =>
    rw [ev] at q
    have q : zXS G ρ σ H z ρ1 := q
    show zX G σ ρ H z ρ1
    unfold zXS at q
    unfold zX
    rw [hW] at q ⊢
    exact fun cc dd H' r' xo s' => q cc dd σ H' r' xo (stp_S s')
  | ok ds ρ1 =>
    rw [ev] at q
    intro H1 r1 s1 vs rpa
    have q : postS G E ρ σ H (if okX ⟨9, ds⟩ = true then .exc ⟨9, ds⟩ ρ1 else .stuck) := q
    cases ho : okX ⟨9, ds⟩ with
    | false => rw [ho] at q; exact q.elim
    | true =>
      rw [ho, if_pos rfl] at q
      have q : zXS G ρ σ H ⟨9, ds⟩ ρ1 := q
      unfold zXS at q
      rw [hW] at q
      obtain ⟨i, j, rfl⟩ := okX_2 ho
      cases rpa with
      | cons h0 h1 =>
        cases h1 with
        | cons h1 h2 =>
          cases h2
          cases h0
          cases h1
          refine ⟨(show 2 ≤ 1000 by decide), fun a na => ?_⟩
          refine ⟨a, He.ga X.K C, .int i, .int j, rfl, I.T, I.no, I.no2, upd_same, fun dx hn hne => ⟨rfl, dx, [(("most" : Str), .int j), (("many" : Str), .int i)], by rw [upd_ne (Ne.symm hne), upd_same], upd_same, by rw [upd_ne hne] at hn; exact hn, ?_⟩⟩
          have hn1 : H1 dx = none := by rw [upd_ne hne] at hn; exact hn
          rw [made_new (H := H1) na hne fun b hb1 hb2 => by rw [upd_ne hb2, upd_ne hb1, upd_ne hb2, upd_ne hb1]]
          have g := Grw.new (o := .xd [(("most" : Str), V.int j), (("many" : Str), V.int i)]) hn1
          refine q _ _ σ _ (r1.grw g) ?_ (stp_S (s1.trans (Stp.grw g)))
          rw [eX]
          exact .inr (.inr ⟨rfl, C, dx, _, i, j, hC, by rw [eK], rfl, upd_same, rfl, rfl, rfl⟩)
end
end Tw

set_option Elab.async false
set_option linter.all false
set_option maxRecDepth 100000
set_option maxHeartbeats 1000000
namespace Tw
open PySem PySem.Spec PyProof.Rows L2

section
variable {K : PySem.W.Frag} {B0 : Addr → Prop} {H H' : Hp} {as : List Arg} {vs : List V} {n : Nat}
/-- the empty slots behind the parameters -/
theorem get_ext {α : Type} {l : List (Option α)} {i : Nat} {x : α} : (l ++ List.replicate n none)[i]? = some (some x) ↔ l[i]? = some (some x) := by
  by_cases h : i < l.length
  · rw [List.getElem?_append_left h]
  · rw [List.getElem?_append_right (by omega), List.getElem?_replicate, List.getElem?_eq_none (by omega)]
    constructor
    · intro e; split at e <;> cases e
    · intro e; cases e
theorem mut_ext {ρ : Rho} {i : Nat} {xs : List D} : mutAt (ρ ++ List.replicate n none) i xs ↔ mutAt ρ i xs := by
  unfold mutAt
  rw [get_ext, get_ext]
theorem own_ext {ρ : Rho} {σ : L2.St} {a : Addr} : Own (ρ ++ List.replicate n none) (σ ++ List.replicate n none) a ↔ Own ρ σ a := by
  unfold Own
  simp only [mut_ext, get_ext]
theorem Rl.ext {ρ : Rho} {σ : L2.St} (r : Rl K B0 ρ σ H) (n : Nat) : Rl K B0 (ρ ++ List.replicate n none) (σ ++ List.replicate n none) H := by
  have bs : ∀ a, Bs B0 (ρ ++ List.replicate n none) (σ ++ List.replicate n none) a → Bs B0 ρ σ a := fun a z => z.imp id own_ext.mp
  refine ⟨by simp [r.len], fun i d e => ?_, fun i xs m => ?_, fun i j xs ys a m1 m2 e1 e2 => ?_, r.amb, r.tab⟩
  · obtain ⟨v, e1, h⟩ := r.dat i d (get_ext.mp e)
    exact ⟨v, get_ext.mpr e1, h.less bs⟩
  · obtain ⟨a, us, e1, e2, z, h, nb⟩ := r.mu i xs (mut_ext.mp m)
    exact ⟨a, us, get_ext.mpr e1, e2, z, h.less bs, nb⟩
  · exact r.inj i j xs ys a (mut_ext.mp m1) (mut_ext.mp m2) (get_ext.mp e1) (get_ext.mp e2)
theorem outs_spec : ∀ {as : List Arg} {ρ' : Rho} {o : List (List D)}, outsOf as ρ' = some o → ∃ ρo, outR as o = some ρo ∧ ρo.length = as.length ∧
    ∀ p : Nat, (∀ d, as[p]? = some (.val d) → ρo[p]? = some (some (.dat d))) ∧ ∀ xs, as[p]? = some (.mut xs) → ∃ ys, ρ'[p]? = some (some (.par ys)) ∧ ρo[p]? = some (some (.par ys))
  | [], ρ', o, h => by
    cases h
    exact ⟨[], rfl, rfl, fun p => ⟨fun d e => by simp at e, fun xs e => by simp at e⟩⟩
  | .val d :: as, [], o, h => by cases h
  | .mut xs :: as, [], o, h => by cases h
  | .val d :: as, x :: ρ', o, h => by
    obtain ⟨ρo, h1, h2, h3⟩ := outs_spec (show outsOf as ρ' = some o from h)
    refine ⟨some (.dat d) :: ρo, ?_, by simp [h2], fun p => ?_⟩
    · show (outR as o).map _ = _
      rw [h1]; rfl
    · cases p with
      | zero => exact ⟨fun d' e => by simp at e; subst e; rfl, fun xs e => by simp at e⟩
      | succ p =>
        obtain ⟨q1, q2⟩ := h3 p
        exact ⟨fun d' e => by simpa using q1 d' (by simpa using e), fun xs e => by simpa using q2 xs (by simpa using e)⟩
  | .mut xs :: as, some (.par ys) :: ρ', o, h => by
    have h' : (outsOf as ρ').map (ys :: ·) = some o := h
    obtain ⟨o', e1, rfl⟩ := Option.map_eq_some_iff.mp h'
    obtain ⟨ρo, h1, h2, h3⟩ := outs_spec e1
    refine ⟨some (.par ys) :: ρo, ?_, by simp [h2], fun p => ?_⟩
    · show (outR as o').map _ = _
      rw [h1]; rfl
    · cases p with
      | zero => exact ⟨fun d' e => by simp at e, fun zs e => ⟨ys, rfl, rfl⟩⟩
      | succ p =>
        obtain ⟨q1, q2⟩ := h3 p
        exact ⟨fun d' e => by simpa using q1 d' (by simpa using e), fun xs e => by simpa using q2 xs (by simpa using e)⟩
  | .mut xs :: as, none :: ρ', o, h => by cases h
  | .mut xs :: as, some (.dat _) :: ρ', o, h => by cases h
  | .mut xs :: as, some (.own _) :: ρ', o, h => by cases h
/-- a body's end, for the caller -/
theorem end_ok {E : Addr → Prop} {ρ' : Rho} {σ' : L2.St} {o : List (List D)} {ρo : Rho} (r : Rl K B0 (as.map Arg.ent) (vs.map some) H) (s : SStp (as.map Arg.ent ++ List.replicate n none) (vs.map some ++ List.replicate n none) H ρ' σ' H') (hs : outR as o = some ρo) (hl : ρo.length = as.length)
    (hx : ∀ p : Nat, (∀ d, as[p]? = some (.val d) → ρo[p]? = some (some (.dat d))) ∧ ∀ xs, as[p]? = some (.mut xs) → ∃ ys, ρ'[p]? = some (some (.par ys)) ∧ ρo[p]? = some (some (.par ys)))
    (hE : ∀ a, E a → Nw H a) (r' : Rl K (fun a => B0 a ∨ E a) ρ' σ' H') : Rl K (fun a => B0 a ∨ E a) ρo (vs.map some) H' ∧ Fr (Own (as.map Arg.ent) (vs.map some)) H H' ∧ ∀ a, Bs (fun a => B0 a ∨ E a) ρo (vs.map some) a → Bs (fun a => B0 a ∨ E a) ρ' σ' a := by
  have hlen : as.length = vs.length := by have := r.len; simpa using this
  -- a place
  have cas : ∀ (p : Nat) (e : Ent), ρo[p]? = some (some e) → (∃ d, as[p]? = some (.val d) ∧ e = .dat d) ∨ ∃ xs ys, as[p]? = some (.mut xs) ∧ e = .par ys ∧ ρ'[p]? = some (some (.par ys)) := fun p e q => by
    have hp : p < as.length := by rw [← hl]; exact (List.getElem?_eq_some_iff.mp q).1
    have ea : as[p]? = some as[p] := List.getElem?_eq_getElem hp
    cases eq : as[p] with
    | val d =>
      rw [eq] at ea
      have := (hx p).1 d ea
      rw [q] at this
      cases this
      exact .inl ⟨d, ea, rfl⟩
    | «mut» xs =>
      rw [eq] at ea
      obtain ⟨ys, h1, h2⟩ := (hx p).2 xs ea
      rw [q] at h2
      cases h2
      exact .inr ⟨xs, ys, ea, rfl, h1⟩
  have mo : ∀ (p : Nat) (ys : List D), mutAt ρo p ys → ρ'[p]? = some (some (.par ys)) ∧ mutAt ρ' p ys ∧ (∃ xs, (as.map Arg.ent)[p]? = some (some (.par xs))) ∧ σ'[p]? = (vs.map some)[p]? := fun p ys m => by
    have hh : ∃ xs, as[p]? = some (.mut xs) ∧ ρ'[p]? = some (some (.par ys)) := by
      rcases m with m | m
      · rcases cas p _ m with ⟨d, _, q⟩ | ⟨xs, ys', _, q, _⟩ <;> cases q
      · rcases cas p _ m with ⟨d, _, q⟩ | ⟨xs, ys', q1, q, q2⟩
        · cases q
        · cases q; exact ⟨xs, q1, q2⟩
    obtain ⟨xs, q1, q2⟩ := hh
    have q3 : (as.map Arg.ent)[p]? = some (some (.par xs)) := by rw [List.getElem?_map, q1]; rfl
    have q4 : σ'[p]? = (vs.map some ++ List.replicate n none)[p]? := s.ps p (by rw [get_ext.mpr q3]; rfl)
    refine ⟨q2, .inr q2, ⟨xs, q3⟩, ?_⟩
    have hp : p < vs.length := by rw [← hlen]; exact (List.getElem?_eq_some_iff.mp q1).1
    rw [q4, List.getElem?_append_left (by simpa using hp)]
  have ow : ∀ a, Own ρo (vs.map some) a → Own ρ' σ' a := fun a ⟨p, ys, m, e⟩ => by
    obtain ⟨_, m', _, q⟩ := mo p ys m
    exact ⟨p, ys, m', by rw [q]; exact e⟩
  have bs : ∀ a, Bs (fun a => B0 a ∨ E a) ρo (vs.map some) a → Bs (fun a => B0 a ∨ E a) ρ' σ' a := fun a z => z.imp id (ow a)
  have fr : Fr (Own (as.map Arg.ent) (vs.map some)) H H' := fun a q e nn t => s.fr a q e (fun z => nn (own_ext.mp z)) t
  have own0 : ∀ a, Own ρo (vs.map some) a → Own (as.map Arg.ent) (vs.map some) a := fun a ⟨p, ys, m, e⟩ => by
    obtain ⟨_, _, ⟨xs, q⟩, _⟩ := mo p ys m
    exact ⟨p, xs, .inr q, e⟩
  refine ⟨⟨by rw [hl, List.length_map, hlen], fun p d e => ?_, fun p ys m => ?_, fun p q ys zs a m1 m2 e1 e2 => ?_, r'.amb, r'.tab⟩, fr, bs⟩
  · rcases cas p _ e with ⟨d', q1, q2⟩ | ⟨xs, ys, _, q, _⟩
    · cases q2
      obtain ⟨v, e1, h⟩ := r.dat p d (by rw [List.getElem?_map, q1]; rfl)
      refine ⟨v, e1, h.mono fr (fun a z => .inr z) r.own_lst fun a z => ?_⟩
      rcases z with (z | z) | z
      · exact .inl (.inl z)
      · exact .inr (hE a z)
      · exact .inl (.inr (own0 a z))
    · cases q
  · obtain ⟨_, m', _, q⟩ := mo p ys m
    obtain ⟨a, us, e1, e2, z, h, nb⟩ := r'.mu p ys m'
    exact ⟨a, us, by rw [← q]; exact e1, e2, z, h.less bs, nb⟩
  · obtain ⟨_, m1', _, q1⟩ := mo p ys m1
    obtain ⟨_, m2', _, q2⟩ := mo q zs m2
    exact r'.inj p q ys zs a m1' m2' (by rw [q1]; exact e1) (by rw [q2]; exact e2)
end

def fnName : Stmt → Str
  | .FunctionDef n .. => n
  | _ => ""
def fnBody : Stmt → List Stmt
  | .FunctionDef _ _ b .. => b
  | _ => []
def fnSc : Stmt → Scope
  | .FunctionDef _ _ _ _ _ _ sc .. => sc
  | _ => ⟨.module, [], false, false, []⟩
def scB (N ps : List Str) (sc : Scope) : Bool :=
  decide (sc.kind = .function) && !sc.isCoroutine && !sc.isGenerator && decide (N.Nodup) && decide (N.take ps.length = ps) && (ps.all fun x => match sc.names.lookup x with | some .local => true | some .cell => true | _ => false) && (sc.names.all fun y => !(y.2 == .free))
theorem scB_of {N ps : List Str} {sc : Scope} (h : scB N ps sc = true) : FnScope N ps sc := by
  unfold scB at h
  simp only [Bool.and_eq_true, decide_eq_true_eq, List.all_eq_true, Bool.not_eq_true'] at h
  obtain ⟨⟨⟨⟨⟨⟨h1, h2⟩, h3⟩, h4⟩, h5⟩, h6⟩, h7⟩ := h
  refine ⟨h1, h2, h3, h4, h5, fun x hx => ?_, fun y hy e => ?_⟩
  · have := h6 x hx
    split at this
    · exact .inl (by assumption)
    · exact .inr (by assumption)
    · cases this
  · have := h7 y hy
    rw [e] at this
    exact absurd this (by decide)
/-- the text of function id is what the table holds -/
def chkF (T : Tbl) (tab : Nat → FnDef) (p id : Nat) (N ps : List Str) (sc : Scope) (body : List Stmt) : Bool :=
  scB N ps sc && decide ((tab id).slots = N.length) && decide ((tab id).params = ps.length) && chkSs T ⟨p, T.lam.contains p, decide (p < T.rlim)⟩ N sc (tab id).body body && ((T.fns.take p).all fun q => decide (q.1 < id))
section
variable {xs : Bool} {T : Tbl} {tab : Nat → FnDef} {P : Program} {w : World} {K : PySem.W.Frag} {mg : Str → Option Value} {XO : Exc → Value → Option Addr → Hp → Prop}
/-- what is known of function id in the module -/
structure FnAt (T : Tbl) (tab : Nat → FnDef) (K : PySem.W.Frag) (mg : Str → Option Value) (p id : Nat) (x : Str) : Prop where
  ex : ∃ (f : Addr) (name qual : Str) (params : Arguments) (body : List Stmt) (scope : Scope) (dV kV doc pm cdv ct oc : Value) (an od : Option Addr) (osl : Array (Option Value)) (N ps : List Str),
    K.lookup f = some ⟨oc, od, .func (PySem.W.fnOf name qual params body scope dV kV doc pm an cdv ct), osl⟩ ∧ PySem.W.codeIn K cdv qual = true ∧ chkF T tab p id N ps scope body = true ∧ f = He.ga K x ∧ (T.lam.contains p = true → qual = x ∧ x ∈ lamNames) ∧ mg x = some (.ref f) ∧ PySem.W.keepIn K (.ref f) = true ∧
      BndK T K x (PySem.W.fnOf name qual params body scope dV kV doc pm an cdv ct) ps
theorem nodup_fst : ∀ {l : List (Addr × Str)} {p q : Addr × Str}, (l.map (·.1)).Nodup → p ∈ l → q ∈ l → p.1 = q.1 → p = q
  | [], _, _, _, h, _, _ => by cases h
  | a :: l, p, q, nd, hp, hq, e => by
    rw [List.map_cons, List.nodup_cons] at nd
    rcases List.mem_cons.mp hp with rfl | _
    · rcases List.mem_cons.mp hq with rfl | hq
      · rfl
      · exact absurd (List.mem_map.mpr ⟨q, hq, e.symm⟩) nd.1
    · rename_i hp'
      rcases List.mem_cons.mp hq with rfl | hq
      · exact absurd (List.mem_map.mpr ⟨p, hp', e⟩ : q.1 ∈ l.map (·.1)) nd.1
      · exact nodup_fst nd.2 hp' hq e
/-- what is known of a class that is raised -/
structure RsF (K : PySem.W.Frag) (mg : Str → Option Value) (C : Str) : Prop where
  g : mg C = some (.ref (He.ga K C))
  x : PySem.W.excIn K (He.ga K C) He.veBase "ValueError.__new__" = true
  k : PySem.W.keepIn K (.ref (He.ga K C)) = true
  b : PySem.W.subIn K (.ref (He.ga K C)) (.type "BaseException") = some true
  t : PySem.W.typeIn K (.ref (He.ga K C)) = some (.type "type")
/-- what is known of the refusals with fields -/
structure FxF (K : PySem.W.Frag) (mg : Str → Option Value) : Prop where
  re : ReF K mg
  g : ∀ (i : Nat) (C : Str), cn10[i]? = some C → mg C = some (.ref (He.ga K C))
  i1 : ∀ (i : Nat) (C : Str), i = 7 ∨ i = 8 → cn10[i]? = some C → Ini1 K C "at"
  i2 : ∀ C : Str, cn10[9]? = some C → Ini2 K C "many" "most"
theorem okX_lt {k : Nat} {ds : List D} (h : k < 7) : okX ⟨k, ds⟩ = true := by unfold okX; exact if_pos h
theorem raise_own {c : CallT} {lim : Lv} {N : List Str} {X : Cx} {G : Gv} {sc : Scope} {ww : WX} (hex : T.exc = true) (C : Cok xs T tab c lim N X G sc sc) (hW : G.W = some ww) (tk : Takes X ww) (eX : G.XO = XOK G.K) (hrs : ∀ (i : Nat) (C : Str), i < 7 → cn10[i]? = some C → RsF X.K X.mg C) (FX : FxF X.K X.mg) (hr2 : Room 2 X.A)
    (k : Nat) (es : CEs) (x : Stmt) (h : chkS T lim N sc (.rais k es) x = true) : PS X x (tS G (evS c (.rais k es))) := by
  have h : (!T.exc || (raisB sc k es x || raisF T lim N sc k es x)) = true := h
  rw [hex] at h
  have h : (raisB sc k es x || raisF T lim N sc k es x) = true := h
  rcases Bool.or_eq_true_iff.mp h with h | h
  · unfold raisB at h
    split at h
    case h_2 => cases h
    cases es with
    | cons _ _ => cases h
    | nil =>
      obtain ⟨h1, h2⟩ := andT h
      obtain ⟨h3, h4⟩ := andT h1
      have h7 : k < 7 := of_decide_eq_true (andT h3).2
      have hC := of_decide_eq_true h4
      have R := hrs k _ h7 hC
      refine wkS (ps_raise C.calm tk (pmk_own PySem.F.excBase_ValueError R.x R.g R.k (raises_own R.b R.t) (C.gl h2) (glB_of h2).2.1)) fun E σ H ⟨ρ, r, q⟩ => ?_
      have q : postS G E ρ σ H (if okX ⟨k, []⟩ = true then .exc ⟨k, []⟩ ρ else .stuck) := q
      rw [if_pos (okX_lt h7)] at q
      have q : zXS G ρ σ H ⟨k, []⟩ ρ := q
      unfold zXS at q
      rw [hW] at q
      exact q _ _ σ H r (by rw [eX]; exact .inl ⟨h7, _, hC, by rw [C.eK], rfl⟩) SStp.refl
  · unfold raisF at h
    split at h
    case h_2 => cases h
    rename_i y py args cp rp q1 q2 q3
    obtain ⟨h1, h2⟩ := andT h
    obtain ⟨h3, h4⟩ := andT h1
    obtain ⟨h5, h6⟩ := andT h3
    obtain ⟨h7, h8⟩ := andT h5
    obtain ⟨h9, h10⟩ := andT h7
    have hC := of_decide_eq_true h8
    have g7 := of_decide_eq_true h9
    have g10 := of_decide_eq_true h10
    have ks := soundEs es C h4
    cases args with
    | nil => cases h2
    | cons a0 r0 =>
      have hst : starEach (a0 :: r0) X.env = (false, eval a0 X.env) :: starEach r0 X.env := by
        cases es with
        | nil => cases h4
        | cons e0 es0 =>
          have h4' : (notStar a0 && chkE T lim N sc e0 a0 && chkEs T lim N sc es0 r0) = true := h4
          exact star_cons (andT (andT h4').1).1
      have hpl : (backTo cp (starEach r0 X.env)).any (·.1) = false := by
        have := ks.st cp
        rw [hst] at this
        have : (false || (backTo cp (starEach r0 X.env)).any (·.1)) = false := this
        simpa using this
      have hm := FX.g k y hC
      rcases (show (k = 7 ∨ k = 8) ∨ k = 9 by omega) with hk | rfl
      · exact raise_1 C.calm C.eK hW tk eX FX.re hk hC (FX.i1 k y hk hC) hr2 (C.gl h6) hm (glB_of h6).2.1 ks.a hst hpl
      · exact raise_2 C.calm C.eK hW tk eX FX.re hC (FX.i2 y hC) hr2 (C.gl h6) hm (glB_of h6).2.1 ks.a hst hpl
/-- the tables, in the part that stays -/
def TabOk (T : Tbl) (K : PySem.W.Frag) (mg : Str → Option Value) (base : Heap) : Prop := ∀ (p id : Nat) (x : Str), T.lam.contains p = true → T.fns[p]? = some (id, x) → LamX.TabB base mg (He.codeOf K (x, none)) (He.tabOf K (He.codeOf K (x, none)))
theorem allFn (hfree : ∀ x ∈ T.frees, mg x = none) (hglo : ∀ x d, T.globs.lookup x = some d → ∃ v u, mg x = some u ∧ RelV v u ∧ ∀ H B, Rp K H B d v) (hfn : ∀ p id x, T.fns[p]? = some (id, x) → FnAt T tab K mg p id x)
    (hR : xs = true → T.exc = true ∧ XO = XOK K ∧ (∀ (i : Nat) (C : Str), i < 7 → cn10[i]? = some C → RsF K mg C) ∧ FxF K mg) (hS : T.lam ≠ [] → xs = true ∧ SaidF K mg ∧ ((tabsOf K).map (·.1)).Nodup) :
    ∀ (n p id : Nat) (x : Str), p < n → T.fns[p]? = some (id, x) → ∃ fd fps, fps.length = (tab id).params ∧ (∀ base : Heap, TabOk T K mg base → FnG (decide (p < T.rlim)) P w K mg base (L2.CX P w) (3 * (p + 1)) (He.ga K x) fd fps (spF xs K XO tab id)) ∧ mg x = some (.ref (He.ga K x)) ∧ PySem.W.keepIn K (.ref (He.ga K x)) = true ∧ BndK T K x fd fps
  | 0, p, id, x, h, _ => absurd h (Nat.not_lt_zero _)
  | n + 1, p, id, x, hlt, hx => by
    obtain ⟨f, name, qual, params, body, scope, dV, kV, doc, pm, cdv, ct, oc, an, od, osl, N, ps, lk, hcd, hck, ef, hlm, hm, hk, hb⟩ := (hfn p id x hx).ex
    subst ef
    unfold chkF at hck
    simp only [Bool.and_eq_true, decide_eq_true_eq] at hck
    obtain ⟨⟨⟨⟨h1, h2⟩, h3⟩, h4⟩, h5⟩ := hck
    have S := scB_of h1
    have hrun : ∀ as, run tab id as = runFn (callF tab id) (tab id) as := run_eq tab id
    have hlen : ∀ vs H Q E, spF xs K XO tab id vs H Q E → vs.length = ps.length := fun vs H Q E ⟨B0, as, r, q⟩ => by
      have := r.len
      rw [List.length_map, List.length_map] at this
      rw [hrun] at q
      unfold runFn at q
      split at q
      · rename_i hc
        rw [← this, hc.1, h3]
      · exact q.elim
    refine ⟨_, ps, h3.symm, fun base tbk => fn_ofG (k := 3 * p + 2) lk hcd S hlen fun A outer s H vs Q E hr hgd hsp => ?_, hm, hk, hb⟩
    have hl := hlen _ _ _ _ hsp
    obtain ⟨B0, as, r, q⟩ := hsp
    have tks : Takes (cxOf (L2.CX P w) P w K mg base N qual scope (He.ga K x) cdv A outer s H E) (fun cls d _ H => E cls d H) := takes_of rfl rfl rfl rfl
    let G : Gv := ⟨K, B0, if xs = true then some (fun cls d _ H => E cls d H) else none, XO⟩
    have lnil : T.lam.contains p = true → T.lam ≠ [] := fun h z => by rw [z] at h; cases h
    have C : Cok xs T tab (callF tab id) ⟨p, T.lam.contains p, decide (p < T.rlim)⟩ N (cxOf (L2.CX P w) P w K mg base N qual scope (He.ga K x) cdv A outer s H E) G scope scope := by
      refine ⟨rfl, rfl, S.nd, rfl, rfl, fun hx => by show (if xs = true then _ else none) = none; rw [hx]; rfl, ⟨?_, hgd, fun z => ?_, hr.mono (by show 3 * p ≤ _; omega), hfree, hglo, fun j g y hj ej => ?_, fun z => ?_⟩, fun _ _ => rfl, fun σ => ?_, fun z => ?_⟩
      · have := hr.un
        show (A.deeper _).units + 70 < cLine
        omega
      · have := of_decide_eq_true z
        show p ≤ T.rlim
        omega
      · have hj : j < p := hj
        obtain ⟨fd', fps', _, F', m', k', b'⟩ := allFn hfree hglo hfn hR hS n j g y (by omega) ej
        have hm : (g, y) ∈ T.fns.take p := List.mem_of_getElem? (i := j) (by rw [List.getElem?_take_of_lt hj]; exact ej)
        have hgid : g < id := of_decide_eq_true (List.all_eq_true.mp h5 _ hm)
        exact ⟨fun as => callF_run hgid, fd', fps', F' base tbk, m', k', b'⟩
      · obtain ⟨hx, SF, _⟩ := hS (lnil z)
        exact ⟨hx, SF, (hR hx).2.1⟩
      · cases hx : xs with
        | true =>
          have e1 : EW G σ = WE (fun cls d _ H => E cls d H) σ := by
            show (match (if xs = true then some (fun cls d _ H => E cls d H) else none : Option WX) with | none => _ | some w => _) = _
            rw [hx]; rfl
          rw [e1]
          exact passAt tks σ
        | false =>
          have e1 : EW G σ = fun _ _ _ => False := by
            show (match (if xs = true then some (fun cls d _ H => E cls d H) else none : Option WX) with | none => _ | some w => _) = _
            rw [hx]; rfl
          rw [e1]
          intro pins H s e s' I h
          obtain ⟨a, B, H', cls, d, _, _, _, _, _, _, _, ww⟩ := h
          exact False.elim ww
      · obtain ⟨eq, hxl⟩ := hlm z
        obtain ⟨cc, ec⟩ := He.codeIn_ref hcd
        have eco : He.codeOf K (x, none) = cc := He.codeOf_eq (p := (x, none)) lk ec
        have hat : tabAt K x = some (He.tabOf K cc, x ++ ".<locals>." ++ "<lambda>") := by
          unfold tabAt
          rw [lk, eco]
        have hin : (He.tabOf K cc, qual ++ ".<locals>." ++ "<lambda>") ∈ tabsOf K := by
          rw [eq]
          exact List.mem_filterMap.mpr ⟨x, hxl, hat⟩
        refine ⟨hr, cc, He.tabOf K cc, by have := tbk p id x z hx; rw [eco] at this; exact this, ec, hin, fun q hq e => ?_⟩
        have nd := (hS (lnil z)).2.2
        have := nodup_fst nd hq hin e
        rw [this]
        rfl
    refine ⟨tS G (evSs (callF tab id) (tab id).body), soundSs (passes_of rfl) S.kind (fun k es x hx => ?_) C _ h4, ?_⟩
    · cases hb : xs with
      | true => exact raise_own (hR hb).1 C (by show (if xs = true then _ else none) = _; rw [if_pos hb]) tks (hR hb).2.1 (hR hb).2.2.1 (hR hb).2.2.2 (hr.mono (by omega)) k es x hx
      | false => exact raise_none (by show (if xs = true then _ else none) = _; rw [hb]; rfl) k es x
    rw [hrun] at q
    unfold runFn at q
    split at q
    case isFalse => exact q.elim
    rename_i hc
    have hlv : as.length = vs.length := by have := r.len; simpa using this
    have est : L2.start N vs = vs.map some ++ List.replicate ((tab id).slots - (tab id).params) none := by
      unfold L2.start
      rw [h2, h3, hl]
    refine ⟨as.map Arg.ent ++ List.replicate ((tab id).slots - (tab id).params) none, by rw [est]; exact r.ext _, ?_⟩
    rw [est]
    generalize (tab id).slots - (tab id).params = nn at q
    -- the ends
    cases ev : evSs (callF tab id) (tab id).body (as.map Arg.ent ++ List.replicate nn none) with
    | stuck => rw [ev] at q; exact q
    | brk ρ' => rw [ev] at q; exact False.elim q
    | next ρ' =>
      rw [ev] at q
      have q : spR xs K XO B0 as vs H Q E (match outsOf as ρ' with | some o => .ok .none false o | none => .stuck) := q
      cases eo : outsOf as ρ' with
      | none => rw [eo] at q; exact q.elim
      | some o =>
        rw [eo] at q
        obtain ⟨ρo, ho, hlo, hx⟩ := outs_spec eo
        intro σ' H' rl st
        obtain ⟨g1, g2, g3⟩ := end_ok (E := fun _ => False) r st ho hlo hx (fun _ z => z.elim) (rl.amb_less fun a z => z.elim (fun z => z) fun z => z.elim)
        exact q .non H' ρo ho (g1.amb_less fun a z => .inl z) g2 .non (fun z => by cases z)
    | ret d fr ρ' =>
      rw [ev] at q
      have q : spR xs K XO B0 as vs H Q E (match outsOf as ρ' with | some o => .ok d fr o | none => .stuck) := q
      cases eo : outsOf as ρ' with
      | none => rw [eo] at q; exact q.elim
      | some o =>
        rw [eo] at q
        obtain ⟨ρo, ho, hlo, hx⟩ := outs_spec eo
        intro v σ' H' rl st rp fre
        obtain ⟨g1, g2, g3⟩ := end_ok (E := fun _ => False) r st ho hlo hx (fun _ z => z.elim) (rl.amb_less fun a z => z.elim (fun z => z) fun z => z.elim)
        refine q v H' ρo ho (g1.amb_less fun a z => .inl z) g2 (rp.less fun a z => (g3 a (z.imp .inl fun z => z)).imp (fun z => z.elim (fun z => z) fun z => z.elim) fun z => z) fun hf => ?_
        obtain ⟨xs, a, us, e1, e2, e3, e4, e5, e6, e7⟩ := fre hf
        have hn : Nw H a := by
          rcases e3 with e3 | e3
          · obtain ⟨j, ys, m, e⟩ := own_ext.mp e3
            exfalso
            have hj : j < as.length := by have := m.len; simpa using this
            have ej : (as.map Arg.ent)[j]? = some as[j].ent := by rw [List.getElem?_map, List.getElem?_eq_getElem hj]; rfl
            cases eq : as[j] with
            | val d' => rw [eq] at ej; rcases m with m | m <;> (rw [ej] at m; cases m)
            | «mut» xs' =>
              rw [eq] at ej
              obtain ⟨zs, z1, z2⟩ := (hx j).2 xs' (by rw [List.getElem?_eq_getElem hj, eq])
              obtain ⟨b, ws, w1, w2, _, _, w3⟩ := e6.mu j zs (.inr z1)
              have q4 := st.ps j (by rw [get_ext.mpr ej]; rfl)
              rw [get_ext.mpr e] at q4
              rw [w1] at q4
              cases q4
              exact w3 (.inr rfl)
          · exact e3
        obtain ⟨k1, k2, k3⟩ := end_ok (E := fun x => x = a) r st ho hlo hx (fun b z => by rw [z]; exact hn) e6
        exact ⟨xs, a, us, e1, e2, hn, e4, e5, k1, e7.less k3⟩
    | exc x ρ' =>
      rw [ev] at q
      have q : spR xs K XO B0 as vs H Q E (match outsOf as ρ' with | some o => .exc x o | none => .stuck) := q
      cases eo : outsOf as ρ' with
      | none => rw [eo] at q; exact q.elim
      | some o =>
        rw [eo] at q
        obtain ⟨hxs, q⟩ := q
        obtain ⟨ρo, ho, hlo, hx⟩ := outs_spec eo
        show zXS G _ _ H x ρ'
        unfold zXS
        have ew : G.W = some (fun cls d _ H => E cls d H) := by show (if xs = true then _ else none) = _; rw [if_pos hxs]
        rw [ew]
        intro c dd σ' H' rl xo st
        obtain ⟨g1, g2, g3⟩ := end_ok (E := fun _ => False) r st ho hlo hx (fun _ z => z.elim) (rl.amb_less fun a z => z.elim (fun z => z) fun z => z.elim)
        exact q c dd H' ρo ho (g1.amb_less fun a z => .inl z) g2 xo
end
end Tw

set_option Elab.async false
set_option linter.all false
set_option maxRecDepth 100000
set_option maxHeartbeats 1000000
namespace Tw
open PySem PySem.Spec PyProof.Rows L2

theorem zip_lookup : ∀ {ps : List Str} {us : List Value} {n : Str}, us.length = ps.length → n ∈ ps → ((ps.zip us).lookup n).isSome = true
  | [], _, _, _, h => by cases h
  | _ :: _, [], _, h, _ => by cases h
  | p :: ps, u :: us, n, hl, h => by
    rw [List.zip_cons_cons, List.lookup_cons]
    cases e : n == p with
    | true => rfl
    | false =>
      have ne : n ≠ p := fun q => by rw [q, beq_self_eq_true] at e; cases e
      exact zip_lookup (by simpa using hl) ((List.mem_cons.mp h).resolve_left ne)
theorem zip_find : ∀ {ps : List Str} {us : List Value}, ps.Nodup → us.length = ps.length → ps.filterMap (fun n => ((ps.zip us).lookup n).map fun v => (n, v)) = ps.zip us
  | [], _, _, _ => rfl
  | _ :: _, [], _, h => by cases h
  | p :: ps, u :: us, nd, hl => by
    obtain ⟨n1, n2⟩ := List.nodup_cons.mp nd
    have ih := zip_find (us := us) n2 (by simpa using hl)
    rw [List.zip_cons_cons, List.filterMap_cons, List.lookup_cons, beq_self_eq_true]
    show (p, u) :: _ = _
    congr 1
    have gen : ∀ l : List Str, (∀ n ∈ l, n ≠ p) → l.filterMap (fun n => (((p, u) :: ps.zip us).lookup n).map fun v => (n, v)) = l.filterMap fun n => ((ps.zip us).lookup n).map fun v => (n, v) := fun l => by
      induction l with
      | nil => intro _; rfl
      | cons n l ih2 =>
        intro h
        have e : (n == p) = false := by
          cases e : n == p with
          | true => exact absurd (beq_iff_eq.mp e) (h n List.mem_cons_self)
          | false => rfl
        rw [List.filterMap_cons, List.filterMap_cons, List.lookup_cons, e, ih2 fun m hm => h m (List.mem_cons_of_mem _ hm)]
    rw [gen ps fun n hn q => n1 (q ▸ hn), ih]
def paB (params : Arguments) (ps : List Str) : Bool := params.posonlyargs.isEmpty && params.vararg.isNone && params.kwonlyargs.isEmpty && params.kwarg.isNone && decide (params.args.map (·.arg) = ps) && decide ps.Nodup
theorem bind_all {name qual : Str} {params : Arguments} {body : List Stmt} {scope : Scope} {kV doc pm cdv ct : Value} {an : Option Addr} {ps : List Str} (h : paB params ps = true) (us : List Value) (hl : us.length = ps.length) :
    bindArgs (PySem.W.fnOf name qual params body scope .none kV doc pm an cdv ct) ⟨us, []⟩ = pure (ps.zip us) := by
  unfold paB at h
  simp only [Bool.and_eq_true, decide_eq_true_eq, List.isEmpty_iff, Option.isNone_iff_eq_none] at h
  obtain ⟨⟨⟨⟨⟨h1, h2⟩, h3⟩, h4⟩, h5⟩, h6⟩ := h
  obtain ⟨po, args, va, ko, kd, ka, df⟩ := params
  subst h1 h2 h3 h4 h5
  have m1 : (List.filter (fun n => ((List.map (fun x => x.arg) args).zip us |>.lookup n).isNone) (List.map (fun x => x.arg) args)) = [] := by
    rw [List.filter_eq_nil_iff]
    intro n hn
    have := zip_lookup hl hn
    simp only [Option.isNone_iff_eq_none]
    intro e
    rw [e] at this
    cases this
  have m2 := zip_find h6 hl
  have hg : ¬ (us.length > (List.map (fun x => x.arg) args).length) := Nat.not_lt.mpr (Nat.le_of_eq hl)
  have e0 : seqItems? (.none : Value) = pure none := rfl
  unfold bindArgs
  simp only [List.map_nil, List.nil_append, List.append_nil, List.forIn_nil, pure_bind, e0, Option.getD_none, List.drop_zero, Nat.sub_zero, List.length_nil, List.take_length]
  simp [hg, m1, m2, List.take_length]
  have hg' : ¬ (args.length < us.length) := by simpa using hg
  rw [if_neg hg']
  have m3 : (List.filter (fun n => (List.lookup n ((List.map (fun x => x.arg) args).zip us)).isNone) (List.take ((List.map (fun x => x.arg) args).length - (List.drop (0 - (List.map (fun x => x.arg) args).length) ([] : List Value)).length) (List.map (fun x => x.arg) args))) = [] := by
    rw [List.drop_nil, List.length_nil, Nat.sub_zero, List.take_length]
    exact m1
  rw [m3]
  rw [if_neg (by simp)]
  rw [← List.filterMap_map]
  exact congrArg _ m2

theorem lookup_out : ∀ {l : List (Str × Value)} {k : Str}, k ∉ l.map (·.1) → l.lookup k = none
  | [], _, _ => rfl
  | (a, v) :: r, k, h => by
    have h1 : k ≠ a ∧ k ∉ r.map (·.1) := by simpa using h
    rw [List.lookup_cons]
    cases e : k == a with
    | true => exact absurd (beq_iff_eq.mp e) h1.1
    | false => exact lookup_out h1.2
/-- a loop of which every turn goes on -/
theorem forIn_on {α β : Type} (f : α → β → Sem (ForInStep β)) (g : β → α → β) (Iv : List α → β → Prop) : ∀ (l : List α) (b : β), Iv l b → (∀ a r b, Iv (a :: r) b → f a b = pure (.yield (g b a)) ∧ Iv r (g b a)) → forIn l b f = pure (l.foldl g b)
  | [], b, _, _ => by rw [List.forIn_nil]; rfl
  | a :: r, b, i, h => by
    obtain ⟨h1, h2⟩ := h a r b i
    rw [List.forIn_cons, h1, pure_bind]
    exact forIn_on f g Iv r _ h2 h
theorem foldl_snd : ∀ (l b e : List (Str × Value)), l.foldl (fun (s : List (Str × Value) × List (Str × Value)) a => (s.1 ++ [a], s.2)) (b, e) = (b ++ l, e)
  | [], b, e => by simp
  | a :: r, b, e => by rw [List.foldl_cons, foldl_snd r]; simp
theorem zip_fst : ∀ {ps : List Str} {us : List Value}, us.length = ps.length → (ps.zip us).map (·.1) = ps
  | [], _, _ => by simp
  | _ :: _, [], h => by cases h
  | p :: ps, u :: us, h => by rw [List.zip_cons_cons, List.map_cons, zip_fst (by simpa using h)]
theorem bind_kw {name qual : Str} {params : Arguments} {body : List Stmt} {scope : Scope} {kV doc pm cdv ct : Value} {an : Option Addr} {ps : List Str} (h : paB params ps = true) (us : List Value) (hl : us.length = ps.length) :
    bindArgs (PySem.W.fnOf name qual params body scope .none kV doc pm an cdv ct) ⟨[], ps.zip us⟩ = pure (ps.zip us) := by
  unfold paB at h
  simp only [Bool.and_eq_true, decide_eq_true_eq, List.isEmpty_iff, Option.isNone_iff_eq_none] at h
  obtain ⟨⟨⟨⟨⟨h1, h2⟩, h3⟩, h4⟩, h5⟩, h6⟩ := h
  obtain ⟨po, args, va, ko, kd, ka, df⟩ := params
  subst h1 h2 h3 h4 h5
  have e0 : seqItems? (.none : Value) = pure none := rfl
  have m1 : (List.filter (fun n => ((List.map (fun x => x.arg) args).zip us |>.lookup n).isNone) (List.map (fun x => x.arg) args)) = [] := by
    rw [List.filter_eq_nil_iff]
    intro n hn
    have := zip_lookup hl hn
    simp only [Option.isNone_iff_eq_none]
    intro e
    rw [e] at this
    cases this
  have m2 := zip_find h6 hl
  have hk : ((List.map (fun x => x.arg) args).zip us).map (·.1) = List.map (fun x => x.arg) args := zip_fst hl
  unfold bindArgs
  simp only [List.map_nil, List.nil_append, List.append_nil, List.forIn_nil, pure_bind, e0, Option.getD_none, List.drop_zero, Nat.sub_zero, List.length_nil, List.take_length, List.zip_nil_right]
  rw [forIn_on _ (fun (s : List (Str × Value) × List (Str × Value)) a => (s.1 ++ [a], s.2)) (fun l b => (∀ a ∈ l, a.1 ∈ List.map (fun x => x.arg) args) ∧ ((b.1 ++ l).map (·.1)).Nodup) _ _ ⟨fun a ha => by rw [← hk]; exact List.mem_map.mpr ⟨a, ha, rfl⟩, by rw [List.nil_append, hk]; exact h6⟩ fun a r b ⟨i1, i2⟩ => ⟨?_, fun x hx => i1 x (List.mem_cons_of_mem _ hx), by simpa using i2⟩, pure_bind, foldl_snd]
  · simp [m1, m2, List.take_length]
    have m3 : (List.filter (fun n => (List.lookup n ((List.map (fun x => x.arg) args).zip us)).isNone) (List.take ((List.map (fun x => x.arg) args).length - (List.drop (0 - (List.map (fun x => x.arg) args).length) ([] : List Value)).length) (List.map (fun x => x.arg) args))) = [] := by
      rw [List.drop_nil, List.length_nil, Nat.sub_zero, List.take_length]
      exact m1
    refine (if_neg (by rw [m3]; simp)).trans ?_
    rw [← List.filterMap_map]
    exact congrArg _ m2
  · have c1 : (List.map (fun x => x.arg) args).contains a.1 = true := List.contains_iff_mem.mpr (i1 a List.mem_cons_self)
    have c2 : b.1.lookup a.1 = none := by
      refine lookup_out fun hm => ?_
      rw [List.map_append, List.nodup_append] at i2
      exact i2.2.2 _ hm _ (List.mem_map.mpr ⟨a, List.mem_cons_self, rfl⟩) rfl
    refine (if_pos (by rw [c1]; rfl)).trans ((if_neg (by rw [c2]; exact Bool.false_ne_true)).trans ?_)
    rfl

def noList (K : PySem.W.Frag) : Bool := K.all fun p => match p.2.cls with
  | .type t => !(t == "list")
  | _ => true
theorem look_mem : ∀ {K : PySem.W.Frag} {a : Addr} {o : Obj}, K.lookup a = some o → (a, o) ∈ K
  | [], a, o, e => nomatch (show (none : Option Obj) = some o from e)
  | (b, p) :: r, a, o, e => by
    have e2 : (match a == b with | true => some p | false => List.lookup a r) = some o := e
    cases q : (a == b) with
    | true =>
      rw [q] at e2
      have : p = o := Option.some.inj e2
      rw [this, beq_iff_eq.mp q]
      exact List.mem_cons_self
    | false =>
      rw [q] at e2
      exact List.mem_cons_of_mem _ (look_mem e2)
theorem noList_at {K : PySem.W.Frag} (h : noList K = true) {a : Addr} {o : Obj} (e : K.lookup a = some o) (hc : o.cls = .type "list") : False := by
  have m : (a, o) ∈ K := look_mem e
  have := List.all_eq_true.mp h _ m
  dsimp only at this
  rw [hc] at this
  exact absurd this (by decide)
/-- a function's id, its names, its parameters -/
abbrev NP : Type := Nat × List Str × List Str
def okD (T : Tbl) (tab : Nat → FnDef) (p : Nat) (d : He.DefD) (np : NP) : Bool := d.at_.2.isNone && d.dfl.isEmpty && paB d.params np.2.2 && chkF T tab p np.1 np.2.1 np.2.2 d.scope d.body && (!T.lam.contains p || (decide (d.qual = d.at_.1) && decide (d.at_.1 ∈ lamNames))) && (match T.kw.lookup d.at_.1 with | some ps => decide (np.2.2 = ps) | none => true)
def okAll (T : Tbl) (tab : Nat → FnDef) : Nat → List He.DefD → List NP → Bool
  | _, _, [] => true
  | p, d :: ds, np :: nps => okD T tab p d np && okAll T tab (p + 1) ds nps
  | _, [], _ :: _ => false
def fnsOf : List He.DefD → List NP → List (Nat × Str)
  | d :: ds, np :: nps => (np.1, d.at_.1) :: fnsOf ds nps
  | _, _ => []
theorem okAll_at {T : Tbl} {tab : Nat → FnDef} : ∀ {p k id : Nat} {x : Str} {ds : List He.DefD} {nps : List NP}, okAll T tab p ds nps = true → (fnsOf ds nps)[k]? = some (id, x) → ∃ d np, ds[k]? = some d ∧ np.1 = id ∧ d.at_.1 = x ∧ okD T tab (p + k) d np = true
  | _, k, _, _, [], [], _, e => by simp [fnsOf] at e
  | _, _, _, _, [], _ :: _, h, _ => by cases h
  | _, _, _, _, _ :: _, [], _, e => by simp [fnsOf] at e
  | p, 0, id, x, d :: ds, np :: nps, h, e => by
    have e' : some (np.1, d.at_.1) = some (id, x) := e
    cases e'
    exact ⟨d, np, rfl, rfl, rfl, (andT h).1⟩
  | p, k + 1, id, x, d :: ds, np :: nps, h, e => by
    obtain ⟨d', np', h1, h2, h3, h4⟩ := okAll_at (k := k) (andT h).2 (show (fnsOf ds nps)[k]? = some (id, x) by simpa [fnsOf] using e)
    exact ⟨d', np', by simpa using h1, h2, h3, by rw [show p + (k + 1) = p + 1 + k by omega]; exact h4⟩
/-- the table from the module's facts -/
structure Mdl (T : Tbl) (tab : Nat → FnDef) (fa : List He.Fa) (fn : List He.DefD) (nps : List NP) : Prop where
  fns : T.fns = fnsOf fn nps
  glo : ∀ d ∈ fn, He.Fa.glo d.at_.1 ∈ fa
  free : ∀ x ∈ T.frees, He.Fa.free x ∈ fa
  int : ∀ x d, T.globs.lookup x = some d → (∃ i, d = .int i ∧ He.Fa.int x i ∈ fa) ∨ ∃ z, d = .str z ∧ He.Fa.str x z ∈ fa
  ok : okAll T tab 0 fn nps = true
section
variable {T : Tbl} {tab : Nat → FnDef} {fa : List He.Fa} {fn : List He.DefD} {nps : List NP} {K : PySem.W.Frag} {h : Heap} {mg : Str → Option Value}
theorem says_fact (c : He.SaysD fa fn K) {f : He.Fa} (m : f ∈ fa) : f.ok K = true := by
  obtain ⟨i, e⟩ := List.getElem?_of_mem m
  exact c.fact i e
theorem Mdl.free_ok (M : Mdl T tab fa fn nps) (X : K.In h) (G : h.Ns mainGlobals mg) (c : He.SaysD fa fn K) : ∀ x ∈ T.frees, mg x = none := fun x hx => He.free_ok X G (says_fact c (M.free x hx))
theorem Mdl.glo_ok (M : Mdl T tab fa fn nps) (X : K.In h) (G : h.Ns mainGlobals mg) (c : He.SaysD fa fn K) : ∀ x d, T.globs.lookup x = some d → ∃ v u, mg x = some u ∧ RelV v u ∧ ∀ H B, Rp K H B d v := fun x d e => by
  rcases M.int x d e with ⟨i, rfl, m⟩ | ⟨z, rfl, m⟩
  · obtain ⟨t, e2⟩ := He.int_ok X G (says_fact c m)
    exact ⟨.int i, _, e2, ⟨t, rfl⟩, fun _ _ => .int i⟩
  · obtain ⟨t, e2⟩ := He.str_ok X G (says_fact c m)
    exact ⟨.str z, _, e2, ⟨t, rfl⟩, fun _ _ => .str z⟩
theorem Mdl.fn_at (M : Mdl T tab fa fn nps) (X : K.In h) (G : h.Ns mainGlobals mg) (c : He.SaysD fa fn K) : ∀ p id x, T.fns[p]? = some (id, x) → FnAt T tab K mg p id x := fun p id x e => by
  rw [M.fns] at e
  obtain ⟨d, np, e1, rfl, rfl, ok⟩ := okAll_at M.ok e
  rw [Nat.zero_add] at ok
  obtain ⟨ok, kkw⟩ := andT ok
  obtain ⟨ok, klm⟩ := andT ok
  obtain ⟨k1, k4⟩ := andT ok
  obtain ⟨k2, k3⟩ := andT k1
  obtain ⟨k5, k6⟩ := andT k2
  obtain ⟨fd, F⟩ := c.def_ p e1
  have hat : He.fAd K d.at_ = He.ga K d.at_.1 := by
    unfold He.fAd
    cases q : d.at_.2 with
    | none => rfl
    | some m => rw [q] at k5; cases k5
  have hdf : d.dvs K = [] := by
    unfold He.DefD.dvs
    cases q : d.dfl with
    | nil => rfl
    | cons a b => rw [q] at k6; cases k6
  have hm : mg d.at_.1 = some (.ref (He.fAd K d.at_)) := by
    rw [hat]
    exact He.glo_ok X G (says_fact c (M.glo d (List.mem_of_getElem? e1)))
  obtain ⟨oc, od, dV, kV, doc, pm, an, cdv, ct, osl, rfl, lk, hcd, hD, _⟩ := F.ex
  rw [hdf] at hD
  rcases hD with ⟨_, rfl⟩ | ⟨q, _⟩
  · exact ⟨_, _, _, _, _, _, _, _, _, _, _, _, _, _, _, _, np.2.1, np.2.2, lk, hcd, k4, hat, (fun z => by rw [z] at klm; have klm : (decide (d.qual = d.at_.1) && decide (d.at_.1 ∈ lamNames)) = true := klm; exact ⟨of_decide_eq_true (andT klm).1, of_decide_eq_true (andT klm).2⟩), hm, F.kp, .all fun us hl => bind_all k3 us hl, fun ps e => by rw [e] at kkw; exact ⟨of_decide_eq_true kkw, fun s us hl => .of_eq (bind_kw k3 us hl)⟩⟩
  · exact absurd rfl q

def exFa : List He.Fa := ((("RingError" : Str) :: cn10).map He.Fa.glo) ++ ((cn10.take 7).map He.Fa.exc ++ [He.Fa.free "isinstance", He.Fa.free "ValueError", He.Fa.free "int", He.Fa.free "bool"])
def faOf (T : Tbl) (fn : List He.DefD) : List He.Fa := (fn.map fun d => He.Fa.glo d.at_.1) ++ ((T.frees.map He.Fa.free ++ T.globs.filterMap fun p => match p.2 with
  | .int i => some (He.Fa.int p.1 i)
  | .str z => some (He.Fa.str p.1 z)
  | _ => none) ++ if T.exc = true then exFa else [])
def allInt (g : List (Str × D)) : Bool := g.all fun p => match p.2 with
  | .int _ => true
  | .str _ => true
  | _ => false
theorem lookup_in : ∀ {l : List (Str × D)} {x : Str} {d : D}, l.lookup x = some d → (x, d) ∈ l
  | [], _, _, e => nomatch (show (none : Option D) = some _ from e)
  | (y, b) :: r, x, d, e => by
    rw [List.lookup_cons] at e
    cases q : (x == y) with
    | true =>
      rw [q] at e
      cases e
      rw [beq_iff_eq.mp q]
      exact List.mem_cons_self
    | false =>
      rw [q] at e
      exact List.mem_cons_of_mem _ (lookup_in e)
theorem Mdl.of (h1 : T.fns = fnsOf fn nps) (h2 : allInt T.globs = true) (h3 : okAll T tab 0 fn nps = true) : Mdl T tab (faOf T fn) fn nps where
  fns := h1
  glo := fun d hd => List.mem_append_left _ (List.mem_map.mpr ⟨d, hd, rfl⟩)
  free := fun x hx => List.mem_append_right _ (List.mem_append_left _ (List.mem_append_left _ (List.mem_map.mpr ⟨x, hx, rfl⟩)))
  int := fun x d e => by
    have m := lookup_in e
    have q := List.all_eq_true.mp h2 _ m
    cases d with
    | int i => exact .inl ⟨i, rfl, List.mem_append_right _ (List.mem_append_left _ (List.mem_append_right _ (List.mem_filterMap.mpr ⟨(x, .int i), m, rfl⟩)))⟩
    | str z => exact .inr ⟨z, rfl, List.mem_append_right _ (List.mem_append_left _ (List.mem_append_right _ (List.mem_filterMap.mpr ⟨(x, .str z), m, rfl⟩)))⟩
    | _ => cases q
  ok := h3

end
def excB (K : PySem.W.Frag) (D : Addr) : Bool :=
  decide (PySem.W.findIn K (.ref D) "__getattribute__" = some (some (.builtin "BaseException.__getattribute__"))) && decide (PySem.W.findIn K (.ref D) "__getattr__" = some none) && decide (PySem.W.subIn K (.ref D) (.type "BaseException") = some true) && PySem.W.hasDictIn K D
    && decide (PySem.W.findIn K (.ref D) "__class__" = some (some (.builtin "object.__class__"))) && decide (PySem.W.specialIn K (.builtin "object.__class__") "__get__" = some (some (.builtin "getset_descriptor.__get__"))) && decide (PySem.W.takesIn K (.builtin "object.__class__") = some true) && decide (PySem.W.mroIn K D (.type "object") = some true)
theorem excB_ok {K : PySem.W.Frag} {D : Addr} (h : excB K D = true) : ExcC K D := by
  unfold excB at h
  simp only [Bool.and_eq_true, decide_eq_true_eq] at h
  obtain ⟨⟨⟨⟨⟨⟨⟨h1, h2⟩, h3⟩, h4⟩, h5⟩, h6⟩, h7⟩, h8⟩ := h
  exact ⟨h1, h2, h3, h4, h5, h6, h7, h8⟩
def clsB (K : PySem.W.Frag) (i : Nat) (D : Addr) : Bool := excB K D && ((List.range 10).all fun j => decide (PySem.W.kitOne K (.ref D) (.ref (He.ga K (cn10.getD j ""))) = some (decide (j = i)))) && decide (PySem.W.kitOne K (.ref D) (.type "ValueError") = some true) && decide (PySem.W.exmOne K (.ref D) (.ref (He.ga K "RingError")) = some true)
theorem clsB_ok {K : PySem.W.Frag} {i : Nat} {D : Addr} (h : clsB K i D = true) : ClsF K i D := by
  unfold clsB at h
  simp only [Bool.and_eq_true, decide_eq_true_eq, List.all_eq_true] at h
  obtain ⟨⟨⟨h1, h2⟩, h3⟩, h4⟩ := h
  refine ⟨excB_ok h1, fun j C hj => ?_, h3, h4⟩
  have hlt : j < 10 := (List.getElem?_eq_some_iff.mp hj).1
  have := h2 j (List.mem_range.mpr hlt)
  rw [List.getD_eq_getElem?_getD, hj] at this
  exact this
def clsAll (K : PySem.W.Frag) : Bool := (List.range 10).all fun i => clsB K i (He.ga K (cn10.getD i ""))
theorem clsAll_ok {K : PySem.W.Frag} (h : clsAll K = true) : ∀ (i : Nat) (C : Str), cn10[i]? = some C → ClsF K i (He.ga K C) := fun i C hC => by
  have := List.all_eq_true.mp h i (List.mem_range.mpr (List.getElem?_eq_some_iff.mp hC).1)
  rw [List.getD_eq_getElem?_getD, hC] at this
  exact clsB_ok this
def oexB (K : PySem.W.Frag) (C : Addr) : Bool := (match K.lookup C with
  | some ⟨.type "type", _, .cls cd, sl⟩ => (match cd.mro, sl.toList with
    | .ref C' :: bm, [_, _, _, _, some (.builtin n), _] => C' == C && n == "ValueError.__new__" && !cd.hasDel && cd.hasDict && PySem.HandSPX.refsVE bm
    | _, _ => false)
  | _ => false) && decide (PySem.W.findIn K (.ref C) "__setattr__" = some (some (.builtin "object.__setattr__"))) && decide (PySem.W.subIn K (.ref C) (.type "BaseException") = some true) && decide (PySem.W.typeIn K (.ref C) = some (.type "type")) && PySem.W.keepIn K (.ref C)
theorem oexB_ok {K : PySem.W.Frag} {C : Addr} (h : oexB K C = true) : OexC K C := by
  unfold oexB at h
  obtain ⟨h, h5⟩ := andT h
  obtain ⟨h, h4⟩ := andT h
  obtain ⟨h, h3⟩ := andT h
  obtain ⟨q, h2⟩ := andT h
  refine ⟨?_, of_decide_eq_true h2, of_decide_eq_true h3, of_decide_eq_true h4, h5⟩
  split at q
  · rename_i dd cd sl ho
    split at q
    · rename_i C' bm k0 k1 k2 k3 n k5 hm hs
      simp only [Bool.and_eq_true, beq_iff_eq, Bool.not_eq_true'] at q
      obtain ⟨⟨⟨⟨rfl, rfl⟩, hdel⟩, hdct⟩, hre⟩ := q
      obtain ⟨nm, bs, mro, ns, qn, hd, sn, sub, ab, col, del⟩ := cd
      dsimp only at hm hdel hdct
      subst hm hdel hdct
      have hsl : sl = #[k0, k1, k2, k3, some (.builtin "ValueError.__new__"), k5] := by
        obtain ⟨l⟩ := sl
        simp only at hs
        rw [hs]
      subst hsl
      exact ⟨nm, qn, ns, bs, bm, sn, sub, ab, col, dd, k0, k1, k2, k3, k5, ho, hre⟩
    · cases q
  · cases q
def reB (K : PySem.W.Frag) : Bool := PySem.W.readsIn K (He.ga K "RingError") (.type "type") && decide (PySem.W.specialIn K (.ref (He.ga K "RingError")) "__getattribute__" = some (some (.builtin "type.__getattribute__"))) && (match PySem.W.findCls K (.ref (He.ga K "RingError")) (.type "type") "__init__" with
  | some (.val (.builtin b)) => decide (b = "ValueError.__init__")
  | _ => false)
theorem reB_ok {K : PySem.W.Frag} {mg : Str → Option Value} (g : mg "RingError" = some (.ref (He.ga K "RingError"))) (h : reB K = true) : ReF K mg := by
  unfold reB at h
  obtain ⟨h, h3⟩ := andT h
  obtain ⟨h1, h2⟩ := andT h
  refine ⟨g, h1, of_decide_eq_true h2, ?_⟩
  split at h3
  · rename_i b e
    rw [e, of_decide_eq_true h3]
  · cases h3
/-- a class, its fields -/
def fxB (K : PySem.W.Frag) (C : Str) (fs : List Str) : Bool := oexB K (He.ga K C) && xfB K (He.ga K C) && (fs.all fun f => decide (PySem.W.findIn K (.ref (He.ga K C)) f = some none)) && decide (PySem.W.findIn K (.ref (He.ga K C)) "__init__" = some (some (.ref (He.ma K (He.ga K C) "__init__")))) && decide (PySem.W.typeIn K (.ref (He.ma K (He.ga K C) "__init__")) = some (.type "function"))
theorem fxB_ok {K : PySem.W.Frag} {C : Str} {fs : List Str} (h : fxB K C fs = true) : OexC K (He.ga K C) ∧ XfF K (He.ga K C) fs ∧ PySem.W.findIn K (.ref (He.ga K C)) "__init__" = some (some (.ref (He.ma K (He.ga K C) "__init__"))) ∧ PySem.W.typeIn K (.ref (He.ma K (He.ga K C) "__init__")) = some (.type "function") := by
  unfold fxB at h
  obtain ⟨h, h5⟩ := andT h
  obtain ⟨h, h4⟩ := andT h
  obtain ⟨h, h3⟩ := andT h
  obtain ⟨h1, h2⟩ := andT h
  exact ⟨oexB_ok h1, ⟨xfB_ok h2, fun f hf => of_decide_eq_true (List.all_eq_true.mp h3 f hf)⟩, of_decide_eq_true h4, of_decide_eq_true h5⟩
def fxAll (K : PySem.W.Frag) : Bool := reB K && fxB K "NoList" ["at"] && fxB K "NoText" ["at"] && fxB K "TooGreat" ["many", "most"]
def lcB (sc : Scope) (x : Str) : Bool := decide (sc.names.lookup x = some .local)
def sdB (d : He.DefD) : Bool := decide (d.at_ = (("_law_said" : Str), none)) && decide (d.name = ("_law_said" : Str)) && decide (d.qual = ("_law_said" : Str)) && d.dfl.isEmpty && paB d.params [("_law_call" : Str)] && scB saidN [("_law_call" : Str)] d.scope && saidB d.scope d.body && lcB d.scope "_law_found" && lcB d.scope "_law_e" && lcB d.scope "_law_word"
def kdB (y : Str) (d : He.DefD) : Bool := decide (d.at_ = (("_law_kind" : Str), none)) && decide (d.name = ("_law_kind" : Str)) && decide (d.qual = ("_law_kind" : Str)) && d.dfl.isEmpty && paB d.params [("_law_e" : Str)] && scB [("_law_e" : Str), ("_law_seen" : Str), y] [("_law_e" : Str)] d.scope && kindB d.scope y d.body && lcB d.scope "_law_e" && lcB d.scope "_law_seen" && lcB d.scope y && !(y == ("__debug__" : Str)) && !(y == ("__classdict__" : Str))
def whB (x : Str) (d : He.DefD) : Bool := decide (d.at_ = (("_law_whole" : Str), none)) && decide (d.name = ("_law_whole" : Str)) && decide (d.qual = ("_law_whole" : Str)) && d.dfl.isEmpty && paB d.params [x] && scB [x] [x] d.scope && wholeB d.scope x d.body && lcB d.scope x && !(x == ("__debug__" : Str)) && !(x == ("__classdict__" : Str))
def i1B (C : Str) (d : He.DefD) : Bool := decide (d.at_ = (C, some ("__init__" : Str))) && d.dfl.isEmpty && paB d.params [("self" : Str), ("at" : Str)] && scB [("self" : Str), ("at" : Str)] [("self" : Str), ("at" : Str)] d.scope && ini1B d.scope "at" d.body && lcB d.scope "self" && lcB d.scope "at"
def i2B (C : Str) (d : He.DefD) : Bool := decide (d.at_ = (C, some ("__init__" : Str))) && d.dfl.isEmpty && paB d.params [("self" : Str), ("many" : Str), ("most" : Str)] && scB [("self" : Str), ("many" : Str), ("most" : Str)] [("self" : Str), ("many" : Str), ("most" : Str)] d.scope && ini2B d.scope "many" "most" d.body && lcB d.scope "self" && lcB d.scope "many" && lcB d.scope "most"
structure MdlX (fa : List He.Fa) (fn : List He.DefD) : Prop where
  wh : ∃ d x, d ∈ fn ∧ whB x d = true
  i7 : ∃ d, d ∈ fn ∧ i1B "NoList" d = true
  i8 : ∃ d, d ∈ fn ∧ i1B "NoText" d = true
  i9 : ∃ d, d ∈ fn ∧ i2B "TooGreat" d = true
  sd : ∃ d, d ∈ fn ∧ sdB d = true
  kd : ∃ d y, d ∈ fn ∧ kdB y d = true
  ex : ∀ f ∈ exFa, f ∈ fa
section
variable {T : Tbl} {tab : Nat → FnDef} {fa : List He.Fa} {fn : List He.DefD} {nps : List NP} {K : PySem.W.Frag} {h : Heap} {mg : Str → Option Value}
theorem dfl_none {d : He.DefD} {dV : Value} (hd : d.dfl.isEmpty = true) (hD : DflV K dV (d.dvs K)) : dV = .none := by
  have hdf : d.dvs K = [] := by
    unfold He.DefD.dvs
    cases q : d.dfl with
    | nil => rfl
    | cons a b => rw [q] at hd; cases hd
  rw [hdf] at hD
  rcases hD with ⟨_, rfl⟩ | ⟨q, _⟩
  · rfl
  · exact absurd rfl q
theorem MdlX.glo (M : MdlX fa fn) (X : K.In h) (G : h.Ns mainGlobals mg) (c : He.SaysD fa fn K) {C : Str} (hC : C ∈ ("RingError" : Str) :: cn10) : mg C = some (.ref (He.ga K C)) :=
  He.glo_ok X G (says_fact c (M.ex _ (List.mem_append_left _ (List.mem_map.mpr ⟨C, hC, rfl⟩))))
theorem MdlX.rs (M : MdlX fa fn) (X : K.In h) (G : h.Ns mainGlobals mg) (c : He.SaysD fa fn K) : ∀ (i : Nat) (C : Str), i < 7 → cn10[i]? = some C → RsF K mg C := fun i C hi hC => by
  have m : C ∈ cn10.take 7 := List.mem_of_getElem? (i := i) (by rw [List.getElem?_take_of_lt hi]; exact hC)
  obtain ⟨h1, h2, h3, h4⟩ := He.exc_ok (says_fact c (M.ex _ (List.mem_append_right _ (List.mem_append_left _ (List.mem_map.mpr ⟨C, m, rfl⟩)))))
  exact ⟨M.glo X G c (List.mem_cons_of_mem _ (List.mem_of_getElem? hC)), h1, h2, h3, h4⟩
theorem ini1_of {C : Str} (c : He.SaysD fa fn K) (h : fxB K C ["at"] = true) (hd : ∃ d, d ∈ fn ∧ i1B C d = true) : Ini1 K C "at" := by
  obtain ⟨f1, f2, f3, f4⟩ := fxB_ok h
  obtain ⟨d, hd, hb⟩ := hd
  unfold i1B lcB at hb
  simp only [Bool.and_eq_true, decide_eq_true_eq] at hb
  obtain ⟨⟨⟨⟨⟨⟨e1, e4⟩, e5⟩, e6⟩, e7⟩, e8⟩, e9⟩ := hb
  obtain ⟨fd, F⟩ := He.SaysD.defs c hd
  obtain ⟨oc, od, dV, kV, doc, pm, an, cdv, ct, osl, rfl, lk, hcd, hD, _⟩ := F.ex
  obtain rfl := dfl_none e4 hD
  rw [e1] at lk
  exact ⟨⟨_, _, _, _, _, _, _, _, _, _, _, _, _, _, _, _, lk, hcd, scB_of e6, e7, e8, e9, f3, f4, .all fun us hl => bind_all e5 us hl⟩, f1, f2.no _ (List.mem_cons_self ..)⟩
theorem ini2_of {C : Str} (c : He.SaysD fa fn K) (h : fxB K C ["many", "most"] = true) (hd : ∃ d, d ∈ fn ∧ i2B C d = true) : Ini2 K C "many" "most" := by
  obtain ⟨f1, f2, f3, f4⟩ := fxB_ok h
  obtain ⟨d, hd, hb⟩ := hd
  unfold i2B lcB at hb
  simp only [Bool.and_eq_true, decide_eq_true_eq] at hb
  obtain ⟨⟨⟨⟨⟨⟨⟨e1, e4⟩, e5⟩, e6⟩, e7⟩, e8⟩, e9⟩, e10⟩ := hb
  obtain ⟨fd, F⟩ := He.SaysD.defs c hd
  obtain ⟨oc, od, dV, kV, doc, pm, an, cdv, ct, osl, rfl, lk, hcd, hD, _⟩ := F.ex
  obtain rfl := dfl_none e4 hD
  rw [e1] at lk
  exact ⟨⟨_, _, _, _, _, _, _, _, _, _, _, _, _, _, _, _, lk, hcd, scB_of e6, e7, e8, e9, e10, f3, f4, .all fun us hl => bind_all e5 us hl⟩, f1, f2.no _ (List.mem_cons_self ..), f2.no _ (List.mem_cons_of_mem _ (List.mem_cons_self ..))⟩
theorem fxAll_of (h : fxAll K = true) : reB K = true ∧ fxB K "NoList" ["at"] = true ∧ fxB K "NoText" ["at"] = true ∧ fxB K "TooGreat" ["many", "most"] = true := by
  unfold fxAll at h
  obtain ⟨h, h4⟩ := andT h
  obtain ⟨h, h3⟩ := andT h
  obtain ⟨h1, h2⟩ := andT h
  exact ⟨h1, h2, h3, h4⟩
theorem MdlX.fx (M : MdlX fa fn) (X : K.In h) (G : h.Ns mainGlobals mg) (c : He.SaysD fa fn K) (hf : fxAll K = true) : FxF K mg := by
  obtain ⟨f0, f1, f2, f3⟩ := fxAll_of hf
  refine ⟨reB_ok (M.glo X G c List.mem_cons_self) f0, fun i C hC => M.glo X G c (List.mem_cons_of_mem _ (List.mem_of_getElem? hC)), fun i C hi hC => ?_, fun C hC => ?_⟩
  · rcases hi with rfl | rfl
    · cases hC; exact ini1_of c f1 M.i7
    · cases hC; exact ini1_of c f2 M.i8
  · cases hC; exact ini2_of c f3 M.i9
theorem fld_of (hf : fxAll K = true) : ∀ (i : Nat) (C : Str), 7 ≤ i → cn10[i]? = some C → XfF K (He.ga K C) (fldN i) := fun i C hi hC => by
  obtain ⟨f0, f1, f2, f3⟩ := fxAll_of hf
  have hlt : i < 10 := (List.getElem?_eq_some_iff.mp hC).1
  rcases (show i = 7 ∨ i = 8 ∨ i = 9 by omega) with rfl | rfl | rfl
  · cases hC; exact (fxB_ok f1).2.1
  · cases hC; exact (fxB_ok f2).2.1
  · cases hC; exact (fxB_ok f3).2.1
theorem MdlX.said (M : MdlX fa fn) (X : K.In h) (G : h.Ns mainGlobals mg) (c : He.SaysD fa fn K) (hg : ∀ d ∈ fn, He.Fa.glo d.at_.1 ∈ fa) (hcl : clsAll K = true) (hfx : fxAll K = true) : SaidF K mg := by
  have fr : ∀ x, He.Fa.free x ∈ exFa → mg x = none := fun x hx => He.free_ok X G (says_fact c (M.ex _ hx))
  refine ⟨?_, ⟨?_⟩, ⟨fr _ (by simp [exFa]), fr _ (by simp [exFa]), fr _ (by simp [exFa]), fr _ (by simp [exFa]), fun C hC => M.glo X G c (List.mem_cons_of_mem _ hC), M.glo X G c List.mem_cons_self⟩, clsAll_ok hcl, ⟨?_⟩, fld_of hfx⟩
  · obtain ⟨d, hd, hb⟩ := M.sd
    unfold sdB lcB at hb
    simp only [Bool.and_eq_true, decide_eq_true_eq] at hb
    obtain ⟨⟨⟨⟨⟨⟨⟨⟨⟨e1, e2⟩, e3⟩, e4⟩, e5⟩, e6⟩, e7⟩, e8⟩, e9⟩, e10⟩ := hb
    obtain ⟨fd, F⟩ := He.SaysD.defs c hd
    obtain ⟨oc, od, dV, kV, doc, pm, an, cdv, ct, osl, rfl, lk, hcd, hD, _⟩ := F.ex
    obtain rfl := dfl_none e4 hD
    have hm : mg "_law_said" = some (.ref (He.fAd K d.at_)) := by
      have := He.glo_ok X G (says_fact c (hg d hd))
      rw [e1] at this ⊢
      exact this
    rw [e2, e3] at lk
    rw [e3] at hcd
    have kp := F.kp
    exact ⟨_, _, _, _, _, _, _, _, _, _, _, _, _, _, lk, hcd, .all fun us hl => bind_all e5 us hl, scB_of e6, e7, e8, e9, e10, hm, kp⟩
  · obtain ⟨d, y, hd, hb⟩ := M.kd
    unfold kdB lcB at hb
    simp only [Bool.and_eq_true, decide_eq_true_eq, Bool.not_eq_true'] at hb
    obtain ⟨⟨⟨⟨⟨⟨⟨⟨⟨⟨⟨e1, e2⟩, e3⟩, e4⟩, e5⟩, e6⟩, e7⟩, e8⟩, e9⟩, e10⟩, e11⟩, e12⟩ := hb
    obtain ⟨fd, F⟩ := He.SaysD.defs c hd
    obtain ⟨oc, od, dV, kV, doc, pm, an, cdv, ct, osl, rfl, lk, hcd, hD, _⟩ := F.ex
    obtain rfl := dfl_none e4 hD
    have hm : mg "_law_kind" = some (.ref (He.fAd K d.at_)) := by
      have := He.glo_ok X G (says_fact c (hg d hd))
      rw [e1] at this ⊢
      exact this
    rw [e2, e3] at lk
    rw [e3] at hcd
    have kp := F.kp
    exact ⟨_, _, _, _, _, _, _, _, _, _, _, _, _, _, y, lk, hcd, scB_of e6, e7, e8, e9, e10, e11, e12, hm, kp, .all fun us hl => bind_all e5 us hl⟩
  · obtain ⟨d, x, hd, hb⟩ := M.wh
    unfold whB lcB at hb
    simp only [Bool.and_eq_true, decide_eq_true_eq, Bool.not_eq_true'] at hb
    obtain ⟨⟨⟨⟨⟨⟨⟨⟨⟨e1, e2⟩, e3⟩, e4⟩, e5⟩, e6⟩, e7⟩, e8⟩, e9⟩, e10⟩ := hb
    obtain ⟨fd, F⟩ := He.SaysD.defs c hd
    obtain ⟨oc, od, dV, kV, doc, pm, an, cdv, ct, osl, rfl, lk, hcd, hD, _⟩ := F.ex
    obtain rfl := dfl_none e4 hD
    have hm : mg "_law_whole" = some (.ref (He.fAd K d.at_)) := by
      have := He.glo_ok X G (says_fact c (hg d hd))
      rw [e1] at this ⊢
      exact this
    rw [e2, e3] at lk
    rw [e3] at hcd
    have kp := F.kp
    exact ⟨_, _, _, _, _, _, _, _, _, _, _, _, _, _, x, lk, hcd, scB_of e6, e7, e8, e9, e10, hm, kp, .all fun us hl => bind_all e5 us hl⟩
end
def exK (T : Tbl) (tf : List He.Defn) (K : PySem.W.Frag) : Bool := noList K && (!T.exc || (clsAll K && fxAll K && decide (((tabsOf K).map (·.1)).Nodup))) && (tabsOf K).all fun q => (tf.map fun p => (He.cT K p).2).contains q.1
section
variable {K : PySem.W.Frag} {mg : Str → Option Value}
/-- the law called: the script is locked, the tables stand empty -/
theorem law_callT {P : Program} {w : World} {mb : Str → Option Value} {CX : CXT} {nr : Bool} {k : Nat} {fa a : Addr} {fd : FuncData} {x : Str} {sp : Sp} {s₁ : Shared} {vs : List Value} {ns : List Int} {tbs : List Addr}
    (KX : K.In s₁.heap) (hnl : noList K = true) (hns : s₁.heap.Ns mainGlobals mg) (hb : s₁.heap.Ns builtinsNs mb) (hbb : ∀ x : Str, x ≠ "__name__" → mb x = bootBuiltins x) (hlim : s₁.heap.NoLimit) (hg : s₁.gens = #[])
    (tE : ∀ b ∈ tbs, s₁.heap.get? b = some { cls := .none, data := .fields #[] }) (tK : ∀ b ∈ tbs, K.lookup b = none) (tC : ∀ b ∈ tbs, ∃ c, PySem.W.CodeHd s₁.heap c b)
    (hbm : ∃ (bm : Addr) (ob : Obj), mg "__builtins__" = some (.ref bm) ∧ bm ≠ builtinsNs ∧ s₁.heap.get? bm = some ob ∧ ob.cls = .type "module" ∧ ob.dict = some builtinsNs ∧ ob.data = .plain)
    (ha : s₁.heap.get? a = some { cls := .type "list", data := .seq vs.toArray }) (hi : IntsAre vs ns) (hl : ns.length ≤ sizeLine) (hr : Room k callerA)
    (F : ∀ base : Heap, K.In base → (∀ b ∈ tbs, base.BuiltinsAt mg b ∧ mainGlobals ≠ b) → FnG nr P w K mg base CX k fa fd [x] sp) (hbind : Binds K fd [x] [])
    (hsp : ∀ H : Hp, (∀ b ∈ tbs, H b = some (.tbl #[])) → (∃ o, H a = some (.frz o (.lst (ns.map V.int)))) → sp [.ref a] H (fun v _ => v = .bl true) fun _ _ _ => False)
    (hCX : ∀ H e s', CX [] H s₁ (fun _ _ _ => False) e s' → False) :
    codeAny (model P w) callerA (.call (.ref fa) ⟨[.ref a], []⟩) (fun r s' => r = .ok (.ret (.bool true)) ∧ OldK s₁.heap s'.heap ∧ s'.os = s₁.os ∧ AllBare s'.gens) s₁ := by
  have nKa : K.lookup a = none := by
    cases e : K.lookup a with
    | none => rfl
    | some o =>
      have e1 := KX a o e
      rw [ha] at e1
      cases e1
      exact (noList_at hnl e rfl).elim
  have naT : a ∉ tbs := fun m => by
    have q := tE a m
    rw [ha] at q
    cases q
  generalize hH : (fun b => if b = a then some (HO.frz { cls := .type "list", data := .seq vs.toArray } (.lst (ns.map V.int))) else if b ∈ tbs then some (.tbl #[]) else none : Hp) = H
  have Ha : H a = some (HO.frz { cls := .type "list", data := .seq vs.toArray } (.lst (ns.map V.int))) := by rw [← hH]; exact if_pos rfl
  have Ht : ∀ b ∈ tbs, H b = some (.tbl #[]) := fun b m => by
    rw [← hH]
    have n : ¬ b = a := fun z => naT (by rw [← z]; exact m)
    exact (if_neg n).trans (if_pos m)
  have Hn : ∀ b, b ≠ a → b ∉ tbs → H b = none := fun b n m => by rw [← hH]; exact (if_neg n).trans (if_neg m)
  have hok : HOk P w H s₁.heap := fun b u z => by
    by_cases q : b = a
    · subst q
      rw [Ha] at z
      cases z
      exact ⟨ha, by rw [List.length_map]; exact hl, vs, _, vals_ints hi, ha⟩
    · by_cases m : b ∈ tbs
      · rw [Ht b m] at z
        cases z
        exact tE b m
      · rw [Hn b q m] at z; cases z
  have noD : ∀ {b : Addr} {o : Obj}, s₁.heap.get? b = some o → (∀ us n, o.data ≠ .seq us n) → o.data ≠ .fields #[] → H b = none := fun {b o} e n1 n2 => by
    refine Hn b (fun q => ?_) fun m => ?_
    · rw [q, ha] at e; cases e; exact n1 _ _ rfl
    · rw [tE b m] at e; cases e; exact n2 rfl
  have noA : ∀ {b : Addr} {o : Obj} {es : Array DictEntry} {ep : Nat}, s₁.heap.get? b = some o → o.data = .dict es ep → H b = none := fun {b o es ep} e d => noD e (fun us n z => by rw [d] at z; cases z) fun z => by rw [d] at z; cases z
  have nsK : ∀ {b : Addr} {m : Str → Option Value}, s₁.heap.Ns b m → (hidT s₁.heap H).Ns b m := fun {b m} ⟨o, es, ep, e, d, r⟩ => ⟨o, es, ep, hidT_get e (noA e d), d, r⟩
  have hKb : K.In (hidT s₁.heap H) := fun b o e => hidT_get (KX b o e) (Hn b (fun q => by rw [q, nKa] at e; cases e) fun m => by rw [tK b m] at e; cases e)
  have e0 : Env0 P w K mg (hidT s₁.heap H) callerA [] s₁ H := ⟨rfl, ⟨hKb, nsK hns, ⟨mb, nsK hb, hbb⟩, let ⟨mc, h1, h2⟩ := hlim; ⟨mc, nsK h1, h2⟩⟩, fun b o e => of_hidT e, Nat.le_of_eq (hidT_size _ _), trivial, fun b hb => absurd (show b ∈ ([] : List Addr) from hb) (by simp), hok, .of_eq hg⟩
  have hB : ∀ b ∈ tbs, (hidT s₁.heap H).BuiltinsAt mg b ∧ mainGlobals ≠ b := fun b m => by
    obtain ⟨o, es, ep, e, hd, _⟩ := id hns
    have gb : mainGlobals ≠ b := fun z => by
      rw [z, tE b m] at e
      cases e
      cases hd
    obtain ⟨bm, ob, b1, b2, b3, b4, b5, b6⟩ := hbm
    refine ⟨⟨bm, ob, b1, b2, fun q => ?_, fun q => ?_, hidT_get b3 (noD b3 (fun us n z => by rw [b6] at z; cases z) fun z => by rw [b6] at z; cases z), b4, b5, b6⟩, gb⟩
    · rw [q, e] at b3
      cases b3
      rw [hd] at b6
      cases b6
    · rw [q, tE b m] at b3
      cases b3
      cases b6
  have bb := hbind s₁ [.ref a] KX rfl
  rw [List.append_nil] at bb
  refine codeAny_mono ((F _ hKb hB).run callerA [] s₁ H ⟨[.ref a], []⟩ [.ref a] [.ref a] _ _ hr (fun _ => rfl) e0 bb (.cons rfl .nil) (hsp H Ht ⟨_, Ha⟩)) fun r s' h => ?_
  cases r with
  | error e => exact (hCX H e s' h).elim
  | ok fl =>
    cases fl with
    | ret u =>
      obtain ⟨v, H', os, bare, un, hok', r', q⟩ := h
      have q' : v = .bl true := q
      subst q'
      obtain rfl : u = Value.bool true := r'
      have keep : ∀ b o, b ∉ tbs → s₁.heap.get? b = some o → s'.heap.get? b = some o := fun b o m e => by
        by_cases q : b = a
        · subst q
          have z2 := un.frzs b _ _ Ha
          obtain ⟨e2, _⟩ := hok' b _ z2
          rw [ha] at e
          cases e
          exact e2
        · exact un.keep b o e (Hn b q m) (fun z => absurd (show b ∈ ([] : List Addr) from z) (by simp)) (by simp)
      have grown : ∀ b ∈ tbs, ∃ more : Array Value, s'.heap.get? b = some { cls := .none, data := .fields more } := fun b m => by
        obtain ⟨more, z⟩ := un.tbls b #[] (Ht b m)
        exact ⟨_, hok' b _ z⟩
      refine ⟨rfl, ⟨fun b o e => ?_, fun b o e => ?_⟩, os, bare⟩
      · by_cases m : b ∈ tbs
        · obtain ⟨more, hm⟩ := grown b m
          obtain ⟨c, hc⟩ := tC b m
          have e2 := e
          rw [tE b m] at e2
          cases e2
          exact .inr (.inl ⟨(hc.tab (tE b m)).isCodeTable, rfl, #[], more, rfl, by rw [Array.empty_append]; exact hm⟩)
        · exact .inl (keep b o m e)
      · by_cases m : b ∈ tbs
        · obtain ⟨more, hm⟩ := grown b m
          exact ⟨_, hm⟩
        · exact ⟨o, keep b o m e⟩
    | _ => exact False.elim h
end
theorem exK_of {T : Tbl} {tf : List He.Defn} {K : PySem.W.Frag} (h : exK T tf K = true) : noList K = true ∧ (T.exc = true → (clsAll K = true ∧ fxAll K = true) ∧ ((tabsOf K).map (·.1)).Nodup) ∧ ∀ q ∈ tabsOf K, ∃ p ∈ tf, (He.cT K p).2 = q.1 := by
  unfold exK at h
  obtain ⟨h1, h2⟩ := andT h
  obtain ⟨h3, h4⟩ := andT h1
  refine ⟨h3, fun z => ?_, fun q hq => ?_⟩
  · rw [z] at h4
    have h4 : (clsAll K && fxAll K && decide (((tabsOf K).map (·.1)).Nodup)) = true := h4
    exact ⟨andT (andT h4).1, of_decide_eq_true (andT h4).2⟩
  · have := List.contains_iff_mem.mp (List.all_eq_true.mp h2 q hq)
    obtain ⟨p, hp, e⟩ := List.mem_map.mp this
    exact ⟨p, hp, e⟩
/-- what a place names -/
def refsAt (g : Addr → Option Obj) (a : Addr) : List Addr := match g a with
  | some o => He.refsD o
  | none => []
/-- those that are not in the set m (of bits), each once -/
def freshZ : Nat → List Addr → List Addr
  | _, [] => []
  | m, a :: r => match Nat.beq (Nat.land (Nat.shiftRight m a) 1) 0 with
    | true => a :: freshZ (Nat.lor m (Nat.shiftLeft 1 a)) r
    | false => freshZ m r
def maskZ : Nat → List Addr → Nat
  | m, [] => m
  | m, a :: r => maskZ (Nat.lor m (Nat.shiftLeft 1 a)) r
/-- level by level -/
def reachZ (g : Addr → Option Obj) : Nat → Nat → List Addr → List Addr
  | 0, _, f => f
  | n + 1, m, f => f ++ reachZ g n (maskZ m (freshZ m (f.flatMap (refsAt g)))) (freshZ m (f.flatMap (refsAt g)))
/-- what the names reach, and the interpreter's own table beside it -/
def asY (g : Addr → Option Obj) (n : Nat) : List Addr := reachZ g n (maskZ 0 [mainGlobals]) [mainGlobals] ++ [cStatics]
def obsY (n : Nat) (fa : List He.Fa) (fn : List He.DefD) (tf : List He.Defn) (ex : PySem.W.Frag → Bool) (g : Addr → Option Obj) : He.AlX := (He.obsT fa fn [] (He.frT g (asY g n)), ex (He.frT g (asY g n)) && He.tabsB g tf (He.frT g (asY g n)))
theorem saysY_of {n : Nat} {fa : List He.Fa} {fn : List He.DefD} {tf : List He.Defn} {ex : PySem.W.Frag → Bool} {w : World} {h : Heap} (e : obsY n fa fn tf ex h.get? = He.valX fn [] w) : He.SaysX fa fn [] tf ex w h (He.frT h.get? (asY h.get? n)) := by
  generalize hK : He.frT h.get? (asY h.get? n) = K
  have e1 : He.obsT fa fn [] K = He.valT fn [] w := by rw [← hK]; exact congrArg (fun z : He.AlX => z.1) e
  have e2 : (ex K && He.tabsB h.get? tf K) = true := by rw [← hK]; exact congrArg (fun z : He.AlX => z.2) e
  obtain ⟨h1, h2⟩ := andT e2
  have key : ∀ p ∈ tf, PySem.W.codeHdIn K (He.cT K p).1 (He.cT K p).2 = true ∧ ∃ o, h.get? (He.cT K p).2 = some o ∧ He.emptyTab o = true := fun p hp => by
    obtain ⟨h3, h4⟩ := andT (List.all_eq_true.mp h2 p hp)
    refine ⟨h3, ?_⟩
    cases q : h.get? (He.cT K p).2 with
    | none => rw [q] at h4; cases h4
    | some o => rw [q] at h4; exact ⟨o, rfl, h4⟩
  refine ⟨e1, h1, fun p hp => (key p hp).1, fun p hp => ?_, fun p hp => ?_⟩
  · obtain ⟨_, o, q, z⟩ := key p hp
    generalize (He.cT K p).2 = a at q
    subst hK
    exact He.frT_none q z
  · obtain ⟨_, o, q, z⟩ := key p hp
    rw [q, He.emptyTab_eq z]
def hookY (n : Nat) (fa : List He.Fa) (fn : List He.DefD) (tf : List He.Defn) (ex : PySem.W.Frag → Bool) : PySem.W.Hook where
  α := He.AlX
  obs := fun s => obsY n fa fn tf ex s.heap.get?
  val := fun w => He.valX fn [] w
  says := fun w h => ∃ K : PySem.W.Frag, K.In h ∧ He.SaysX fa fn [] tf ex w h K
  of := fun _ _ e => ⟨_, He.frT_in, saysY_of e⟩
  keeps := fun _ _ _ ⟨K, hK, c⟩ k => ⟨K, PySem.W.Frag.In.keeps hK k, ⟨c.t, c.more, c.hd, c.out, fun p hp => k _ _ (c.empty p hp)⟩⟩
theorem obsY_eq {n : Nat} {fa : List He.Fa} {fn : List He.DefD} {tf : List He.Defn} {ex : PySem.W.Frag → Bool} {g : Addr → Option Obj} {s : Shared} (h : ∀ a, g a = s.heap.get? a) : obsY n fa fn tf ex g = (hookY n fa fn tf ex).obs s := by
  have e : g = s.heap.get? := funext h
  rw [e] <;> rfl
/-- the walk of a law that the evaluator finds true at every script -/
theorem walk_X {l : PySem.W.OpenLaw} {n m p id : Nat} {q : Program} {loose : List Str} {XP : (Str → Option Value) → Heap → Prop} {d : DefRec} {T : Tbl} {tab : Nat → FnDef} {fa : List He.Fa} {fn : List He.DefD} {nps : List NP} {tf : List He.Defn}
    (M : Mdl T tab fa fn nps) (MX : T.exc = true → MdlX fa fn) (hlm : T.lam ≠ [] → T.exc = true) (htf : ∀ x ∈ lamNames, (∃ i ∈ T.lam, ∃ j, T.fns[i]? = some (j, x)) → ((x, none) : He.Defn) ∈ tf) (hn : l.most = some n) (hn2 : n ≤ sizeLine) (hdf : d.params.defaults = []) (hr : Room (3 * (p + 1)) callerA) (hlaw : T.fns[p]? = some (id, d.name)) (hp : (tab id).params = 1)
    (law : ∀ ns : List Int, ns.length ≤ n → ∃ fr outs, run tab id [.val (.list (ns.map .int))] = .ok (.bool true) fr outs) :
    PySem.W.WalkO q loose XP (hookY m fa fn tf (exK T tf)).says l.row.toRowW d [] (fun f vs => PySem.call f vs) := by
  refine Att.attach_call hn hdf fun w s₀ s₁ mg mb f o pm cd doc a vs ns G Y ho hd hcd hmg hobj hints hlen hg => ?_
  obtain ⟨K, KX, c⟩ := Y
  obtain ⟨hnl, hcls, htb⟩ := exK_of c.more
  have cd' := c.t.d
  have hfree := M.free_ok KX G.T.g cd'
  have hglo := M.glo_ok KX G.T.g cd'
  have hfn := M.fn_at KX G.T.g cd'
  obtain ⟨fd0, fps0, hl0, F0, m0, k0, b0⟩ := allFn (xs := T.exc) (P := l.prog) (w := w) (XO := XOK K) hfree hglo hfn (fun z => ⟨z, rfl, (MX z).rs KX G.T.g cd', (MX z).fx KX G.T.g cd' (hcls z).1.2⟩) (fun z => ⟨hlm z, (MX (hlm z)).said KX G.T.g cd' M.glo (hcls (hlm z)).1.1 (hcls (hlm z)).1.2, (hcls (hlm z)).2⟩) (p + 1) p id d.name (Nat.lt_succ_self _) hlaw
  rw [hmg] at m0
  have ef : f = He.ga K d.name := by cases m0; rfl
  subst ef
  rw [hp] at hl0
  match fps0, hl0, F0, b0 with
  | [x], _, F0, b0 =>
    refine law_callT (tbs := tf.map fun p => (He.cT K p).2) KX hnl G.T.g G.T.b G.T.builtins G.T.nolimit hg (fun b hb => ?_) (fun b hb => ?_) (fun b hb => ?_) G.T.bmain hobj hints (Nat.le_trans hlen hn2) hr (fun base hKb hB => F0 base fun i j y hi hj => ?_) b0.1 (fun H Ht ⟨o, Ha⟩ => ?_) fun H e s' h => ?_
    · obtain ⟨p, hp, rfl⟩ := List.mem_map.mp hb
      exact c.empty p hp
    · obtain ⟨p, hp, rfl⟩ := List.mem_map.mp hb
      exact c.out p hp
    · obtain ⟨p, hp, rfl⟩ := List.mem_map.mp hb
      exact ⟨_, PySem.W.codeHd_of_K KX (c.hd p hp)⟩
    · obtain ⟨_, _, _, _, _, _, _, _, _, _, _, _, _, _, _, _, _, _, _, _, _, _, hx, _⟩ := (hfn i j y hj).ex
      have hy := (hx hi).2
      have hin := htf y hy ⟨i, List.contains_iff_mem.mp hi, j, hj⟩
      obtain ⟨bm, gP⟩ := hB _ (List.mem_map.mpr ⟨_, hin, rfl⟩)
      exact ⟨PySem.W.codeHd_of_K hKb (c.hd _ hin), bm, gP⟩
    · obtain ⟨fr, outs, er⟩ := law ns hlen
      have nm : ∀ (j : Nat) (ys : List D), ¬ mutAt ([Arg.val (.list (ns.map .int))].map Arg.ent) j ys := fun j ys m => by
        rcases m with m | m
        · cases j with
          | zero => cases m
          | succ j => simp at m
        · cases j with
          | zero => cases m
          | succ j => simp at m
      refine ⟨fun _ => False, [.val (.list (ns.map .int))], ⟨rfl, fun j dd e => ?_, fun j ys m => absurd m (nm j ys), fun j k ys zs b m => absurd m (nm j ys), fun _ z => z.elim, fun q hq => ?_⟩, ?_⟩
      · cases j with
        | zero =>
          cases e
          refine ⟨.ref a, rfl, .lst (.inr ⟨o, Ha⟩) (fun z => ?_) (by rw [List.length_map]; exact Nat.le_trans hlen hn2) (RpA.ofInts ns)⟩
          rcases z with z | ⟨j, ys, m, _⟩
          · exact z
          · exact nm j ys m
        | succ j => simp at e
      · obtain ⟨p, hp, e⟩ := htb q hq
        exact LamX.TabS.nil (Ht _ (List.mem_map.mpr ⟨p, hp, e⟩))
      · rw [er]
        intro v H' ρo _ _ _ rp _
        cases rp
        rfl
    · obtain ⟨_, _, _, _, _, _, _, _, _, _, _, _, ww⟩ := h
      exact ww
end Tw

set_option Elab.async false
set_option linter.all false
set_option maxRecDepth 100000
set_option maxHeartbeats 0
namespace TwL
open PySem PySem.Spec PyProof.Rows L2 Tw
abbrev F.is_whole : Nat := 0
abbrev F.is_within : Nat := 1
abbrev F.need_ring : Nat := 2
abbrev F.a_set : Nat := 3
abbrev F.need_set : Nat := 4
abbrev F.left_out : Nat := 5
abbrev F.others : Nat := 6
abbrev F.rests_set : Nat := 7
abbrev F.moved_by : Nat := 8
abbrev F.least_by : Nat := 9
abbrev F.least_moved : Nat := 10
abbrev F.keepers_of : Nat := 11
abbrev F.keepers : Nat := 12
abbrev F.counts_by : Nat := 13
abbrev F.broken_by : Nat := 14
abbrev F.near_by : Nat := 15
abbrev F.nearly : Nat := 16
abbrev F.has_step : Nat := 17
abbrev F.steps : Nat := 18
abbrev F.steps_of : Nat := 19
abbrev F.picks : Nat := 20
abbrev F.number_of : Nat := 21
abbrev F.need_whole : Nat := 22
abbrev F.moved : Nat := 23
abbrev F.stretched : Nat := 24
abbrev F.need_part : Nat := 25
abbrev F.whole_by : Nat := 26
abbrev F.whole_parts : Nat := 27
abbrev F.broken_parts : Nat := 28
abbrev F.rests_by : Nat := 29
abbrev F.split : Nat := 30
abbrev F.is_set : Nat := 31
abbrev F.set_of : Nat := 32
abbrev F.law_one_right : Nat := 33
abbrev F.need_two : Nat := 34
abbrev F.move_to : Nat := 35
abbrev F.all_sums : Nat := 36
abbrev F.fullest : Nat := 37
abbrev F.third_for : Nat := 38
abbrev F.fitting : Nat := 39
abbrev F.filled_up : Nat := 40
abbrev F.filled : Nat := 41
abbrev F.is_filled : Nat := 42
abbrev F.need_prime : Nat := 43
abbrev F.need_asked : Nat := 44
abbrev F.fewest : Nat := 45
abbrev F.more_than : Nat := 46
abbrev F.kind_of : Nat := 47
abbrev F.is_free : Nat := 48
abbrev F.told_holds : Nat := 49
abbrev F.alone_holds : Nat := 50
abbrev F.kind_holds : Nat := 51
abbrev F.law_two_right : Nat := 52
abbrev F.need_number : Nat := 53
abbrev F.need_sizes : Nat := 54
abbrev F.set_at : Nat := 55
abbrev F.all_sets : Nat := 56
abbrev F.sums_by : Nat := 57
abbrev F.table : Nat := 58
abbrev F.fewest_of : Nat := 59
abbrev F.least_many : Nat := 60
abbrev F.first_few : Nat := 61
abbrev F.sets_many : Nat := 62
abbrev F.nth_set : Nat := 63
abbrev F.need_kind : Nat := 64
abbrev F.least_ones : Nat := 65
abbrev F.kinds_many : Nat := 66
abbrev F.kinds : Nat := 67
abbrev F.law_sizes_right : Nat := 68
abbrev F.law : Nat := 69
def B.is_whole : CSs := (.cons (.ret (.and (.cons (.isi .int (.var 0)) (.cons (.not (.isi .bool (.var 0))) .nil))))
   .nil)
def N.is_whole : List Str := ["thing"]
def fd.is_whole : FnDef := ⟨1, 1, B.is_whole⟩
def B.is_within : CSs := (.cons (.ret (.and (.cons (.call F.is_whole [false] (.cons (.var 0) .nil)) (.cons (.cmp2 .le .le (.var 1) (.var 0) (.var 2)) .nil))))
   .nil)
def N.is_within : List Str := ["thing", "least", "most"]
def fd.is_within : FnDef := ⟨3, 3, B.is_within⟩
def B.need_ring : CSs := (.cons (.iff (.not (.call F.is_within [false, false, false] (.cons (.var 0) (.cons (.con (.int 2)) (.cons (.glo "MOST_PLACES" (.int 24)) .nil))))) (.cons (.rais 0 .nil)
   .nil) .nil)
   .nil)
def N.need_ring : List Str := ["ring"]
def fd.need_ring : FnDef := ⟨1, 1, B.need_ring⟩
def B.a_set : CSs := (.cons (.iff (.or (.cons (.not (.isi .tuple (.var 1))) (.cons (.not (.blt .all (.cons (.comp [("one", 2)] (.call F.is_within [false, false, false] (.cons (.var 2) (.cons (.con (.int 0)) (.cons (.bin .sub (.var 0) (.con (.int 1))) .nil)))) (.name 2) (.seq (.var 1)) .none) .nil))) .nil))) (.cons (.ret (.con (.bool false)))
   .nil) .nil)
   (.cons (.ret (.blt .all (.cons (.comp [("one", 2), ("other", 3)] (.cmp .lt (.var 2) (.var 3)) (.tup [2, 3]) (.zip (.var 1) (.slc (.var 1) (.some (.con (.int 1))) .none)) .none) .nil)))
   .nil))
def N.a_set : List Str := ["ring", "thing", "one", "other"]
def fd.a_set : FnDef := ⟨4, 2, B.a_set⟩
def B.need_set : CSs := (.cons (.iff (.not (.call F.a_set [false, false] (.cons (.var 0) (.cons (.var 1) .nil)))) (.cons (.rais 2 .nil)
   .nil) .nil)
   .nil)
def N.need_set : List Str := ["ring", "some"]
def fd.need_set : FnDef := ⟨2, 2, B.need_set⟩
def B.left_out : CSs := (.cons (.ret (.blt .tuple (.cons (.comp [("number", 2)] (.var 2) (.name 2) (.range (.cons (.var 0) .nil)) (.some (.cmp .notin (.var 2) (.var 1)))) .nil)))
   .nil)
def N.left_out : List Str := ["ring", "some", "number"]
def fd.left_out : FnDef := ⟨3, 2, B.left_out⟩
def B.others : CSs := (.cons (.expr (.call F.need_ring [false] (.cons (.var 0) .nil)))
   (.cons (.expr (.call F.need_set [false, false] (.cons (.var 0) (.cons (.var 1) .nil))))
   (.cons (.ret (.call F.left_out [false, false] (.cons (.var 0) (.cons (.var 1) .nil))))
   .nil)))
def N.others : List Str := ["ring", "some"]
def fd.others : FnDef := ⟨2, 2, B.others⟩
def B.rests_set : CSs := (.cons (.ret (.blt .tuple (.cons (.sset (.comp [("number", 2)] (.bin .mod (.var 2) (.var 0)) (.name 2) (.seq (.var 1)) .none)) .nil)))
   .nil)
def N.rests_set : List Str := ["ring", "numbers", "number"]
def fd.rests_set : FnDef := ⟨3, 2, B.rests_set⟩
def B.moved_by : CSs := (.cons (.ret (.call F.rests_set [false, false] (.cons (.var 0) (.cons (.comp [("one", 3)] (.bin .add (.var 3) (.var 2)) (.name 3) (.seq (.var 1)) .none) .nil))))
   .nil)
def N.moved_by : List Str := ["ring", "some", "number", "one"]
def fd.moved_by : FnDef := ⟨4, 3, B.moved_by⟩
def B.least_by : CSs := (.cons (.ret (.blt .min (.cons (.comp [("number", 2)] (.call F.moved_by [false, false, false] (.cons (.var 0) (.cons (.var 1) (.cons (.var 2) .nil)))) (.name 2) (.range (.cons (.var 0) .nil)) .none) .nil)))
   .nil)
def N.least_by : List Str := ["ring", "some", "number"]
def fd.least_by : FnDef := ⟨3, 2, B.least_by⟩
def B.least_moved : CSs := (.cons (.expr (.call F.need_ring [false] (.cons (.var 0) .nil)))
   (.cons (.expr (.call F.need_set [false, false] (.cons (.var 0) (.cons (.var 1) .nil))))
   (.cons (.ret (.call F.least_by [false, false] (.cons (.var 0) (.cons (.var 1) .nil))))
   .nil)))
def N.least_moved : List Str := ["ring", "some"]
def fd.least_moved : FnDef := ⟨2, 2, B.least_moved⟩
def B.keepers_of : CSs := (.cons (.ret (.blt .tuple (.cons (.comp [("number", 2)] (.var 2) (.name 2) (.range (.cons (.var 0) .nil)) (.some (.cmp .eq (.call F.moved_by [false, false, false] (.cons (.var 0) (.cons (.var 1) (.cons (.var 2) .nil)))) (.var 1)))) .nil)))
   .nil)
def N.keepers_of : List Str := ["ring", "some", "number"]
def fd.keepers_of : FnDef := ⟨3, 2, B.keepers_of⟩
def B.keepers : CSs := (.cons (.expr (.call F.need_ring [false] (.cons (.var 0) .nil)))
   (.cons (.expr (.call F.need_set [false, false] (.cons (.var 0) (.cons (.var 1) .nil))))
   (.cons (.ret (.call F.keepers_of [false, false] (.cons (.var 0) (.cons (.var 1) .nil))))
   .nil)))
def N.keepers : List Str := ["ring", "some"]
def fd.keepers : FnDef := ⟨2, 2, B.keepers⟩
def B.counts_by : CSs := (.cons (.box 2 (.bin .mul (.lst (.cons (.con (.int 0)) .nil)) (.var 1)))
   (.cons (.forr (.name 3) (.seq (.var 0)) (.cons (.seti 2 (.bin .mod (.var 3) (.var 1)) (.bin .add (.idx (.var 2) (.bin .mod (.var 3) (.var 1))) (.con (.int 1))))
   .nil))
   (.cons (.ret (.var 2))
   .nil)))
def N.counts_by : List Str := ["some", "h", "found", "number"]
def fd.counts_by : FnDef := ⟨4, 2, B.counts_by⟩
def B.broken_by : CSs := (.cons (.ret (.blt .tuple (.cons (.comp [("at", 3), ("many", 4)] (.var 3) (.tup [3, 4]) (.enum (.call F.counts_by [false, false] (.cons (.var 1) (.cons (.var 2) .nil)))) (.some (.cmp2 .lt .lt (.con (.int 0)) (.var 4) (.bin .fdiv (.var 0) (.var 2))))) .nil)))
   .nil)
def N.broken_by : List Str := ["ring", "some", "h", "at", "many"]
def fd.broken_by : FnDef := ⟨5, 3, B.broken_by⟩
def B.near_by : CSs := (.cons (.box 2 (.lst .nil))
   (.cons (.forr (.name 3) (.range (.cons (.con (.int 2)) (.cons (.var 0) .nil))) (.cons (.iff (.and (.cons (.cmp .eq (.bin .mod (.var 0) (.var 3)) (.con (.int 0))) (.cons (.cmp .lt (.blt .len (.cons (.call F.broken_by [false, false, false] (.cons (.var 0) (.cons (.var 1) (.cons (.var 3) .nil)))) .nil)) (.con (.int 2))) .nil))) (.cons (.app 2 (.var 3))
   .nil) .nil)
   .nil))
   (.cons (.ret (.var 2))
   .nil)))
def N.near_by : List Str := ["ring", "some", "found", "h"]
def fd.near_by : FnDef := ⟨4, 2, B.near_by⟩
def B.nearly : CSs := (.cons (.expr (.call F.need_ring [false] (.cons (.var 0) .nil)))
   (.cons (.expr (.call F.need_set [false, false] (.cons (.var 0) (.cons (.var 1) .nil))))
   (.cons (.ret (.call F.near_by [false, false] (.cons (.var 0) (.cons (.var 1) .nil))))
   .nil)))
def N.nearly : List Str := ["ring", "some"]
def fd.nearly : FnDef := ⟨2, 2, B.nearly⟩
def B.has_step : CSs := (.cons (.asg (.name 3) (.comp [("number", 5)] (.var 5) (.name 5) (.seq (.var 1)) (.some (.cmp .notin (.bin .mod (.bin .sub (.var 5) (.var 2)) (.var 0)) (.var 1)))))
   (.cons (.iff (.cmp .eq (.var 3) (.lst .nil)) (.cons (.asg (.name 3) (.blt .list (.cons (.slc (.var 1) .none (.some (.con (.int 1)))) .nil)))
   .nil) .nil)
   (.cons (.iff (.cmp .gt (.blt .len (.cons (.var 3) .nil)) (.con (.int 1))) (.cons (.ret (.con (.bool false)))
   .nil) .nil)
   (.cons (.box 4 (.slc (.var 3) .none (.some (.con (.int 1)))))
   (.cons (.whil (.and (.cons (.cmp .lt (.blt .len (.cons (.var 4) .nil)) (.blt .len (.cons (.var 1) .nil))) (.cons (.cmp .isin (.bin .mod (.bin .add (.idx (.var 4) (.neg (.con (.int 1)))) (.var 2)) (.var 0)) (.var 1)) (.cons (.cmp .notin (.bin .mod (.bin .add (.idx (.var 4) (.neg (.con (.int 1)))) (.var 2)) (.var 0)) (.var 4)) .nil)))) (.cons (.app 4 (.bin .mod (.bin .add (.idx (.var 4) (.neg (.con (.int 1)))) (.var 2)) (.var 0)))
   .nil))
   (.cons (.ret (.cmp .eq (.blt .len (.cons (.var 4) .nil)) (.blt .len (.cons (.var 1) .nil))))
   .nil))))))
def N.has_step : List Str := ["ring", "some", "d", "begun", "row", "number"]
def fd.has_step : FnDef := ⟨6, 3, B.has_step⟩
def B.steps : CSs := (.cons (.iff (.cmp .lt (.blt .len (.cons (.var 1) .nil)) (.con (.int 2))) (.cons (.ret (.tup .nil))
   .nil) .nil)
   (.cons (.ret (.blt .tuple (.cons (.comp [("d", 2)] (.var 2) (.name 2) (.range (.cons (.con (.int 1)) (.cons (.bin .add (.bin .fdiv (.var 0) (.con (.int 2))) (.con (.int 1))) .nil))) (.some (.call F.has_step [false, false, false] (.cons (.var 0) (.cons (.var 1) (.cons (.var 2) .nil)))))) .nil)))
   .nil))
def N.steps : List Str := ["ring", "some", "d"]
def fd.steps : FnDef := ⟨3, 2, B.steps⟩
def B.steps_of : CSs := (.cons (.expr (.call F.need_ring [false] (.cons (.var 0) .nil)))
   (.cons (.expr (.call F.need_set [false, false] (.cons (.var 0) (.cons (.var 1) .nil))))
   (.cons (.ret (.call F.steps [false, false] (.cons (.var 0) (.cons (.var 1) .nil))))
   .nil)))
def N.steps_of : List Str := ["ring", "some"]
def fd.steps_of : FnDef := ⟨2, 2, B.steps_of⟩
def B.picks : CSs := (.cons (.asg (.name 2) (.con (.int 1)))
   (.cons (.forr (.name 3) (.range (.cons (.var 1) .nil)) (.cons (.asg (.name 2) (.bin .fdiv (.bin .mul (.var 2) (.bin .sub (.var 0) (.var 3))) (.bin .add (.var 3) (.con (.int 1)))))
   .nil))
   (.cons (.ret (.var 2))
   .nil)))
def N.picks : List Str := ["n", "k", "found", "one"]
def fd.picks : FnDef := ⟨4, 2, B.picks⟩
def B.number_of : CSs := (.cons (.expr (.call F.need_ring [false] (.cons (.var 0) .nil)))
   (.cons (.expr (.call F.need_set [false, false] (.cons (.var 0) (.cons (.var 1) .nil))))
   (.cons (.asg (.name 2) (.con (.int 0)))
   (.cons (.asg (.name 3) (.neg (.con (.int 1))))
   (.cons (.forr (.tup [4, 5]) (.enum (.var 1)) (.cons (.forr (.name 6) (.range (.cons (.bin .add (.var 3) (.con (.int 1))) (.cons (.var 5) .nil))) (.cons (.asg (.name 2) (.bin .add (.var 2) (.call F.picks [false, false] (.cons (.bin .sub (.bin .sub (.var 0) (.var 6)) (.con (.int 1))) (.cons (.bin .sub (.bin .sub (.blt .len (.cons (.var 1) .nil)) (.var 4)) (.con (.int 1))) .nil)))))
   .nil))
   (.cons (.asg (.name 3) (.var 5))
   .nil)))
   (.cons (.ret (.var 2))
   .nil))))))
def N.number_of : List Str := ["ring", "some", "found", "ahead", "at", "one", "less"]
def fd.number_of : FnDef := ⟨7, 2, B.number_of⟩
def B.need_whole : CSs := (.cons (.iff (.not (.call F.is_whole [false] (.cons (.var 0) .nil))) (.cons (.rais 3 .nil)
   .nil) .nil)
   .nil)
def N.need_whole : List Str := ["number"]
def fd.need_whole : FnDef := ⟨1, 1, B.need_whole⟩
def B.moved : CSs := (.cons (.expr (.call F.need_ring [false] (.cons (.var 0) .nil)))
   (.cons (.expr (.call F.need_set [false, false] (.cons (.var 0) (.cons (.var 1) .nil))))
   (.cons (.expr (.call F.need_whole [false] (.cons (.var 2) .nil)))
   (.cons (.ret (.call F.moved_by [false, false, false] (.cons (.var 0) (.cons (.var 1) (.cons (.var 2) .nil)))))
   .nil))))
def N.moved : List Str := ["ring", "some", "number"]
def fd.moved : FnDef := ⟨3, 3, B.moved⟩
def B.stretched : CSs := (.cons (.expr (.call F.need_ring [false] (.cons (.var 0) .nil)))
   (.cons (.expr (.call F.need_set [false, false] (.cons (.var 0) (.cons (.var 1) .nil))))
   (.cons (.expr (.call F.need_whole [false] (.cons (.var 2) .nil)))
   (.cons (.ret (.call F.rests_set [false, false] (.cons (.var 0) (.cons (.comp [("one", 3)] (.bin .mul (.var 3) (.var 2)) (.name 3) (.seq (.var 1)) .none) .nil))))
   .nil))))
def N.stretched : List Str := ["ring", "some", "number", "one"]
def fd.stretched : FnDef := ⟨4, 3, B.stretched⟩
def B.need_part : CSs := (.cons (.iff (.or (.cons (.not (.call F.is_within [false, false, false] (.cons (.var 1) (.cons (.con (.int 2)) (.cons (.var 0) .nil))))) (.cons (.cmp .ne (.bin .mod (.var 0) (.var 1)) (.con (.int 0))) .nil))) (.cons (.rais 3 .nil)
   .nil) .nil)
   .nil)
def N.need_part : List Str := ["ring", "h"]
def fd.need_part : FnDef := ⟨2, 2, B.need_part⟩
def B.whole_by : CSs := (.cons (.ret (.blt .tuple (.cons (.comp [("at", 3), ("many", 4)] (.var 3) (.tup [3, 4]) (.enum (.call F.counts_by [false, false] (.cons (.var 1) (.cons (.var 2) .nil)))) (.some (.cmp .eq (.var 4) (.bin .fdiv (.var 0) (.var 2))))) .nil)))
   .nil)
def N.whole_by : List Str := ["ring", "some", "h", "at", "many"]
def fd.whole_by : FnDef := ⟨5, 3, B.whole_by⟩
def B.whole_parts : CSs := (.cons (.expr (.call F.need_ring [false] (.cons (.var 0) .nil)))
   (.cons (.expr (.call F.need_set [false, false] (.cons (.var 0) (.cons (.var 1) .nil))))
   (.cons (.expr (.call F.need_part [false, false] (.cons (.var 0) (.cons (.var 2) .nil))))
   (.cons (.ret (.call F.whole_by [false, false, false] (.cons (.var 0) (.cons (.var 1) (.cons (.var 2) .nil)))))
   .nil))))
def N.whole_parts : List Str := ["ring", "some", "h"]
def fd.whole_parts : FnDef := ⟨3, 3, B.whole_parts⟩
def B.broken_parts : CSs := (.cons (.expr (.call F.need_ring [false] (.cons (.var 0) .nil)))
   (.cons (.expr (.call F.need_set [false, false] (.cons (.var 0) (.cons (.var 1) .nil))))
   (.cons (.expr (.call F.need_part [false, false] (.cons (.var 0) (.cons (.var 2) .nil))))
   (.cons (.ret (.call F.broken_by [false, false, false] (.cons (.var 0) (.cons (.var 1) (.cons (.var 2) .nil)))))
   .nil))))
def N.broken_parts : List Str := ["ring", "some", "h"]
def fd.broken_parts : FnDef := ⟨3, 3, B.broken_parts⟩
def B.rests_by : CSs := (.cons (.expr (.call F.need_ring [false] (.cons (.var 0) .nil)))
   (.cons (.expr (.call F.need_set [false, false] (.cons (.var 0) (.cons (.var 1) .nil))))
   (.cons (.expr (.call F.need_part [false, false] (.cons (.var 0) (.cons (.var 2) .nil))))
   (.cons (.ret (.blt .tuple (.cons (.comp [("at", 3), ("many", 4)] (.var 3) (.tup [3, 4]) (.enum (.call F.counts_by [false, false] (.cons (.var 1) (.cons (.var 2) .nil)))) (.some (.cmp .gt (.var 4) (.con (.int 0))))) .nil)))
   .nil))))
def N.rests_by : List Str := ["ring", "some", "h", "at", "many"]
def fd.rests_by : FnDef := ⟨5, 3, B.rests_by⟩
def B.split : CSs := (.cons (.expr (.call F.need_ring [false] (.cons (.var 0) .nil)))
   (.cons (.expr (.call F.need_set [false, false] (.cons (.var 0) (.cons (.var 1) .nil))))
   (.cons (.iff (.or (.cons (.not (.call F.is_whole [false] (.cons (.var 2) .nil))) (.cons (.cmp .notin (.var 2) (.call F.near_by [false, false] (.cons (.var 0) (.cons (.var 1) .nil)))) .nil))) (.cons (.rais 3 .nil)
   .nil) .nil)
   (.cons (.asg (.name 3) (.call F.whole_by [false, false, false] (.cons (.var 0) (.cons (.var 1) (.cons (.var 2) .nil)))))
   (.cons (.asg (.name 4) (.blt .tuple (.cons (.comp [("number", 5)] (.var 5) (.name 5) (.seq (.var 1)) (.some (.cmp .isin (.bin .mod (.var 5) (.var 2)) (.var 3)))) .nil)))
   (.cons (.ret (.tup (.cons (.var 4) (.cons (.blt .tuple (.cons (.comp [("number", 5)] (.var 5) (.name 5) (.seq (.var 1)) (.some (.cmp .notin (.var 5) (.var 4)))) .nil)) .nil))))
   .nil))))))
def N.split : List Str := ["ring", "some", "h", "rests", "whole", "number"]
def fd.split : FnDef := ⟨6, 3, B.split⟩
def B.is_set : CSs := (.cons (.expr (.call F.need_ring [false] (.cons (.var 0) .nil)))
   (.cons (.ret (.call F.a_set [false, false] (.cons (.var 0) (.cons (.var 1) .nil))))
   .nil))
def N.is_set : List Str := ["ring", "thing"]
def fd.is_set : FnDef := ⟨2, 2, B.is_set⟩
def B.set_of : CSs := (.cons (.expr (.call F.need_ring [false] (.cons (.var 0) .nil)))
   (.cons (.iff (.or (.cons (.not (.isi .list (.var 1))) (.cons (.not (.blt .all (.cons (.comp [("one", 2)] (.call F.is_whole [false] (.cons (.var 2) .nil)) (.name 2) (.seq (.var 1)) .none) .nil))) .nil))) (.cons (.rais 2 .nil)
   .nil) .nil)
   (.cons (.ret (.call F.rests_set [false, false] (.cons (.var 0) (.cons (.var 1) .nil))))
   .nil)))
def N.set_of : List Str := ["ring", "things", "one"]
def fd.set_of : FnDef := ⟨3, 2, B.set_of⟩
def B.law_one_right : CSs := (.cons (.forr (.name 2) (.seq (.lst (.cons (.fnv F.others "others") (.cons (.fnv F.least_moved "least_moved") (.cons (.fnv F.keepers "keepers") (.cons (.fnv F.nearly "nearly") (.cons (.fnv F.steps_of "steps_of") (.cons (.fnv F.number_of "number_of") .nil)))))))) (.cons (.iff (.cmp .ne (.callv [(F.others, "others"), (F.least_moved, "least_moved"), (F.keepers, "keepers"), (F.nearly, "nearly"), (F.steps_of, "steps_of"), (F.number_of, "number_of")] 2 (.cons (.var 0) (.cons (.var 1) .nil))) (.callv [(F.others, "others"), (F.least_moved, "least_moved"), (F.keepers, "keepers"), (F.nearly, "nearly"), (F.steps_of, "steps_of"), (F.number_of, "number_of")] 2 (.cons (.var 0) (.cons (.var 1) .nil)))) (.cons (.ret (.con (.bool false)))
   .nil) .nil)
   .nil))
   (.cons (.forr (.name 2) (.seq (.lst (.cons (.fnv F.moved "moved") (.cons (.fnv F.stretched "stretched") .nil)))) (.cons (.iff (.cmp .ne (.callv [(F.moved, "moved"), (F.stretched, "stretched")] 2 (.cons (.var 0) (.cons (.var 1) (.cons (.con (.int 3)) .nil)))) (.callv [(F.moved, "moved"), (F.stretched, "stretched")] 2 (.cons (.var 0) (.cons (.var 1) (.cons (.con (.int 3)) .nil))))) (.cons (.ret (.con (.bool false)))
   .nil) .nil)
   .nil))
   (.cons (.forr (.name 2) (.seq (.lst (.cons (.fnv F.whole_parts "whole_parts") (.cons (.fnv F.broken_parts "broken_parts") (.cons (.fnv F.rests_by "rests_by") .nil))))) (.cons (.iff (.cmp .ne (.callv [(F.whole_parts, "whole_parts"), (F.broken_parts, "broken_parts"), (F.rests_by, "rests_by")] 2 (.cons (.var 0) (.cons (.var 1) (.cons (.var 0) .nil)))) (.callv [(F.whole_parts, "whole_parts"), (F.broken_parts, "broken_parts"), (F.rests_by, "rests_by")] 2 (.cons (.var 0) (.cons (.var 1) (.cons (.var 0) .nil))))) (.cons (.ret (.con (.bool false)))
   .nil) .nil)
   .nil))
   (.cons (.iff (.cmp .ne (.call F.split [false, false, false] (.cons (.con (.int 4)) (.cons (.tup (.cons (.con (.int 0)) (.cons (.con (.int 2)) (.cons (.con (.int 3)) .nil)))) (.cons (.con (.int 2)) .nil)))) (.call F.split [false, false, false] (.cons (.con (.int 4)) (.cons (.tup (.cons (.con (.int 0)) (.cons (.con (.int 2)) (.cons (.con (.int 3)) .nil)))) (.cons (.con (.int 2)) .nil))))) (.cons (.ret (.con (.bool false)))
   .nil) .nil)
   (.cons (.ret (.and (.cons (.cmp .isis (.call F.is_set [false, false] (.cons (.var 0) (.cons (.var 1) .nil))) (.con (.bool true))) (.cons (.cmp .eq (.call F.set_of [false, false] (.cons (.var 0) (.cons (.blt .list (.cons (.var 1) .nil)) .nil))) (.var 1)) .nil))))
   .nil)))))
def N.law_one_right : List Str := ["_law_m", "_law_left", "_law_call"]
def fd.law_one_right : FnDef := ⟨3, 2, B.law_one_right⟩
def B.need_two : CSs := (.cons (.expr (.call F.need_ring [false] (.cons (.var 0) .nil)))
   (.cons (.expr (.call F.need_set [false, false] (.cons (.var 0) (.cons (.var 1) .nil))))
   (.cons (.expr (.call F.need_set [false, false] (.cons (.var 0) (.cons (.var 2) .nil))))
   .nil)))
def N.need_two : List Str := ["ring", "one", "other"]
def fd.need_two : FnDef := ⟨3, 3, B.need_two⟩
def B.move_to : CSs := (.cons (.expr (.call F.need_two [false, false, false] (.cons (.var 0) (.cons (.var 1) (.cons (.var 2) .nil)))))
   (.cons (.forr (.name 3) (.range (.cons (.var 0) .nil)) (.cons (.iff (.cmp .eq (.call F.moved_by [false, false, false] (.cons (.var 0) (.cons (.var 1) (.cons (.var 3) .nil)))) (.var 2)) (.cons (.ret (.var 3))
   .nil) .nil)
   .nil))
   (.cons (.ret (.con .none))
   .nil)))
def N.move_to : List Str := ["ring", "one", "other", "number"]
def fd.move_to : FnDef := ⟨4, 3, B.move_to⟩
def B.all_sums : CSs := (.cons (.box 3 (.lst .nil))
   (.cons (.forr (.name 4) (.seq (.var 1)) (.cons (.ext 3 (.comp [("second", 5)] (.bin .add (.var 4) (.var 5)) (.name 5) (.seq (.var 2)) .none))
   .nil))
   (.cons (.ret (.call F.rests_set [false, false] (.cons (.var 0) (.cons (.var 3) .nil))))
   .nil)))
def N.all_sums : List Str := ["ring", "one", "other", "found", "first", "second"]
def fd.all_sums : FnDef := ⟨6, 3, B.all_sums⟩
def B.fullest : CSs := (.cons (.asg (.name 3) (.call F.rests_set [false, false] (.cons (.var 0) (.cons (.comp [("number", 4)] (.bin .sub (.con (.int 0)) (.var 4)) (.name 4) (.seq (.call F.all_sums [false, false, false] (.cons (.var 0) (.cons (.var 1) (.cons (.var 2) .nil))))) .none) .nil))))
   (.cons (.ret (.blt .tuple (.cons (.comp [("number", 4)] (.var 4) (.name 4) (.range (.cons (.var 0) .nil)) (.some (.cmp .notin (.var 4) (.var 3)))) .nil)))
   .nil))
def N.fullest : List Str := ["ring", "one", "other", "lost", "number"]
def fd.fullest : FnDef := ⟨5, 3, B.fullest⟩
def B.third_for : CSs := (.cons (.expr (.call F.need_two [false, false, false] (.cons (.var 0) (.cons (.var 1) (.cons (.var 2) .nil)))))
   (.cons (.ret (.call F.fullest [false, false, false] (.cons (.var 0) (.cons (.var 1) (.cons (.var 2) .nil)))))
   .nil))
def N.third_for : List Str := ["ring", "one", "other"]
def fd.third_for : FnDef := ⟨3, 3, B.third_for⟩
def B.fitting : CSs := (.cons (.box 3 (.lst .nil))
   (.cons (.forr (.name 4) (.range (.cons (.var 0) .nil)) (.cons (.iff (.blt .all (.cons (.comp [("one", 5)] (.cmp .isin (.var 5) (.var 2)) (.name 5) (.seq (.call F.moved_by [false, false, false] (.cons (.var 0) (.cons (.var 1) (.cons (.var 4) .nil))))) .none) .nil)) (.cons (.app 3 (.var 4))
   .nil) .nil)
   .nil))
   (.cons (.ret (.blt .tuple (.cons (.var 3) .nil)))
   .nil)))
def N.fitting : List Str := ["ring", "some", "total", "found", "number", "one"]
def fd.fitting : FnDef := ⟨6, 3, B.fitting⟩
def B.filled_up : CSs := (.cons (.asg (.name 3) (.call F.all_sums [false, false, false] (.cons (.var 0) (.cons (.var 1) (.cons (.var 2) .nil)))))
   (.cons (.asg (.name 4) (.call F.fitting [false, false, false] (.cons (.var 0) (.cons (.var 2) (.cons (.var 3) .nil)))))
   (.cons (.ret (.tup (.cons (.var 4) (.cons (.call F.fitting [false, false, false] (.cons (.var 0) (.cons (.var 4) (.cons (.var 3) .nil)))) .nil))))
   .nil)))
def N.filled_up : List Str := ["ring", "one", "other", "total", "first"]
def fd.filled_up : FnDef := ⟨5, 3, B.filled_up⟩
def B.filled : CSs := (.cons (.expr (.call F.need_two [false, false, false] (.cons (.var 0) (.cons (.var 1) (.cons (.var 2) .nil)))))
   (.cons (.ret (.call F.filled_up [false, false, false] (.cons (.var 0) (.cons (.var 1) (.cons (.var 2) .nil)))))
   .nil))
def N.filled : List Str := ["ring", "one", "other"]
def fd.filled : FnDef := ⟨3, 3, B.filled⟩
def B.is_filled : CSs := (.cons (.expr (.call F.need_two [false, false, false] (.cons (.var 0) (.cons (.var 1) (.cons (.var 2) .nil)))))
   (.cons (.ret (.cmp .eq (.call F.filled_up [false, false, false] (.cons (.var 0) (.cons (.var 1) (.cons (.var 2) .nil)))) (.tup (.cons (.var 1) (.cons (.var 2) .nil)))))
   .nil))
def N.is_filled : List Str := ["ring", "one", "other"]
def fd.is_filled : FnDef := ⟨3, 3, B.is_filled⟩
def B.need_prime : CSs := (.cons (.expr (.call F.need_ring [false] (.cons (.var 0) .nil)))
   (.cons (.iff (.not (.blt .all (.cons (.comp [("number", 1)] (.cmp .ne (.bin .mod (.var 0) (.var 1)) (.con (.int 0))) (.name 1) (.range (.cons (.con (.int 2)) (.cons (.var 0) .nil))) .none) .nil))) (.cons (.rais 1 .nil)
   .nil) .nil)
   .nil))
def N.need_prime : List Str := ["prime", "number"]
def fd.need_prime : FnDef := ⟨2, 1, B.need_prime⟩
def B.need_asked : CSs := (.cons (.expr (.call F.need_prime [false] (.cons (.var 0) .nil)))
   (.cons (.expr (.call F.need_set [false, false] (.cons (.var 0) (.cons (.var 1) .nil))))
   (.cons (.expr (.call F.need_set [false, false] (.cons (.var 0) (.cons (.var 2) .nil))))
   (.cons (.iff (.or (.cons (.cmp .eq (.var 1) (.tup .nil)) (.cons (.cmp .eq (.var 2) (.tup .nil)) .nil))) (.cons (.rais 5 .nil)
   .nil) .nil)
   .nil))))
def N.need_asked : List Str := ["prime", "one", "other"]
def fd.need_asked : FnDef := ⟨3, 3, B.need_asked⟩
def B.fewest : CSs := (.cons (.ret (.blt .min (.cons (.var 0) (.cons (.bin .sub (.bin .add (.blt .len (.cons (.var 1) .nil)) (.blt .len (.cons (.var 2) .nil))) (.con (.int 1))) .nil))))
   .nil)
def N.fewest : List Str := ["prime", "one", "other"]
def fd.fewest : FnDef := ⟨3, 3, B.fewest⟩
def B.more_than : CSs := (.cons (.ret (.bin .sub (.blt .len (.cons (.call F.all_sums [false, false, false] (.cons (.var 0) (.cons (.var 1) (.cons (.var 2) .nil)))) .nil)) (.call F.fewest [false, false, false] (.cons (.var 0) (.cons (.var 1) (.cons (.var 2) .nil))))))
   .nil)
def N.more_than : List Str := ["prime", "one", "other"]
def fd.more_than : FnDef := ⟨3, 3, B.more_than⟩
def B.kind_of : CSs := (.cons (.expr (.call F.need_asked [false, false, false] (.cons (.var 0) (.cons (.var 1) (.cons (.var 2) .nil)))))
   (.cons (.iff (.cmp .eq (.blt .min (.cons (.blt .len (.cons (.var 1) .nil)) (.cons (.blt .len (.cons (.var 2) .nil)) .nil))) (.con (.int 1))) (.cons (.ret (.tup (.cons (.con (.str "one")) .nil)))
   .nil) .nil)
   (.cons (.iff (.cmp .eq (.call F.fewest [false, false, false] (.cons (.var 0) (.cons (.var 1) (.cons (.var 2) .nil)))) (.var 0)) (.cons (.ret (.tup (.cons (.con (.str "all")) .nil)))
   .nil) .nil)
   (.cons (.asg (.name 3) (.call F.more_than [false, false, false] (.cons (.var 0) (.cons (.var 1) (.cons (.var 2) .nil)))))
   (.cons (.iff (.cmp .gt (.var 3) (.con (.int 0))) (.cons (.ret (.tup (.cons (.con (.str "more")) (.cons (.var 3) .nil))))
   .nil) .nil)
   (.cons (.iff (.cmp .eq (.call F.fewest [false, false, false] (.cons (.var 0) (.cons (.var 1) (.cons (.var 2) .nil)))) (.bin .sub (.var 0) (.con (.int 1)))) (.cons (.ret (.tup (.cons (.con (.str "lack")) (.cons (.idx (.call F.left_out [false, false] (.cons (.var 0) (.cons (.call F.all_sums [false, false, false] (.cons (.var 0) (.cons (.var 1) (.cons (.var 2) .nil)))) .nil))) (.con (.int 0))) .nil))))
   .nil) .nil)
   (.cons (.ret (.tup (.cons (.con (.str "step")) (.cons (.blt .min (.cons (.comp [("d", 4)] (.var 4) (.name 4) (.seq (.call F.steps [false, false] (.cons (.var 0) (.cons (.var 1) .nil)))) (.some (.cmp .isin (.var 4) (.call F.steps [false, false] (.cons (.var 0) (.cons (.var 2) .nil)))))) .nil)) .nil))))
   .nil)))))))
def N.kind_of : List Str := ["prime", "one", "other", "more", "d"]
def fd.kind_of : FnDef := ⟨5, 3, B.kind_of⟩
def B.is_free : CSs := (.cons (.expr (.call F.need_two [false, false, false] (.cons (.var 0) (.cons (.var 1) (.cons (.var 2) .nil)))))
   (.cons (.expr (.call F.need_set [false, false] (.cons (.var 0) (.cons (.var 3) .nil))))
   (.cons (.ret (.cmp .notin (.con (.int 0)) (.call F.all_sums [false, false, false] (.cons (.var 0) (.cons (.call F.all_sums [false, false, false] (.cons (.var 0) (.cons (.var 1) (.cons (.var 2) .nil)))) (.cons (.var 3) .nil))))))
   .nil)))
def N.is_free : List Str := ["ring", "one", "other", "third"]
def fd.is_free : FnDef := ⟨4, 4, B.is_free⟩
def B.told_holds : CSs := (.cons (.iff (.cmp .eq (.var 3) (.con (.str "more"))) (.cons (.ret (.and (.cons (.cmp .gt (.var 4) (.con (.int 0))) (.cons (.cmp .eq (.var 4) (.call F.more_than [false, false, false] (.cons (.var 0) (.cons (.var 1) (.cons (.var 2) .nil))))) .nil))))
   .nil) .nil)
   (.cons (.iff (.cmp .eq (.var 3) (.con (.str "lack"))) (.cons (.ret (.cmp .eq (.call F.left_out [false, false] (.cons (.var 0) (.cons (.call F.all_sums [false, false, false] (.cons (.var 0) (.cons (.var 1) (.cons (.var 2) .nil)))) .nil))) (.tup (.cons (.var 4) .nil))))
   .nil) .nil)
   (.cons (.ret (.and (.cons (.cmp .eq (.var 3) (.con (.str "step"))) (.cons (.cmp .isin (.var 4) (.call F.steps [false, false] (.cons (.var 0) (.cons (.var 1) .nil)))) (.cons (.cmp .isin (.var 4) (.call F.steps [false, false] (.cons (.var 0) (.cons (.var 2) .nil)))) .nil)))))
   .nil)))
def N.told_holds : List Str := ["prime", "one", "other", "word", "number"]
def fd.told_holds : FnDef := ⟨5, 5, B.told_holds⟩
def B.alone_holds : CSs := (.cons (.iff (.cmp .eq (.var 3) (.con (.str "one"))) (.cons (.ret (.cmp .eq (.blt .min (.cons (.blt .len (.cons (.var 1) .nil)) (.cons (.blt .len (.cons (.var 2) .nil)) .nil))) (.con (.int 1))))
   .nil) .nil)
   (.cons (.ret (.and (.cons (.cmp .eq (.var 3) (.con (.str "all"))) (.cons (.cmp .eq (.call F.fewest [false, false, false] (.cons (.var 0) (.cons (.var 1) (.cons (.var 2) .nil)))) (.var 0)) .nil))))
   .nil))
def N.alone_holds : List Str := ["prime", "one", "other", "word"]
def fd.alone_holds : FnDef := ⟨4, 4, B.alone_holds⟩
def B.kind_holds : CSs := (.cons (.expr (.call F.need_asked [false, false, false] (.cons (.var 0) (.cons (.var 1) (.cons (.var 2) .nil)))))
   (.cons (.iff (.or (.cons (.not (.isi .tuple (.var 3))) (.cons (.cmp .eq (.var 3) (.tup .nil)) (.cons (.not (.isi .str (.idx (.var 3) (.con (.int 0))))) .nil)))) (.cons (.ret (.con (.bool false)))
   .nil) .nil)
   (.cons (.iff (.cmp .eq (.blt .len (.cons (.var 3) .nil)) (.con (.int 1))) (.cons (.ret (.call F.alone_holds [false, false, false, false] (.cons (.var 0) (.cons (.var 1) (.cons (.var 2) (.cons (.idx (.var 3) (.con (.int 0))) .nil))))))
   .nil) .nil)
   (.cons (.iff (.or (.cons (.cmp .ne (.blt .len (.cons (.var 3) .nil)) (.con (.int 2))) (.cons (.not (.call F.is_within [false, false, false] (.cons (.idx (.var 3) (.con (.int 1))) (.cons (.con (.int 0)) (.cons (.var 0) .nil))))) .nil))) (.cons (.ret (.con (.bool false)))
   .nil) .nil)
   (.cons (.ret (.call F.told_holds [false, false, false, false, false] (.cons (.var 0) (.cons (.var 1) (.cons (.var 2) (.cons (.idx (.var 3) (.con (.int 0))) (.cons (.idx (.var 3) (.con (.int 1))) .nil)))))))
   .nil)))))
def N.kind_holds : List Str := ["prime", "one", "other", "thing"]
def fd.kind_holds : FnDef := ⟨4, 4, B.kind_holds⟩
def B.law_two_right : CSs := (.cons (.forr (.name 3) (.seq (.lst (.cons (.fnv F.move_to "move_to") (.cons (.fnv F.third_for "third_for") (.cons (.fnv F.filled "filled") (.cons (.fnv F.is_filled "is_filled") .nil)))))) (.cons (.iff (.cmp .ne (.callv [(F.move_to, "move_to"), (F.third_for, "third_for"), (F.filled, "filled"), (F.is_filled, "is_filled")] 3 (.cons (.var 0) (.cons (.var 1) (.cons (.var 2) .nil)))) (.callv [(F.move_to, "move_to"), (F.third_for, "third_for"), (F.filled, "filled"), (F.is_filled, "is_filled")] 3 (.cons (.var 0) (.cons (.var 1) (.cons (.var 2) .nil))))) (.cons (.ret (.con (.bool false)))
   .nil) .nil)
   .nil))
   (.cons (.iff (.cmp .ne (.call F.is_free [false, false, false, false] (.cons (.var 0) (.cons (.var 1) (.cons (.var 2) (.cons (.tup (.cons (.con (.int 0)) .nil)) .nil))))) (.call F.is_free [false, false, false, false] (.cons (.var 0) (.cons (.var 1) (.cons (.var 2) (.cons (.tup (.cons (.con (.int 0)) .nil)) .nil)))))) (.cons (.ret (.con (.bool false)))
   .nil) .nil)
   (.cons (.asg (.name 4) (.call F.kind_of [false, false, false] (.cons (.var 0) (.cons (.var 1) (.cons (.var 2) .nil)))))
   (.cons (.ret (.and (.cons (.cmp .eq (.var 4) (.call F.kind_of [false, false, false] (.cons (.var 0) (.cons (.var 1) (.cons (.var 2) .nil))))) (.cons (.cmp .isis (.call F.kind_holds [false, false, false, false] (.cons (.var 0) (.cons (.var 1) (.cons (.var 2) (.cons (.var 4) .nil))))) (.con (.bool true))) .nil))))
   .nil))))
def N.law_two_right : List Str := ["_law_m", "_law_left", "_law_right", "_law_call", "_law_paper"]
def fd.law_two_right : FnDef := ⟨5, 3, B.law_two_right⟩
def B.need_number : CSs := (.cons (.iff (.not (.call F.is_within [false, false, false] (.cons (.var 0) (.cons (.var 1) (.cons (.var 2) .nil))))) (.cons (.rais 3 .nil)
   .nil) .nil)
   .nil)
def N.need_number : List Str := ["number", "least", "most"]
def fd.need_number : FnDef := ⟨3, 3, B.need_number⟩
def B.need_sizes : CSs := (.cons (.expr (.call F.need_ring [false] (.cons (.var 0) .nil)))
   (.cons (.iff (.cmp .gt (.var 0) (.glo "MOST_PAIRS" (.int 8))) (.cons (.rais 9 (.cons (.var 0) (.cons (.glo "MOST_PAIRS" (.int 8)) .nil)))
   .nil) .nil)
   (.cons (.expr (.call F.need_number [false, false, false] (.cons (.var 1) (.cons (.con (.int 1)) (.cons (.var 0) .nil)))))
   (.cons (.expr (.call F.need_number [false, false, false] (.cons (.var 2) (.cons (.con (.int 1)) (.cons (.var 0) .nil)))))
   .nil))))
def N.need_sizes : List Str := ["ring", "a", "b"]
def fd.need_sizes : FnDef := ⟨3, 3, B.need_sizes⟩
def B.set_at : CSs := (.cons (.asg (.name 3) (.tup .nil))
   (.cons (.forr (.name 4) (.range (.cons (.var 0) .nil)) (.cons (.asg (.name 5) (.bin .sub (.var 1) (.blt .len (.cons (.var 3) .nil))))
   (.cons (.iff (.cmp .gt (.var 5) (.con (.int 0))) (.cons (.asg (.name 6) (.call F.picks [false, false] (.cons (.bin .sub (.bin .sub (.var 0) (.var 4)) (.con (.int 1))) (.cons (.bin .sub (.var 5) (.con (.int 1))) .nil))))
   (.cons (.iff (.cmp .lt (.var 2) (.var 6)) (.cons (.asg (.name 3) (.bin .add (.var 3) (.tup (.cons (.var 4) .nil))))
   .nil) (.cons (.asg (.name 2) (.bin .sub (.var 2) (.var 6)))
   .nil))
   .nil)) .nil)
   .nil)))
   (.cons (.ret (.var 3))
   .nil)))
def N.set_at : List Str := ["ring", "a", "number", "found", "one", "left", "many"]
def fd.set_at : FnDef := ⟨7, 3, B.set_at⟩
def B.all_sets : CSs := (.cons (.ret (.comp [("number", 2)] (.call F.set_at [false, false, false] (.cons (.var 0) (.cons (.var 1) (.cons (.var 2) .nil)))) (.name 2) (.range (.cons (.call F.picks [false, false] (.cons (.var 0) (.cons (.var 1) .nil))) .nil)) .none))
   .nil)
def N.all_sets : List Str := ["ring", "a", "number"]
def fd.all_sets : FnDef := ⟨3, 2, B.all_sets⟩
def B.sums_by : CSs := (.cons (.box 3 (.bin .mul (.lst (.cons (.con (.int 0)) .nil)) (.bin .add (.var 0) (.con (.int 1)))))
   (.cons (.forr (.name 4) (.seq (.call F.all_sets [false, false] (.cons (.var 0) (.cons (.var 1) .nil)))) (.cons (.forr (.name 5) (.seq (.call F.all_sets [false, false] (.cons (.var 0) (.cons (.var 2) .nil)))) (.cons (.asg (.name 6) (.blt .len (.cons (.call F.all_sums [false, false, false] (.cons (.var 0) (.cons (.var 4) (.cons (.var 5) .nil)))) .nil)))
   (.cons (.seti 3 (.var 6) (.bin .add (.idx (.var 3) (.var 6)) (.con (.int 1))))
   .nil)))
   .nil))
   (.cons (.ret (.var 3))
   .nil)))
def N.sums_by : List Str := ["ring", "a", "b", "found", "one", "other", "many"]
def fd.sums_by : FnDef := ⟨7, 3, B.sums_by⟩
def B.table : CSs := (.cons (.expr (.call F.need_sizes [false, false, false] (.cons (.var 0) (.cons (.var 1) (.cons (.var 2) .nil)))))
   (.cons (.ret (.call F.sums_by [false, false, false] (.cons (.var 0) (.cons (.var 1) (.cons (.var 2) .nil)))))
   .nil))
def N.table : List Str := ["ring", "a", "b"]
def fd.table : FnDef := ⟨3, 3, B.table⟩
def B.fewest_of : CSs := (.cons (.ret (.idx (.comp [("many", 3), ("pairs", 4)] (.var 3) (.tup [3, 4]) (.enum (.call F.sums_by [false, false, false] (.cons (.var 0) (.cons (.var 1) (.cons (.var 2) .nil))))) (.some (.cmp .gt (.var 4) (.con (.int 0))))) (.con (.int 0))))
   .nil)
def N.fewest_of : List Str := ["ring", "a", "b", "many", "pairs"]
def fd.fewest_of : FnDef := ⟨5, 3, B.fewest_of⟩
def B.least_many : CSs := (.cons (.expr (.call F.need_sizes [false, false, false] (.cons (.var 0) (.cons (.var 1) (.cons (.var 2) .nil)))))
   (.cons (.ret (.call F.fewest_of [false, false, false] (.cons (.var 0) (.cons (.var 1) (.cons (.var 2) .nil)))))
   .nil))
def N.least_many : List Str := ["ring", "a", "b"]
def fd.least_many : FnDef := ⟨3, 3, B.least_many⟩
def B.first_few : CSs := (.cons (.expr (.call F.need_sizes [false, false, false] (.cons (.var 0) (.cons (.var 1) (.cons (.var 2) .nil)))))
   (.cons (.asg (.name 3) (.call F.fewest_of [false, false, false] (.cons (.var 0) (.cons (.var 1) (.cons (.var 2) .nil)))))
   (.cons (.forr (.name 4) (.seq (.call F.all_sets [false, false] (.cons (.var 0) (.cons (.var 1) .nil)))) (.cons (.forr (.name 5) (.seq (.call F.all_sets [false, false] (.cons (.var 0) (.cons (.var 2) .nil)))) (.cons (.iff (.cmp .eq (.blt .len (.cons (.call F.all_sums [false, false, false] (.cons (.var 0) (.cons (.var 4) (.cons (.var 5) .nil)))) .nil)) (.var 3)) (.cons (.ret (.tup (.cons (.var 4) (.cons (.var 5) .nil))))
   .nil) .nil)
   .nil))
   .nil))
   (.cons (.ret (.con .none))
   .nil))))
def N.first_few : List Str := ["ring", "a", "b", "least", "one", "other"]
def fd.first_few : FnDef := ⟨6, 3, B.first_few⟩
def B.sets_many : CSs := (.cons (.expr (.call F.need_ring [false] (.cons (.var 0) .nil)))
   (.cons (.expr (.call F.need_number [false, false, false] (.cons (.var 1) (.cons (.con (.int 0)) (.cons (.var 0) .nil)))))
   (.cons (.ret (.call F.picks [false, false] (.cons (.var 0) (.cons (.var 1) .nil))))
   .nil)))
def N.sets_many : List Str := ["ring", "a"]
def fd.sets_many : FnDef := ⟨2, 2, B.sets_many⟩
def B.nth_set : CSs := (.cons (.expr (.call F.need_ring [false] (.cons (.var 0) .nil)))
   (.cons (.expr (.call F.need_number [false, false, false] (.cons (.var 1) (.cons (.con (.int 0)) (.cons (.var 0) .nil)))))
   (.cons (.iff (.not (.call F.is_within [false, false, false] (.cons (.var 2) (.cons (.con (.int 0)) (.cons (.bin .sub (.call F.picks [false, false] (.cons (.var 0) (.cons (.var 1) .nil))) (.con (.int 1))) .nil))))) (.cons (.rais 3 .nil)
   .nil) .nil)
   (.cons (.ret (.call F.set_at [false, false, false] (.cons (.var 0) (.cons (.var 1) (.cons (.var 2) .nil)))))
   .nil))))
def N.nth_set : List Str := ["ring", "a", "number"]
def fd.nth_set : FnDef := ⟨3, 3, B.nth_set⟩
def B.need_kind : CSs := (.cons (.expr (.call F.need_ring [false] (.cons (.var 0) .nil)))
   (.cons (.iff (.cmp .gt (.var 0) (.glo "MOST_KINDS" (.int 12))) (.cons (.rais 9 (.cons (.var 0) (.cons (.glo "MOST_KINDS" (.int 12)) .nil)))
   .nil) .nil)
   (.cons (.expr (.call F.need_number [false, false, false] (.cons (.var 1) (.cons (.con (.int 0)) (.cons (.var 0) .nil)))))
   .nil)))
def N.need_kind : List Str := ["ring", "a"]
def fd.need_kind : FnDef := ⟨2, 2, B.need_kind⟩
def B.least_ones : CSs := (.cons (.ret (.comp [("some", 2)] (.var 2) (.name 2) (.seq (.call F.all_sets [false, false] (.cons (.var 0) (.cons (.var 1) .nil)))) (.some (.cmp .eq (.call F.least_by [false, false] (.cons (.var 0) (.cons (.var 2) .nil))) (.var 2)))))
   .nil)
def N.least_ones : List Str := ["ring", "a", "some"]
def fd.least_ones : FnDef := ⟨3, 2, B.least_ones⟩
def B.kinds_many : CSs := (.cons (.expr (.call F.need_kind [false, false] (.cons (.var 0) (.cons (.var 1) .nil))))
   (.cons (.ret (.blt .len (.cons (.call F.least_ones [false, false] (.cons (.var 0) (.cons (.var 1) .nil))) .nil)))
   .nil))
def N.kinds_many : List Str := ["ring", "a"]
def fd.kinds_many : FnDef := ⟨2, 2, B.kinds_many⟩
def B.kinds : CSs := (.cons (.expr (.call F.need_kind [false, false] (.cons (.var 0) (.cons (.var 1) .nil))))
   (.cons (.asg (.name 2) (.call F.least_ones [false, false] (.cons (.var 0) (.cons (.var 1) .nil))))
   (.cons (.iff (.cmp .gt (.blt .len (.cons (.var 2) .nil)) (.glo "MOST_LISTED" (.int 100))) (.cons (.rais 9 (.cons (.blt .len (.cons (.var 2) .nil)) (.cons (.glo "MOST_LISTED" (.int 100)) .nil)))
   .nil) .nil)
   (.cons (.ret (.var 2))
   .nil))))
def N.kinds : List Str := ["ring", "a", "found"]
def fd.kinds : FnDef := ⟨3, 2, B.kinds⟩
def B.law_sizes_right : CSs := (.cons (.iff (.or (.cons (.cmp .ne (.call F.sets_many [false, false] (.cons (.var 0) (.cons (.con (.int 2)) .nil))) (.call F.sets_many [false, false] (.cons (.var 0) (.cons (.con (.int 2)) .nil)))) (.cons (.cmp .ne (.call F.nth_set [false, false, false] (.cons (.var 0) (.cons (.con (.int 2)) (.cons (.con (.int 1)) .nil)))) (.call F.nth_set [false, false, false] (.cons (.var 0) (.cons (.con (.int 2)) (.cons (.con (.int 1)) .nil))))) .nil))) (.cons (.ret (.con (.bool false)))
   .nil) .nil)
   (.cons (.forr (.name 1) (.seq (.lst (.cons (.fnv F.table "table") (.cons (.fnv F.least_many "least_many") (.cons (.fnv F.first_few "first_few") .nil))))) (.cons (.iff (.cmp .ne (.callv [(F.table, "table"), (F.least_many, "least_many"), (F.first_few, "first_few")] 1 (.cons (.con (.int 5)) (.cons (.con (.int 2)) (.cons (.con (.int 1)) .nil)))) (.callv [(F.table, "table"), (F.least_many, "least_many"), (F.first_few, "first_few")] 1 (.cons (.con (.int 5)) (.cons (.con (.int 2)) (.cons (.con (.int 1)) .nil))))) (.cons (.ret (.con (.bool false)))
   .nil) .nil)
   .nil))
   (.cons (.ret (.and (.cons (.cmp .eq (.call F.kinds_many [false, false] (.cons (.var 0) (.cons (.con (.int 2)) .nil))) (.call F.kinds_many [false, false] (.cons (.var 0) (.cons (.con (.int 2)) .nil)))) (.cons (.cmp .eq (.call F.kinds [false, false] (.cons (.var 0) (.cons (.con (.int 2)) .nil))) (.call F.kinds [false, false] (.cons (.var 0) (.cons (.con (.int 2)) .nil)))) .nil))))
   .nil)))
def N.law_sizes_right : List Str := ["_law_m", "_law_call"]
def fd.law_sizes_right : FnDef := ⟨2, 1, B.law_sizes_right⟩
def B.law : CSs := (.cons (.forr (.name 1) (.seq (.slc (.bin .add (.var 0) (.lst (.cons (.con (.int 0)) .nil))) .none (.some (.con (.int 2))))) (.cons (.asg (.name 2) (.bin .add (.con (.int 5)) (.bin .mul (.con (.int 2)) (.bin .mod (.var 1) (.con (.int 2))))))
   (.cons (.asg (.tup [3, 4]) (.tup (.cons (.tup (.cons (.con (.int 0)) (.cons (.con (.int 1)) (.cons (.con (.int 3)) .nil)))) (.cons (.tup (.cons (.con (.int 1)) (.cons (.con (.int 2)) .nil))) .nil))))
   (.cons (.iff (.or (.cons (.not (.call F.law_one_right [false, false] (.cons (.var 2) (.cons (.var 3) .nil)))) (.cons (.not (.call F.law_two_right [false, false, false] (.cons (.var 2) (.cons (.var 3) (.cons (.var 4) .nil))))) (.cons (.not (.call F.law_sizes_right [false] (.cons (.var 2) .nil))) .nil)))) (.cons (.ret (.con (.bool false)))
   .nil) .nil)
   .nil))))
   (.cons (.ret (.con (.bool true)))
   .nil))
def N.law : List Str := ["_law_script", "_law_cell", "_law_m", "_law_left", "_law_right"]
def fd.law : FnDef := ⟨5, 1, B.law⟩
def tab : Nat → FnDef
  | 0 => fd.is_whole
  | 1 => fd.is_within
  | 2 => fd.need_ring
  | 3 => fd.a_set
  | 4 => fd.need_set
  | 5 => fd.left_out
  | 6 => fd.others
  | 7 => fd.rests_set
  | 8 => fd.moved_by
  | 9 => fd.least_by
  | 10 => fd.least_moved
  | 11 => fd.keepers_of
  | 12 => fd.keepers
  | 13 => fd.counts_by
  | 14 => fd.broken_by
  | 15 => fd.near_by
  | 16 => fd.nearly
  | 17 => fd.has_step
  | 18 => fd.steps
  | 19 => fd.steps_of
  | 20 => fd.picks
  | 21 => fd.number_of
  | 22 => fd.need_whole
  | 23 => fd.moved
  | 24 => fd.stretched
  | 25 => fd.need_part
  | 26 => fd.whole_by
  | 27 => fd.whole_parts
  | 28 => fd.broken_parts
  | 29 => fd.rests_by
  | 30 => fd.split
  | 31 => fd.is_set
  | 32 => fd.set_of
  | 33 => fd.law_one_right
  | 34 => fd.need_two
  | 35 => fd.move_to
  | 36 => fd.all_sums
  | 37 => fd.fullest
  | 38 => fd.third_for
  | 39 => fd.fitting
  | 40 => fd.filled_up
  | 41 => fd.filled
  | 42 => fd.is_filled
  | 43 => fd.need_prime
  | 44 => fd.need_asked
  | 45 => fd.fewest
  | 46 => fd.more_than
  | 47 => fd.kind_of
  | 48 => fd.is_free
  | 49 => fd.told_holds
  | 50 => fd.alone_holds
  | 51 => fd.kind_holds
  | 52 => fd.law_two_right
  | 53 => fd.need_number
  | 54 => fd.need_sizes
  | 55 => fd.set_at
  | 56 => fd.all_sets
  | 57 => fd.sums_by
  | 58 => fd.table
  | 59 => fd.fewest_of
  | 60 => fd.least_many
  | 61 => fd.first_few
  | 62 => fd.sets_many
  | 63 => fd.nth_set
  | 64 => fd.need_kind
  | 65 => fd.least_ones
  | 66 => fd.kinds_many
  | 67 => fd.kinds
  | 68 => fd.law_sizes_right
  | 69 => fd.law
  | _ => ⟨0, 0, .nil⟩
end TwL

set_option Elab.async false
set_option linter.all false
set_option maxRecDepth 100000
set_option maxHeartbeats 1000000
namespace Tw
open PySem
section
variable {α β : Type}
def Res.wp (r : Res α) (P : α → Rho → Prop) : Prop := match r with
  | .ok a ρ => P a ρ
  | _ => False
theorem wp_ok {a : α} {ρ : Rho} {P : α → Rho → Prop} : (Res.ok a ρ).wp P = P a ρ := rfl
theorem wp_bind {r : Res α} {f : α → Rho → Res β} {P : β → Rho → Prop} : (r.bind f).wp P = r.wp fun a ρ => (f a ρ).wp P := by cases r <;> rfl
theorem wp_opt {o : Option α} {ρ : Rho} {P : α → Rho → Prop} : (Res.opt o ρ).wp P = ∃ a, o = some a ∧ P a ρ := by
  cases o with
  | none => exact propext ⟨fun h => h.elim, fun ⟨a, e, _⟩ => nomatch e⟩
  | some a => exact propext ⟨fun h => ⟨a, rfl, h⟩, fun ⟨b, e, h⟩ => by cases e; exact h⟩
theorem wp_some {a : α} {ρ : Rho} {P : α → Rho → Prop} : (Res.opt (some a) ρ).wp P = P a ρ := rfl
theorem wp_imp {r : Res α} {P Q : α → Rho → Prop} (h : r.wp P) (f : ∀ a ρ, P a ρ → Q a ρ) : r.wp Q := by
  cases r with
  | ok a ρ => exact f a ρ h
  | _ => exact h
theorem wp_iff {r : Res α} {P : α → Rho → Prop} : r.wp P ↔ ∃ a ρ, r = .ok a ρ ∧ P a ρ := by
  cases r with
  | ok a ρ => exact ⟨fun h => ⟨a, ρ, rfl, h⟩, fun ⟨b, σ, e, h⟩ => by cases e; exact h⟩
  | _ => exact ⟨fun h => h.elim, fun ⟨_, _, e, _⟩ => nomatch e⟩
end
def CRes.wp (r : CRes) (P : D → Bool → List (List D) → Prop) : Prop := match r with
  | .ok d fr o => P d fr o
  | _ => False
theorem cwp_imp {r : CRes} {P Q : D → Bool → List (List D) → Prop} (h : r.wp P) (f : ∀ d fr o, P d fr o → Q d fr o) : r.wp Q := by
  cases r with
  | ok d fr o => exact f d fr o h
  | _ => exact h
def SRes.wp (r : SRes) (N : Rho → Prop) (R : D → Bool → Rho → Prop) (B : Rho → Prop) : Prop := match r with
  | .next ρ => N ρ
  | .ret d fr ρ => R d fr ρ
  | .brk ρ => B ρ
  | _ => False
section
variable {N : Rho → Prop} {R : D → Bool → Rho → Prop} {B : Rho → Prop} {α : Type}
theorem swp_next {ρ : Rho} : (SRes.next ρ).wp N R B = N ρ := rfl
theorem swp_brk {ρ : Rho} : (SRes.brk ρ).wp N R B = B ρ := rfl
theorem swp_ret {d : D} {fr : Bool} {ρ : Rho} : (SRes.ret d fr ρ).wp N R B = R d fr ρ := rfl
theorem swp_seq {r : SRes} {f : Rho → SRes} : (r.seq f).wp N R B = r.wp (fun ρ => (f ρ).wp N R B) R B := by cases r <;> rfl
theorem swp_thn {r : Res α} {f : α → Rho → SRes} : (r.thn f).wp N R B = r.wp fun a ρ => (f a ρ).wp N R B := by cases r <;> rfl
theorem swp_nextO {o : Option Rho} : (nextO o).wp N R B = ∃ ρ, o = some ρ ∧ N ρ := by
  cases o with
  | none => exact propext ⟨fun h => h.elim, fun ⟨a, e, _⟩ => nomatch e⟩
  | some a => exact propext ⟨fun h => ⟨a, rfl, h⟩, fun ⟨b, e, h⟩ => by cases e; exact h⟩
theorem swp_nextS {ρ : Rho} : (nextO (some ρ)).wp N R B = N ρ := rfl
theorem swp_imp {r : SRes} {N' : Rho → Prop} {R' : D → Bool → Rho → Prop} {B' : Rho → Prop} (h : r.wp N R B) (h1 : ∀ ρ, N ρ → N' ρ) (h2 : ∀ d fr ρ, R d fr ρ → R' d fr ρ) (h3 : ∀ ρ, B ρ → B' ρ) : r.wp N' R' B' := by
  cases r with
  | next ρ => exact h1 ρ h
  | ret d fr ρ => exact h2 d fr ρ h
  | brk ρ => exact h3 ρ h
  | _ => exact h
/-- a loop, by what holds ahead of the items that are left -/
theorem swp_for {tg : Tg} {body : Rho → SRes} (I : List D → Rho → Prop) (hs : ∀ d ds ρ, I (d :: ds) ρ → ∃ ρ1, setTg ρ tg d = some ρ1 ∧ (body ρ1).wp (I ds) R N) (he : ∀ ρ, I [] ρ → N ρ) : ∀ (ds : List D) (ρ : Rho), I ds ρ → (forLoop tg body ds ρ).wp N R B
  | [], ρ, h => he ρ h
  | d :: ds, ρ, h => by
    obtain ⟨ρ1, e1, h1⟩ := hs d ds ρ h
    unfold forLoop
    rw [e1]
    dsimp only
    cases eb : body ρ1 with
    | next ρ2 => rw [eb] at h1; exact swp_for I hs he ds ρ2 h1
    | brk ρ2 => rw [eb] at h1; exact h1
    | ret d fr ρ2 => rw [eb] at h1; exact h1
    | exc x ρ2 => rw [eb] at h1; exact h1
    | stuck => rw [eb] at h1; exact h1
/-- while, by a measure -/
theorem swp_while {test : Rho → Res Bool} {body : Rho → SRes} (I : Nat → Rho → Prop) (hs : ∀ n ρ, I n ρ → (test ρ).wp fun b ρ1 => if b = true then (body ρ1).wp (fun ρ2 => ∃ m, m < n ∧ I m ρ2) R N else N ρ1) : ∀ (k n : Nat) (ρ : Rho), n < k → I n ρ → (whileLoop test body k ρ).wp N R B
  | 0, n, ρ, h, _ => absurd h (Nat.not_lt_zero _)
  | k + 1, n, ρ, hk, h => by
    unfold whileLoop
    rw [swp_thn]
    refine wp_imp (hs n ρ h) fun b ρ1 h1 => ?_
    cases b with
    | false => exact h1
    | true =>
      rw [if_pos rfl] at h1 ⊢
      cases eb : body ρ1 with
      | next ρ2 => rw [eb] at h1; obtain ⟨m, hm, hI⟩ := h1; exact swp_while I hs k m ρ2 (by omega) hI
      | brk ρ2 => rw [eb] at h1; exact h1
      | ret d fr ρ2 => rw [eb] at h1; exact h1
      | exc x ρ2 => rw [eb] at h1; exact h1
      | stuck => rw [eb] at h1; exact h1
end
/-- a comprehension, by what holds ahead of the items that are left -/
theorem wp_comp {vs : List Nat} {tg : Tg} {cond : Rho → Res Bool} {elt : Rho → Res D} {P : List D → Rho → Prop} (J : List D → List D → Rho → Prop)
    (hs : ∀ d ds acc ρ, J (d :: ds) acc ρ → ∃ ρ1, setTg ρ tg d = some ρ1 ∧ (cond ρ1).wp fun b ρ2 => if b = true then (elt ρ2).wp fun x ρ3 => J ds (acc ++ [x]) (wipeR ρ3 vs) else J ds acc (wipeR ρ2 vs)) :
    ∀ (ds acc : List D) (ρ : Rho), J ds acc ρ → (∀ acc' ρ', J [] (acc ++ acc') ρ' → P acc' ρ') → (compLoop vs tg cond elt ds ρ).wp P
  | [], acc, ρ, h, he => he [] ρ (by rw [List.append_nil]; exact h)
  | d :: ds, acc, ρ, h, he => by
    obtain ⟨ρ1, e1, h1⟩ := hs d ds acc ρ h
    unfold compLoop
    rw [e1]
    dsimp only
    cases ec : cond ρ1 with
    | ok b ρ2 =>
      rw [ec] at h1
      have h1 : if b = true then (elt ρ2).wp fun x ρ3 => J ds (acc ++ [x]) (wipeR ρ3 vs) else J ds acc (wipeR ρ2 vs) := h1
      cases b with
      | true =>
        rw [if_pos rfl] at h1
        cases ee : elt ρ2 with
        | ok x ρ3 =>
          rw [ee] at h1
          have h1 : J ds (acc ++ [x]) (wipeR ρ3 vs) := h1
          dsimp only
          rw [ee]
          dsimp only
          rw [wp_bind]
          exact wp_comp (P := fun r ρ4 => P (x :: r) ρ4) J hs ds (acc ++ [x]) _ h1 fun acc' ρ' q => he (x :: acc') ρ' (by rw [List.append_assoc] at q; exact q)
        | exc z ρ3 => rw [ee] at h1; exact h1.elim
        | stuck => rw [ee] at h1; exact h1.elim
      | false =>
        rw [if_neg Bool.false_ne_true] at h1
        exact wp_comp J hs ds acc _ h1 he
    | exc z ρ2 => rw [ec] at h1; exact h1.elim
    | stuck => rw [ec] at h1; exact h1.elim
/-- a comprehension that changes nothing -/
theorem wp_compP {i : Nat} {cond : Rho → Res Bool} {elt : Rho → Res D} {P : List D → Rho → Prop} {ρ : Rho} (p : D → Bool) (f : D → D) (ds : List D) (hi : ρ[i]? = some none)
    (hc : ∀ d ∈ ds, cond (ρ.set i (some (.dat d))) = .ok (p d) (ρ.set i (some (.dat d)))) (he : ∀ d ∈ ds, p d = true → elt (ρ.set i (some (.dat d))) = .ok (f d) (ρ.set i (some (.dat d)))) (q : P ((ds.filter p).map f) ρ) :
    (compLoop [i] (.name i) cond elt ds ρ).wp P := by
  have hl : i < ρ.length := (List.getElem?_eq_some_iff.mp hi).1
  have back : ∀ d, wipeR (ρ.set i (some (.dat d))) [i] = ρ := fun d => by
    show (ρ.set i _).set i none = ρ
    rw [List.set_set]
    apply List.ext_getElem?
    intro j
    by_cases e : i = j
    · subst e; rw [List.getElem?_set_self hl, hi]
    · rw [List.getElem?_set_ne e]
  refine wp_comp (J := fun rest acc ρ' => ρ' = ρ ∧ ∃ done, done ++ rest = ds ∧ acc = (done.filter p).map f) (fun d rest acc ρ' ⟨e, done, e1, e2⟩ => ?_) ds [] ρ ⟨rfl, [], rfl, rfl⟩ fun acc' ρ' ⟨e, done, e1, e2⟩ => ?_
  · subst e
    have hd : d ∈ ds := by rw [← e1]; simp
    refine ⟨ρ'.set i (some (.dat d)), ?_, ?_⟩
    · show put ρ' i d = _
      unfold put
      rw [if_pos ⟨hl, by rw [hi]; rfl⟩]
    · rw [hc d hd]
      show if p d = true then _ else _
      cases ep : p d with
      | true =>
        rw [if_pos rfl, he d hd ep]
        exact ⟨back d, done ++ [d], by rw [List.append_assoc]; exact e1, by rw [e2, List.filter_append, List.map_append, List.filter_cons_of_pos ep]; rfl⟩
      | false =>
        rw [if_neg Bool.false_ne_true]
        exact ⟨back d, done ++ [d], by rw [List.append_assoc]; exact e1, by rw [e2, List.filter_append, List.filter_cons_of_neg (by rw [ep]; exact Bool.false_ne_true)]; simp⟩
  · rw [List.append_nil] at e1
    subst e1 e
    rw [List.nil_append] at e2
    subst e2
    exact q
/-- a function's end -/
theorem wp_fn {c : CallT} {f : FnDef} {as : List Arg} {P : D → Bool → List (List D) → Prop} (hl : as.length = f.params ∧ f.params ≤ f.slots)
    (h : (evSs c f.body (as.map Arg.ent ++ List.replicate (f.slots - f.params) none)).wp (fun ρ => ∃ o, outsOf as ρ = some o ∧ P .none false o) (fun d fr ρ => ∃ o, outsOf as ρ = some o ∧ P d fr o) fun _ => False) : (runFn c f as).wp P := by
  unfold runFn
  rw [if_pos hl]
  unfold fnEnd
  cases e : evSs c f.body (as.map Arg.ent ++ List.replicate (f.slots - f.params) none) with
  | next ρ => rw [e] at h; obtain ⟨o, e1, q⟩ := h; dsimp only; rw [e1]; exact q
  | ret d fr ρ => rw [e] at h; obtain ⟨o, e1, q⟩ := h; dsimp only; rw [e1]; exact q
  | brk ρ => rw [e] at h; exact h
  | exc x ρ => rw [e] at h; exact h.elim
  | stuck => rw [e] at h; exact h
/-- a call's end -/
theorem wp_callEnd {ρ : Rho} {is : List Nat} {r : CRes} {P : D × Bool → Rho → Prop} (h : r.wp fun d fr o => ∃ ρ', back ρ is o = some ρ' ∧ P (d, fr) ρ') : (callEnd ρ is r).wp P := by
  cases r with
  | ok d fr o =>
    obtain ⟨ρ', e, q⟩ := h
    unfold callEnd
    dsimp only
    rw [e]
    exact q
  | _ => exact h.elim
theorem run_wp {tab : Nat → FnDef} {g : Nat} {as : List Arg} {P : D → Bool → List (List D) → Prop} (h : (run tab g as).wp P) : ∃ d fr o, run tab g as = .ok d fr o ∧ P d fr o := by
  cases e : run tab g as with
  | ok d fr o => rw [e] at h; exact ⟨d, fr, o, rfl, h⟩
  | _ => rw [e] at h; exact h.elim
end Tw

set_option Elab.async false
set_option linter.all false
set_option maxRecDepth 100000
set_option maxHeartbeats 1000000
namespace TwR
open Tw
open PySem
section
variable {c : CallT} {ρ ρ' : Rho} {P : D → Rho → Prop} {e a b t : CE}
theorem r_con {d : D} (h : P d ρ) : (evE c (.con d) ρ).wp P := h
theorem r_glo {x : Str} {d : D} (h : P d ρ) : (evE c (.glo x d) ρ).wp P := h
theorem r_var {i : Nat} {d : D} (e : rd ρ i = .ok d ρ') (h : P d ρ') : (evE c (.var i) ρ).wp P := by
  show (rd ρ i).wp P
  rw [e]; exact h
theorem r_bin {o : BOp} (h : (evE c a ρ).wp fun x ρ1 => (evE c b ρ1).wp fun y ρ2 => ∃ d, binD o x y = some d ∧ P d ρ2) : (evE c (.bin o a b) ρ).wp P := by
  show ((evE c a ρ).bind fun x ρ1 => (evE c b ρ1).bind fun y ρ2 => .opt (binD o x y) ρ2).wp P
  simp only [wp_bind, wp_opt]; exact h
theorem r_neg (h : (evE c a ρ).wp fun x ρ1 => ∃ i, x = .int i ∧ P (.int (-i)) ρ1) : (evE c (.neg a) ρ).wp P := by
  show ((evE c a ρ).bind fun x ρ1 => match x with | .int i => .ok (.int (-i)) ρ1 | _ => .stuck).wp P
  rw [wp_bind]
  exact wp_imp h fun x ρ1 ⟨i, e, q⟩ => by subst e; exact q
theorem r_cmp {o : COp} (h : (pq a (evE c a) ρ).wp fun p ρ1 => (pq b (evE c b) ρ1).wp fun q ρ2 => ∃ x, look ρ2 p = some x ∧ ∃ y, look ρ2 q = some y ∧ ∃ k, cmpD o x y = some k ∧ P (.bool k) ρ2) : (evE c (.cmp o a b) ρ).wp P := by
  show ((pq a (evE c a) ρ).bind fun p ρ1 => (pq b (evE c b) ρ1).bind fun q ρ2 => .opt ((look ρ2 p).bind fun x => (look ρ2 q).bind fun y => (cmpD o x y).map .bool) ρ2).wp P
  simp only [wp_bind, wp_opt]
  exact wp_imp h fun p ρ1 h => wp_imp h fun q ρ2 ⟨x, e1, y, e2, k, e3, h⟩ => ⟨.bool k, by rw [e1, e2]; show (cmpD o x y).map _ = _; rw [e3]; rfl, h⟩
theorem r_cmp2 {o p : COp} (h : (evE c a ρ).wp fun x ρ1 => (evE c b ρ1).wp fun y ρ2 => ∃ k, cmpD o x y = some k ∧ (k = true → (evE c t ρ2).wp fun z ρ3 => ∃ k2, cmpD p y z = some k2 ∧ P (.bool k2) ρ3) ∧ (k = false → P (.bool false) ρ2)) : (evE c (.cmp2 o p a b t) ρ).wp P := by
  show ((evE c a ρ).bind fun x ρ1 => (evE c b ρ1).bind fun y ρ2 => (Res.opt (cmpD o x y) ρ2).bind fun k ρ3 => if k = true then (evE c t ρ3).bind fun z ρ4 => .opt ((cmpD p y z).map .bool) ρ4 else .ok (.bool false) ρ3).wp P
  simp only [wp_bind, wp_opt]
  refine wp_imp h fun x ρ1 h => wp_imp h fun y ρ2 ⟨k, e, h1, h2⟩ => ⟨k, e, ?_⟩
  cases k with
  | true =>
    rw [if_pos rfl]
    simp only [wp_bind, wp_opt]
    exact wp_imp (h1 rfl) fun z ρ3 ⟨k2, e2, q⟩ => ⟨.bool k2, by rw [e2]; rfl, q⟩
  | false => rw [if_neg Bool.false_ne_true]; exact h2 rfl
theorem r_and1 (h : (evE c a ρ).wp P) : (evE c (.and (.cons a .nil)) ρ).wp P := h
theorem r_and {es : CEs} (h : (evE c a ρ).wp fun x ρ1 => ∃ k, truB x = some k ∧ (k = true → (evE c (.and (.cons b es)) ρ1).wp P) ∧ (k = false → P x ρ1)) : (evE c (.and (.cons a (.cons b es))) ρ).wp P := by
  show ((evE c a ρ).bind fun x ρ1 => (truR x ρ1).bind fun k ρ2 => if k = true then evAnd c (.cons b es) ρ2 else .ok x ρ2).wp P
  unfold truR
  simp only [wp_bind, wp_opt]
  refine wp_imp h fun x ρ1 ⟨k, e, h1, h2⟩ => ⟨k, e, ?_⟩
  cases k with
  | true => exact h1 rfl
  | false => exact h2 rfl
theorem r_or1 (h : (evE c a ρ).wp P) : (evE c (.or (.cons a .nil)) ρ).wp P := h
theorem r_or {es : CEs} (h : (evE c a ρ).wp fun x ρ1 => ∃ k, truB x = some k ∧ (k = false → (evE c (.or (.cons b es)) ρ1).wp P) ∧ (k = true → P x ρ1)) : (evE c (.or (.cons a (.cons b es))) ρ).wp P := by
  show ((evE c a ρ).bind fun x ρ1 => (truR x ρ1).bind fun k ρ2 => if k = true then .ok x ρ2 else evOr c (.cons b es) ρ2).wp P
  unfold truR
  simp only [wp_bind, wp_opt]
  refine wp_imp h fun x ρ1 ⟨k, e, h1, h2⟩ => ⟨k, e, ?_⟩
  cases k with
  | true => exact h2 rfl
  | false => exact h1 rfl
theorem r_not (h : (evE c a ρ).wp fun x ρ1 => ∃ k, truB x = some k ∧ P (.bool (!k)) ρ1) : (evE c (.not a) ρ).wp P := by
  show ((evE c a ρ).bind fun x ρ1 => (truR x ρ1).bind fun t ρ2 => .ok (.bool (!t)) ρ2).wp P
  unfold truR
  simp only [wp_bind, wp_opt]
  exact h
theorem r_ite (h : (evE c t ρ).wp fun x ρ1 => ∃ k, truB x = some k ∧ (k = true → (evE c a ρ1).wp P) ∧ (k = false → (evE c b ρ1).wp P)) : (evE c (.ite t a b) ρ).wp P := by
  show ((evE c t ρ).bind fun x ρ1 => (truR x ρ1).bind fun k ρ2 => if k = true then evE c a ρ2 else evE c b ρ2).wp P
  unfold truR
  simp only [wp_bind, wp_opt]
  refine wp_imp h fun x ρ1 ⟨k, e, h1, h2⟩ => ⟨k, e, ?_⟩
  cases k with
  | true => exact h1 rfl
  | false => exact h2 rfl
theorem r_tup {es : CEs} (h : (evEs c es ρ).wp fun xs ρ1 => P (.tuple xs) ρ1) : (evE c (.tup es) ρ).wp P := by
  show ((evEs c es ρ).bind fun xs ρ1 => .ok (.tuple xs) ρ1).wp P
  rw [wp_bind]; exact h
theorem r_lst {es : CEs} (h : (evEs c es ρ).wp fun xs ρ1 => P (.list xs) ρ1) : (evE c (.lst es) ρ).wp P := by
  show ((evEs c es ρ).bind fun xs ρ1 => .ok (.list xs) ρ1).wp P
  rw [wp_bind]; exact h
theorem r_idx (h : (pq a (evE c a) ρ).wp fun p ρ1 => (evE c b ρ1).wp fun y ρ2 => ∃ x, look ρ2 p = some x ∧ ∃ d, idxD x y = some d ∧ P d ρ2) : (evE c (.idx a b) ρ).wp P := by
  show ((pq a (evE c a) ρ).bind fun p ρ1 => (evE c b ρ1).bind fun y ρ2 => .opt ((look ρ2 p).bind fun x => idxD x y) ρ2).wp P
  simp only [wp_bind, wp_opt]
  exact wp_imp h fun p ρ1 h => wp_imp h fun q ρ2 ⟨x, e1, d, e2, h⟩ => ⟨d, by rw [e1]; exact e2, h⟩
theorem r_slc {lo hi : CO} (h : (pq a (evE c a) ρ).wp fun p ρ1 => (evO c lo ρ1).wp fun l ρ2 => (evO c hi ρ2).wp fun hh ρ3 => ∃ x, look ρ3 p = some x ∧ ∃ d, slcD x l hh = some d ∧ P d ρ3) : (evE c (.slc a lo hi) ρ).wp P := by
  show ((pq a (evE c a) ρ).bind fun p ρ1 => (evO c lo ρ1).bind fun l ρ2 => (evO c hi ρ2).bind fun h ρ3 => .opt ((look ρ3 p).bind fun x => slcD x l h) ρ3).wp P
  simp only [wp_bind, wp_opt]
  exact wp_imp h fun p ρ1 h => wp_imp h fun l ρ2 h => wp_imp h fun q ρ3 ⟨x, e1, d, e2, h⟩ => ⟨d, by rw [e1]; exact e2, h⟩
theorem r_rev (h : (pq a (evE c a) ρ).wp fun p ρ1 => ∃ x, look ρ1 p = some x ∧ ∃ d, revD x = some d ∧ P d ρ1) : (evE c (.rev a) ρ).wp P := by
  show ((pq a (evE c a) ρ).bind fun p ρ1 => .opt ((look ρ1 p).bind revD) ρ1).wp P
  simp only [wp_bind, wp_opt]
  exact wp_imp h fun p ρ1 ⟨x, e1, d, e2, h⟩ => ⟨d, by rw [e1]; exact e2, h⟩
theorem r_isi {ty : Ty} (h : (pq a (evE c a) ρ).wp fun p ρ1 => ∃ x, look ρ1 p = some x ∧ isFn x = false ∧ P (.bool (isiD ty x)) ρ1) : (evE c (.isi ty a) ρ).wp P := by
  show ((pq a (evE c a) ρ).bind fun p ρ1 => .opt ((look ρ1 p).bind fun x => if isFn x = true then none else some (.bool (isiD ty x))) ρ1).wp P
  simp only [wp_bind, wp_opt]
  exact wp_imp h fun p ρ1 ⟨x, e1, e2, h⟩ => ⟨_, by rw [e1]; show (if isFn x = true then none else some _) = _; rw [e2]; rfl, h⟩
theorem r_sset (h : (pq a (evE c a) ρ).wp fun p ρ1 => ∃ x, look ρ1 p = some x ∧ ∃ d, ssetD x = some d ∧ P d ρ1) : (evE c (.sset a) ρ).wp P := by
  show ((pq a (evE c a) ρ).bind fun p ρ1 => .opt ((look ρ1 p).bind ssetD) ρ1).wp P
  simp only [wp_bind, wp_opt]
  exact wp_imp h fun p ρ1 ⟨x, e1, d, e2, h⟩ => ⟨d, by rw [e1]; exact e2, h⟩
theorem r_lset (h : (pq a (evE c a) ρ).wp fun p ρ1 => ∃ x, look ρ1 p = some x ∧ ∃ d, lsetD x = some d ∧ P d ρ1) : (evE c (.lset a) ρ).wp P := by
  show ((pq a (evE c a) ρ).bind fun p ρ1 => .opt ((look ρ1 p).bind lsetD) ρ1).wp P
  simp only [wp_bind, wp_opt]
  exact wp_imp h fun p ρ1 ⟨x, e1, d, e2, h⟩ => ⟨d, by rw [e1]; exact e2, h⟩
theorem r_blt {f : Bt} {es : CEs} (h : (evQs c es ρ).wp fun ps ρ1 => ∃ ds, looks ρ1 ps = some ds ∧ ∃ d, btD f ds = some d ∧ P d ρ1) : (evE c (.blt f es) ρ).wp P := by
  show ((evQs c es ρ).bind fun ps ρ1 => .opt ((looks ρ1 ps).bind (btD f)) ρ1).wp P
  simp only [wp_bind, wp_opt]
  exact wp_imp h fun p ρ1 ⟨x, e1, d, e2, h⟩ => ⟨d, by rw [e1]; exact e2, h⟩
theorem r_call {f : Nat} {ms : List Bool} {es : CEs} (h : (evQs c es ρ).wp fun ps ρ1 => (callP c f ms ps ρ1).wp fun r ρ2 => P r.1 ρ2) : (evE c (.call f ms es) ρ).wp P := by
  show ((evQs c es ρ).bind fun ps ρ1 => (callP c f ms ps ρ1).bind fun r ρ2 => .ok r.1 ρ2).wp P
  simp only [wp_bind]; exact h
theorem r_comp {own : List (Str × Nat)} {elt : CE} {tg : Tg} {it : CI} {cond : CO} (h : (evI c it ρ).wp fun ds ρ1 => noMut ρ1 (own.map (·.2)) = true ∧ (compLoop (own.map (·.2)) tg (fun r => evC c cond r) (fun r => evE c elt r) ds (wipeR ρ1 (own.map (·.2)))).wp fun xs ρ2 => P (.list xs) (restR ρ2 ρ1 (own.map (·.2)))) :
    (evE c (.comp own elt tg it cond) ρ).wp P := by
  show ((evI c it ρ).bind fun ds ρ1 => if noMut ρ1 (own.map (·.2)) = true then (compLoop (own.map (·.2)) tg (fun r => evC c cond r) (fun r => evE c elt r) ds (wipeR ρ1 (own.map (·.2)))).bind fun xs ρ2 => .ok (.list xs) (restR ρ2 ρ1 (own.map (·.2))) else .stuck).wp P
  rw [wp_bind]
  refine wp_imp h fun ds ρ1 ⟨h1, h2⟩ => ?_
  rw [if_pos h1, wp_bind]
  exact h2
theorem es_nil {Q : List D → Rho → Prop} (h : Q [] ρ) : (evEs c .nil ρ).wp Q := h
theorem es_cons {Q : List D → Rho → Prop} {es : CEs} (h : (evE c e ρ).wp fun x ρ1 => (evEs c es ρ1).wp fun xs ρ2 => Q (x :: xs) ρ2) : (evEs c (.cons e es) ρ).wp Q := by
  show ((evE c e ρ).bind fun x ρ1 => (evEs c es ρ1).bind fun xs ρ2 => .ok (x :: xs) ρ2).wp Q
  simp only [wp_bind]; exact h
theorem rq_nil {Q : List PArg → Rho → Prop} (h : Q [] ρ) : (evQs c .nil ρ).wp Q := h
theorem rq_cons {Q : List PArg → Rho → Prop} {es : CEs} (h : (pq e (evE c e) ρ).wp fun x ρ1 => (evQs c es ρ1).wp fun xs ρ2 => Q (x :: xs) ρ2) : (evQs c (.cons e es) ρ).wp Q := by
  show ((pq e (evE c e) ρ).bind fun x ρ1 => (evQs c es ρ1).bind fun xs ρ2 => .ok (x :: xs) ρ2).wp Q
  simp only [wp_bind]; exact h
theorem rp_var {Q : PArg → Rho → Prop} {i : Nat} {d : D} (e : pk ρ i = some d) (h : Q (.slot i) ρ) : (pq (.var i) (evE c (.var i)) ρ).wp Q := by
  show Res.wp (match pk ρ i with | some _ => .ok (.slot i) ρ | none => .stuck) Q
  rw [e]; exact h
def noVar : CE → Bool
  | .var _ => false
  | _ => true
theorem rp_gen {Q : PArg → Rho → Prop} (hn : noVar e = true) (h : (evE c e ρ).wp fun d ρ1 => Q (.val d) ρ1) : (pq e (evE c e) ρ).wp Q := by
  have : pq e (evE c e) ρ = (evE c e ρ).bind fun d ρ1 => .ok (.val d) ρ1 := by cases e <;> first | rfl | cases hn
  rw [this, wp_bind]; exact h
theorem ro_none {Q : Option Int → Rho → Prop} (h : Q none ρ) : (evO c .none ρ).wp Q := h
theorem ro_some {Q : Option Int → Rho → Prop} (h : (evE c e ρ).wp fun x ρ1 => ∃ i, x = .int i ∧ Q (some i) ρ1) : (evO c (.some e) ρ).wp Q := by
  show ((evE c e ρ).bind fun x ρ1 => match x with | .int i => .ok (some i) ρ1 | _ => .stuck).wp Q
  rw [wp_bind]
  exact wp_imp h fun x ρ1 ⟨i, e, q⟩ => by subst e; exact q
theorem rc_none {Q : Bool → Rho → Prop} (h : Q true ρ) : (evC c .none ρ).wp Q := h
theorem rc_some {Q : Bool → Rho → Prop} (h : (evE c e ρ).wp fun x ρ1 => ∃ k, truB x = some k ∧ Q k ρ1) : (evC c (.some e) ρ).wp Q := by
  show ((evE c e ρ).bind truR).wp Q
  rw [wp_bind]
  exact wp_imp h fun x ρ1 ⟨k, e, q⟩ => by unfold truR; rw [e]; exact q
theorem ri_seq {Q : List D → Rho → Prop} (h : (evE c e ρ).wp fun x ρ1 => ∃ ds, iterD x = some ds ∧ Q ds ρ1) : (evI c (.seq e) ρ).wp Q := by
  show ((evE c e ρ).bind fun x ρ1 => .opt (iterD x) ρ1).wp Q
  simp only [wp_bind, wp_opt]; exact h
theorem ri_range {Q : List D → Rho → Prop} {es : CEs} (h : (evEs c es ρ).wp fun x ρ1 => ∃ ds, rangeD x = some ds ∧ Q ds ρ1) : (evI c (.range es) ρ).wp Q := by
  show ((evEs c es ρ).bind fun x ρ1 => .opt (rangeD x) ρ1).wp Q
  simp only [wp_bind, wp_opt]; exact h
theorem ri_enum {Q : List D → Rho → Prop} (h : (evE c e ρ).wp fun x ρ1 => ∃ ds, enumD x = some ds ∧ Q ds ρ1) : (evI c (.enum e) ρ).wp Q := by
  show ((evE c e ρ).bind fun x ρ1 => .opt (enumD x) ρ1).wp Q
  simp only [wp_bind, wp_opt]; exact h
theorem ri_zip {Q : List D → Rho → Prop} (h : (evE c a ρ).wp fun x ρ1 => (evE c b ρ1).wp fun y ρ2 => ∃ ds, zipD x y = some ds ∧ Q ds ρ2) : (evI c (.zip a b) ρ).wp Q := by
  show ((evE c a ρ).bind fun x ρ1 => (evE c b ρ1).bind fun y ρ2 => .opt (zipD x y) ρ2).wp Q
  simp only [wp_bind, wp_opt]; exact h
theorem rl_call {f : Nat} {ms : List Bool} {ps : List PArg} {as : List Tw.Arg} {Q : D × Bool → Rho → Prop} (hd : dup (lent ms ps) = false) (he : lend ms ps ρ = .ok as ρ') (h : (c f as).wp fun d fr o => ∃ ρ2, back ρ' (lent ms ps) o = some ρ2 ∧ Q (d, fr) ρ2) : (callP c f ms ps ρ).wp Q := by
  unfold callP
  rw [hd, he]
  show (callEnd ρ' (lent ms ps) (c f as)).wp Q
  exact wp_callEnd h
theorem rl_run {tab : Nat → FnDef} {n f : Nat} {as : List Tw.Arg} {Q : D → Bool → List (List D) → Prop} (hn : f < n) (h : (run tab f as).wp Q) : (callF tab n f as).wp Q := by rw [callF_run hn]; exact h
variable {N : Rho → Prop} {R : D → Bool → Rho → Prop} {B : Rho → Prop} {r : CSs}
theorem s_nil0 (h : N ρ) : (evSs c .nil ρ).wp N R B := h
theorem s_cons0 {s : CS} (h : (evS c s ρ).wp (fun ρ1 => (evSs c r ρ1).wp N R B) R B) : (evSs c (.cons s r) ρ).wp N R B := by
  show ((evS c s ρ).seq fun ρ1 => evSs c r ρ1).wp N R B
  rw [swp_seq]; exact h
theorem st_asg {tg : Tg} (h : (evE c e ρ).wp fun d ρ1 => ∃ ρ2, setTg ρ1 tg d = some ρ2 ∧ N ρ2) : (evS c (.asg tg e) ρ).wp N R B := by
  show ((evE c e ρ).thn fun d ρ1 => nextO (setTg ρ1 tg d)).wp N R B
  simp only [swp_thn, swp_nextO]; exact h
theorem st_box {i : Nat} (h : (evR c e ρ).wp fun q ρ1 => ∃ xs, q = (.list xs, true) ∧ i < ρ1.length ∧ isPar ρ1[i]? = false ∧ N (ρ1.set i (some (.own xs)))) : (evS c (.box i e) ρ).wp N R B := by
  show ((evR c e ρ).thn fun r ρ1 => match r with
    | (.list xs, true) => if i < ρ1.length ∧ isPar ρ1[i]? = false then .next (ρ1.set i (some (.own xs))) else .stuck
    | _ => .stuck).wp N R B
  rw [swp_thn]
  refine wp_imp h fun q ρ1 ⟨xs, e, h1, h2, h3⟩ => ?_
  subst e
  dsimp only
  rw [if_pos ⟨h1, h2⟩]
  exact h3
theorem st_expr (h : (evE c e ρ).wp fun _ ρ1 => N ρ1) : (evS c (.expr e) ρ).wp N R B := by
  show ((evE c e ρ).thn fun _ ρ1 => .next ρ1).wp N R B
  rw [swp_thn]; exact h
theorem st_app {i : Nat} (hm : isMut ρ[i]? = true) (h : (evE c e ρ).wp fun d ρ1 => ∃ ρ2, chg ρ1 i (fun xs => if xs.length < SL then some (xs ++ [d]) else none) = some ρ2 ∧ N ρ2) : (evS c (.app i e) ρ).wp N R B := by
  show (if isMut ρ[i]? = true then (evE c e ρ).thn fun d ρ1 => nextO (chg ρ1 i fun xs => if xs.length < SL then some (xs ++ [d]) else none) else .stuck).wp N R B
  rw [if_pos hm]
  simp only [swp_thn, swp_nextO]; exact h
theorem st_ext {i : Nat} (hm : isMut ρ[i]? = true) (h : (evE c e ρ).wp fun d ρ1 => ∃ ys, d = .list ys ∧ ∃ ρ2, chg ρ1 i (fun xs => if xs.length + ys.length ≤ SL then some (xs ++ ys) else none) = some ρ2 ∧ N ρ2) : (evS c (.ext i e) ρ).wp N R B := by
  show (if isMut ρ[i]? = true then (evE c e ρ).thn fun d ρ1 => match d with
    | .list ys => nextO (chg ρ1 i fun xs => if xs.length + ys.length ≤ SL then some (xs ++ ys) else none)
    | _ => .stuck else .stuck).wp N R B
  rw [if_pos hm, swp_thn]
  refine wp_imp h fun d ρ1 ⟨ys, e, ρ2, e2, h⟩ => ?_
  subst e
  dsimp only
  rw [e2]; exact h
theorem st_seti {i : Nat} (h : (evE c e ρ).wp fun d ρ1 => isMut ρ1[i]? = true ∧ (evE c t ρ1).wp fun k ρ2 => ∃ j, k = .int j ∧ ∃ ρ3, chg ρ2 i (fun xs => (L2.ixN xs.length j).map fun m => xs.set m d) = some ρ3 ∧ N ρ3) : (evS c (.seti i t e) ρ).wp N R B := by
  show ((evE c e ρ).thn fun d ρ1 => if isMut ρ1[i]? = true then (evE c t ρ1).thn fun k ρ2 => match k with
    | .int j => nextO (chg ρ2 i fun xs => (L2.ixN xs.length j).map fun m => xs.set m d)
    | _ => .stuck else .stuck).wp N R B
  rw [swp_thn]
  refine wp_imp h fun d ρ1 ⟨hm, h⟩ => ?_
  rw [if_pos hm, swp_thn]
  refine wp_imp h fun k ρ2 ⟨j, e, ρ3, e2, h⟩ => ?_
  subst e
  dsimp only
  rw [e2]; exact h
theorem st_ret (h : (evR c e ρ).wp fun q ρ1 => R q.1 q.2 ρ1) : (evS c (.ret e) ρ).wp N R B := by
  show ((evR c e ρ).thn fun r ρ1 => .ret r.1 r.2 ρ1).wp N R B
  rw [swp_thn]; exact h
theorem st_pass (h : N ρ) : (evS c .pass ρ).wp N R B := h
theorem st_brk (h : B ρ) : (evS c .brk ρ).wp N R B := h
theorem st_if {p q : CSs} (h : (evE c t ρ).wp fun x ρ1 => ∃ k, truB x = some k ∧ (k = true → (evSs c p ρ1).wp N R B) ∧ (k = false → (evSs c q ρ1).wp N R B)) : (evS c (.iff t p q) ρ).wp N R B := by
  show (((evE c t ρ).bind truR).thn fun k ρ1 => if k = true then evSs c p ρ1 else evSs c q ρ1).wp N R B
  rw [swp_thn, wp_bind]
  refine wp_imp h fun x ρ1 ⟨k, e, h1, h2⟩ => ?_
  unfold truR
  rw [e]
  cases k with
  | true => exact h1 rfl
  | false => exact h2 rfl
theorem st_for {tg : Tg} {it : CI} {body : CSs} (h : (evI c it ρ).wp fun ds ρ1 => (forLoop tg (fun r => evSs c body r) ds ρ1).wp N R B) : (evS c (.forr tg it body) ρ).wp N R B := by
  show ((evI c it ρ).thn fun ds ρ1 => forLoop tg (fun r => evSs c body r) ds ρ1).wp N R B
  rw [swp_thn]; exact h
variable {Q : D × Bool → Rho → Prop}
theorem f_dat {i : Nat} {d : D} (e : ρ[i]? = some (some (.dat d))) (h : Q (d, false) ρ) : (evR c (.var i) ρ).wp Q := by
  show Res.wp (match ρ[i]? with | some (some (.own xs)) => .ok (.list xs, true) (ρ.set i none) | some (some (.dat d)) => .ok (d, false) ρ | _ => .stuck) Q
  rw [e]; exact h
theorem f_own {i : Nat} {xs : List D} (e : ρ[i]? = some (some (.own xs))) (h : Q (.list xs, true) (ρ.set i none)) : (evR c (.var i) ρ).wp Q := by
  show Res.wp (match ρ[i]? with | some (some (.own xs)) => .ok (.list xs, true) (ρ.set i none) | some (some (.dat d)) => .ok (d, false) ρ | _ => .stuck) Q
  rw [e]; exact h
theorem f_call {f : Nat} {ms : List Bool} {es : CEs} (h : (evQs c es ρ).wp fun ps ρ1 => (callP c f ms ps ρ1).wp Q) : (evR c (.call f ms es) ρ).wp Q := by
  show ((evQs c es ρ).bind fun ps ρ1 => callP c f ms ps ρ1).wp Q
  rw [wp_bind]; exact h
def genF : CE → Bool
  | .var _ => false
  | .call .. => false
  | _ => true
theorem f_gen (hg : genF e = true) (h : (evE c e ρ).wp fun d ρ1 => Q (d, newForm e d) ρ1) : (evR c e ρ).wp Q := by
  have : evR c e ρ = (evE c e ρ).bind fun d ρ1 => .ok (d, newForm e d) ρ1 := by cases e <;> first | rfl | cases hg
  rw [this, wp_bind]; exact h
end
section
variable {P : D → Prop} {i j : Int}
theorem b_add (h : P (.int (i + j))) : ∃ d, binD .add (.int i) (.int j) = some d ∧ P d := ⟨_, rfl, h⟩
theorem b_sub (h : P (.int (i - j))) : ∃ d, binD .sub (.int i) (.int j) = some d ∧ P d := ⟨_, rfl, h⟩
theorem b_mul (h1 : (-18446744073709551616 < i ∧ i < 18446744073709551616) ∨ (-18446744073709551616 < j ∧ j < 18446744073709551616)) (h : P (.int (i * j))) : ∃ d, binD .mul (.int i) (.int j) = some d ∧ P d := by
  refine ⟨_, if_pos ?_, h⟩
  unfold smallI
  rcases h1 with h1 | h1
  · rw [decide_eq_true (show -(2 ^ 64) < i by omega), decide_eq_true (show i < 2 ^ 64 by omega)]; rfl
  · rw [decide_eq_true (show -(2 ^ 64) < j by omega), decide_eq_true (show j < 2 ^ 64 by omega)]; simp
theorem b_mod (h1 : 0 < j) (h : P (.int (i % j))) : ∃ d, binD .mod (.int i) (.int j) = some d ∧ P d := ⟨_, if_pos h1, h⟩
theorem b_fdiv (h1 : 0 < j ∧ j < 1073741824) (h : P (.int (i / j))) : ∃ d, binD .fdiv (.int i) (.int j) = some d ∧ P d := ⟨_, if_pos h1, h⟩
theorem b_catL {xs ys : List D} (h1 : xs.length + ys.length ≤ SL) (h : P (.list (xs ++ ys))) : ∃ d, binD .add (.list xs) (.list ys) = some d ∧ P d := ⟨_, if_pos h1, h⟩
theorem b_catT {xs ys : List D} (h1 : xs.length + ys.length ≤ SL) (h : P (.tuple (xs ++ ys))) : ∃ d, binD .add (.tuple xs) (.tuple ys) = some d ∧ P d := ⟨_, if_pos h1, h⟩
theorem d_divmod (h1 : 0 < j ∧ j < 1073741824) (h : P (.tuple [.int (i / j), .int (i % j)])) : ∃ d, btD .divmod [.int i, .int j] = some d ∧ P d := ⟨_, if_pos h1, h⟩
theorem b_pow (h1 : 0 ≤ j ∧ j ≤ 1000 ∧ i.natAbs < 2 ^ 64) (h : P (.int (i ^ j.toNat))) : ∃ d, binD .pow (.int i) (.int j) = some d ∧ P d := ⟨_, if_pos h1, h⟩
theorem d_max (h : P (.int (if j > i then j else i))) : ∃ d, btD .max [.int i, .int j] = some d ∧ P d := ⟨_, rfl, h⟩
theorem d_min (h : P (.int (if j < i then j else i))) : ∃ d, btD .min [.int i, .int j] = some d ∧ P d := ⟨_, rfl, h⟩
variable {Q : Bool → Prop}
theorem c_eqI (h : Q (decide (i = j))) : ∃ k, cmpD .eq (.int i) (.int j) = some k ∧ Q k := ⟨_, rfl, h⟩
theorem c_neI (h : Q (!decide (i = j))) : ∃ k, cmpD .ne (.int i) (.int j) = some k ∧ Q k := ⟨_, rfl, h⟩
theorem c_lt (h : Q (decide (i < j))) : ∃ k, cmpD .lt (.int i) (.int j) = some k ∧ Q k := ⟨_, rfl, h⟩
theorem c_le (h : Q (decide (i ≤ j))) : ∃ k, cmpD .le (.int i) (.int j) = some k ∧ Q k := ⟨_, rfl, h⟩
theorem c_gt (h : Q (decide (j < i))) : ∃ k, cmpD .gt (.int i) (.int j) = some k ∧ Q k := ⟨_, rfl, h⟩
theorem c_ge (h : Q (decide (j ≤ i))) : ∃ k, cmpD .ge (.int i) (.int j) = some k ∧ Q k := ⟨_, rfl, h⟩
theorem t_bool {k : Bool} (h : Q k) : ∃ k', truB (.bool k) = some k' ∧ Q k' := ⟨_, rfl, h⟩
end
end TwR

set_option Elab.async false
set_option linter.all false
set_option maxRecDepth 100000
set_option maxHeartbeats 1000000
namespace TwR
open Tw PySem

/-- a set as the program has it: rising, within the ring -/
structure IsSet (n : Int) (xs : List Int) : Prop where
  inc : xs.Pairwise (· < ·)
  mem : ∀ x ∈ xs, 0 ≤ x ∧ x < n
abbrev lstI (xs : List Int) : D := .list (xs.map .int)
abbrev tupI (xs : List Int) : D := .tuple (xs.map .int)
theorem set_back {ρ : Rho} {i : Nat} {x : Option Ent} (h : ρ[i]? = some none) : wipeR (ρ.set i x) [i] = ρ := by
  show (ρ.set i x).set i none = ρ
  rw [List.set_set]
  have hl : i < ρ.length := (List.getElem?_eq_some_iff.mp h).1
  apply List.ext_getElem?
  intro j
  by_cases e : i = j
  · subst e; rw [List.getElem?_set_self hl, h]
  · rw [List.getElem?_set_ne e]
theorem put_at {ρ : Rho} {i : Nat} {d : D} (h : ρ[i]? = some none) : setTg ρ (.name i) d = some (ρ.set i (some (.dat d))) := by
  show put ρ i d = _
  unfold put
  rw [if_pos ⟨(List.getElem?_eq_some_iff.mp h).1, by rw [h]; rfl⟩]
/-- values drawn, one for each item -/
theorem wp_drawn {i : Nat} {elt : Rho → Res D} {P : List D → Rho → Prop} (S : Rho → Prop) (A : Int → Prop) (hS : ∀ r, S r → r[i]? = some none)
    (he : ∀ r d, S r → (elt (r.set i (some (.dat d)))).wp fun x r2 => (∃ y, x = .int y ∧ A y) ∧ ∃ r', S r' ∧ r2 = r'.set i (some (.dat d))) (ds : List D) (ρ : Rho) (h0 : S ρ)
    (q : ∀ (ys : List Int) r', (∀ y ∈ ys, A y) → ys.length = ds.length → S r' → P (ys.map .int) r') : (compLoop [i] (.name i) (fun r => .ok true r) elt ds ρ).wp P := by
  refine wp_comp (J := fun rest acc r => S r ∧ ∃ ys : List Int, acc = ys.map .int ∧ (∀ y ∈ ys, A y) ∧ ys.length + rest.length = ds.length) (fun d rest acc r ⟨hr, ys, e1, e2, e3⟩ => ?_) ds [] ρ ⟨h0, [], rfl, fun _ z => by simp at z, by simp⟩ fun acc' r ⟨hr, ys, e1, e2, e3⟩ => ?_
  · refine ⟨_, put_at (hS r hr), ?_⟩
    rw [wp_ok, if_pos rfl]
    refine wp_imp (he r d hr) fun x r2 ⟨⟨y, ex, ay⟩, r', hr', er⟩ => ?_
    subst ex er
    rw [set_back (hS r' hr')]
    refine ⟨hr', ys ++ [y], by rw [e1]; simp, fun z hz => ?_, by simp at e3 ⊢; omega⟩
    rcases List.mem_append.mp hz with hz | hz
    · exact e2 z hz
    · rw [List.mem_singleton.mp hz]; exact ay
  · rw [List.nil_append] at e1
    subst e1
    exact q ys r e2 (by simpa using e3) hr
/-- the numbers of a range that a test keeps -/
theorem wp_kept {i : Nat} {cond : Rho → Res Bool} {elt : Rho → Res D} {P : List D → Rho → Prop} (S : Rho → Prop) (hS : ∀ r, S r → r[i]? = some none) (n : Nat)
    (hc : ∀ r (x : Int), S r → 0 ≤ x → x < n → (cond (r.set i (some (.dat (.int x))))).wp fun b r2 => ∃ r', S r' ∧ r2 = r'.set i (some (.dat (.int x))))
    (he : ∀ r (x : Int), S r → elt (r.set i (some (.dat (.int x)))) = .ok (.int x) (r.set i (some (.dat (.int x))))) (ρ : Rho) (h0 : S ρ)
    (q : ∀ ys r', IsSet n ys → S r' → P (ys.map .int) r') : (compLoop [i] (.name i) cond elt (rangeL 0 n) ρ).wp P := by
  have hr : rangeL 0 n = (List.range' 0 n).map fun (k : Nat) => PyData.int (k : Int) := by
    unfold rangeL
    rw [← List.range_eq_range']
    apply List.map_congr_left
    intro k _
    rw [Int.zero_add]
  rw [hr]
  refine wp_comp (J := fun rest acc r => S r ∧ ∃ (k : Nat) (ys : List Int), k ≤ n ∧ rest = (List.range' k (n - k)).map (fun (k : Nat) => PyData.int (k : Int)) ∧ acc = ys.map .int ∧ IsSet k ys) (fun d rest acc r ⟨hr, k, ys, hk, e1, e2, e3⟩ => ?_) _ [] ρ ⟨h0, 0, [], Nat.zero_le _, rfl, rfl, ⟨List.Pairwise.nil, fun _ z => by simp at z⟩⟩ fun acc' r ⟨hr, k, ys, hk, e1, e2, e3⟩ => ?_
  · have hlt : k < n := by
      rcases Nat.lt_or_ge k n with h | h
      · exact h
      · have : n - k = 0 := by omega
        rw [this] at e1
        cases e1
    obtain ⟨m, hm⟩ : ∃ m, n - k = m + 1 := ⟨n - k - 1, by omega⟩
    rw [hm, List.range'_succ] at e1
    have ed : d = .int (k : Int) := (List.cons.inj e1).1
    have er : rest = (List.range' (k + 1) m).map fun (k : Nat) => PyData.int (k : Int) := (List.cons.inj e1).2
    subst ed
    have er' : rest = (List.range' (k + 1) (n - (k + 1))).map fun (k : Nat) => PyData.int (k : Int) := by rw [er, show n - (k + 1) = m by omega]
    have grow : ∀ ys', IsSet (k : Nat) ys' → IsSet ((k + 1 : Nat) : Int) ys' := fun ys' h => ⟨h.inc, fun x hx => by have := h.mem x hx; omega⟩
    refine ⟨_, put_at (hS r hr), wp_imp (hc r k hr (by omega) (by omega)) fun b r2 ⟨r', hr', e4⟩ => ?_⟩
    subst e4
    cases b with
    | true =>
      rw [if_pos rfl, he r' k hr', wp_ok, set_back (hS r' hr')]
      refine ⟨hr', k + 1, ys ++ [(k : Int)], hlt, er', by rw [e2]; simp, ⟨?_, fun x hx => ?_⟩⟩
      · rw [List.pairwise_append]
        exact ⟨e3.inc, List.pairwise_singleton _ _, fun a ha b hb => by rw [List.mem_singleton.mp hb]; exact (e3.mem a ha).2⟩
      · rcases List.mem_append.mp hx with hx | hx
        · have := e3.mem x hx; omega
        · rw [List.mem_singleton.mp hx]; omega
    | false =>
      rw [if_neg Bool.false_ne_true, set_back (hS r' hr')]
      exact ⟨hr', k + 1, ys, hlt, er', e2, grow ys e3⟩
  · rw [List.nil_append] at e2
    subst e2
    refine q ys r ⟨e3.inc, fun x hx => ?_⟩ hr
    have := e3.mem x hx
    omega
/-- a comprehension over ints that changes nothing -/
theorem wp_pureI {i : Nat} {cond : Rho → Res Bool} {elt : Rho → Res D} {P : List D → Rho → Prop} {ρ : Rho} (p : Int → Bool) (f : Int → D) (xs : List Int) (hi : ρ[i]? = some none)
    (hc : ∀ x ∈ xs, (cond (ρ.set i (some (.dat (.int x))))).wp fun b r => b = p x ∧ r = ρ.set i (some (.dat (.int x))))
    (he : ∀ x ∈ xs, p x = true → (elt (ρ.set i (some (.dat (.int x))))).wp fun d r => d = f x ∧ r = ρ.set i (some (.dat (.int x)))) (q : P ((xs.filter p).map f) ρ) :
    (compLoop [i] (.name i) cond elt (xs.map .int) ρ).wp P := by
  refine wp_comp (J := fun rest acc r => r = ρ ∧ ∃ done todo, done ++ todo = xs ∧ rest = todo.map .int ∧ acc = (done.filter p).map f) (fun d rest acc r ⟨e, done, todo, e1, e2, e3⟩ => ?_) _ [] ρ ⟨rfl, [], xs, rfl, rfl, rfl⟩ fun acc' r ⟨e, done, todo, e1, e2, e3⟩ => ?_
  · subst e
    cases todo with
    | nil => cases e2
    | cons x todo =>
      have ed : d = .int x := (List.cons.inj e2).1
      have er : rest = todo.map .int := (List.cons.inj e2).2
      subst ed
      have hx : x ∈ xs := by rw [← e1]; simp
      refine ⟨_, put_at hi, wp_imp (hc x hx) fun b r2 ⟨eb, e4⟩ => ?_⟩
      subst e4 eb
      cases ep : p x with
      | true =>
        rw [if_pos rfl]
        refine wp_imp (he x hx ep) fun y r3 ⟨ey, e5⟩ => ?_
        subst ey e5
        rw [set_back hi]
        exact ⟨rfl, done ++ [x], todo, by rw [List.append_assoc]; exact e1, er, by rw [e3, List.filter_append, List.map_append, List.filter_cons_of_pos ep]; rfl⟩
      | false =>
        rw [if_neg Bool.false_ne_true, set_back hi]
        exact ⟨rfl, done ++ [x], todo, by rw [List.append_assoc]; exact e1, er, by rw [e3, List.filter_append, List.filter_cons_of_neg (by rw [ep]; exact Bool.false_ne_true)]; simp⟩
  · subst e
    cases todo with
    | nil =>
      rw [List.append_nil] at e1
      subst e1
      rw [List.nil_append] at e3
      subst e3
      exact q
    | cons x todo => cases e2
theorem rangeL_ints (n : Nat) : rangeL 0 n = ((List.range n).map fun (k : Nat) => (k : Int)).map .int := by
  unfold rangeL
  rw [List.map_map]
  apply List.map_congr_left
  intro k _
  show PyData.int (0 + (k : Int)) = .int k
  rw [Int.zero_add]
/-- an item by its place -/
theorem d_idxL {xs : List D} {i : Int} {P : D → Prop} (h0 : 0 ≤ i) (h1 : i < xs.length) (h : ∀ d ∈ xs, P d) : ∃ d, idxD (.list xs) (.int i) = some d ∧ P d := by
  have hl : i.toNat < xs.length := by omega
  refine ⟨xs[i.toNat], ?_, h _ (List.getElem_mem hl)⟩
  show L2.atI xs i = _
  unfold L2.atI L2.ixN
  rw [if_pos h0, if_pos h1]
  exact List.getElem?_eq_getElem hl
theorem f_old {c : CallT} {ρ : Rho} {e : CE} {Q : D × Bool → Rho → Prop} (hg : (genF e && !isNew e) = true) (h : (evE c e ρ).wp fun d ρ1 => Q (d, false) ρ1) : (evR c e ρ).wp Q := by
  rw [Bool.and_eq_true] at hg
  refine f_gen hg.1 (wp_imp h fun d ρ1 q => ?_)
  have : newForm e d = false := by
    cases d with
    | list xs => show isNew e = false; simpa using hg.2
    | _ => rfl
  rw [this]; exact q
theorem r_rangeI {n : Int} {Q : List D → Prop} (h0 : 0 ≤ n) (h1 : n ≤ 16777216) (h : Q (rangeL 0 n.toNat)) : ∃ ds, rangeD [.int n] = some ds ∧ Q ds := ⟨_, if_pos ⟨by omega, h1⟩, h⟩
end TwR

set_option Elab.async false
set_option linter.all false
set_option maxRecDepth 100000
set_option maxHeartbeats 1000000
namespace TwR
open Tw PySem
variable {α β γ : Type}
abbrev tupE (e : α → D) (xs : List α) : D := .tuple (xs.map e)
abbrev lstE (e : α → D) (xs : List α) : D := .list (xs.map e)
abbrev parE (e : α → D) (f : β → D) (p : α × β) : D := .tuple [e p.1, f p.2]
abbrev triE (e : α → D) (f : β → D) (g : γ → D) (p : α × β × γ) : D := .tuple [e p.1, f p.2.1, g p.2.2]
def optE (e : α → D) : Option α → D
  | some a => e a
  | none => .none
class Enc (e : α → D) (k : outParam Nat) : Prop where
  can : ∀ a, (e a).canLay0 = true
  dep : ∀ a, (e a).depth ≤ k
  eqv : ∀ a b, PyData.eqv (e a) (e b) = true ↔ a = b
theorem canAll {e : α → D} {k : Nat} [Enc e k] : ∀ xs : List α, PyData.canLayAll0 (xs.map e) = true
  | [] => by simp [PyData.canLayAll0]
  | x :: xs => by simp [PyData.canLayAll0, Enc.can (e := e) (k := k) x, canAll xs]
theorem depAll {e : α → D} {k : Nat} [Enc e k] : ∀ xs : List α, PyData.depthAll (xs.map e) ≤ k
  | [] => by simp [PyData.depthAll]
  | x :: xs => by
    have h1 := Enc.dep (e := e) (k := k) x
    have h2 := depAll (e := e) (k := k) xs
    simp only [List.map_cons, PyData.depthAll]
    omega
theorem eqvAllE {e : α → D} {k : Nat} [Enc e k] : ∀ xs ys : List α, PyData.eqvAll (xs.map e) (ys.map e) = true ↔ xs = ys
  | [], [] => by simp [PyData.eqvAll]
  | [], y :: ys => by simp [PyData.eqvAll]
  | x :: xs, [] => by simp [PyData.eqvAll]
  | x :: xs, y :: ys => by simp [PyData.eqvAll, Enc.eqv (e := e) (k := k), eqvAllE (e := e) (k := k) xs ys]
instance : Enc PyData.int 0 := ⟨fun a => by simp [PyData.canLay0], fun a => by simp [PyData.depth], fun a b => by simp [PyData.eqv]⟩
instance : Enc PyData.bool 0 := ⟨fun a => by simp [PyData.canLay0], fun a => by simp [PyData.depth], fun a b => by simp [PyData.eqv]⟩
instance encT {e : α → D} {k : Nat} [Enc e k] : Enc (tupE e) (k + 1) := ⟨fun a => by simp only [tupE, PyData.canLay0]; exact canAll a, fun a => by simp only [tupE, PyData.depth]; have := depAll (e := e) (k := k) a; omega, fun a b => by simp only [tupE, PyData.eqv]; exact eqvAllE a b⟩
instance encL {e : α → D} {k : Nat} [Enc e k] : Enc (lstE e) (k + 1) := ⟨fun a => by simp only [lstE, PyData.canLay0]; exact canAll a, fun a => by simp only [lstE, PyData.depth]; have := depAll (e := e) (k := k) a; omega, fun a b => by simp only [lstE, PyData.eqv]; exact eqvAllE a b⟩
instance encP {e : α → D} {f : β → D} {k l : Nat} [Enc e k] [Enc f l] : Enc (parE e f) (k + l + 1) := ⟨fun a => by simp [parE, PyData.canLay0, PyData.canLayAll0, Enc.can (e := e) (k := k), Enc.can (e := f) (k := l)], fun a => by
  have h1 := Enc.dep (e := e) (k := k) a.1
  have h2 := Enc.dep (e := f) (k := l) a.2
  simp only [parE, PyData.depth, PyData.depthAll]; omega, fun a b => by
  simp only [parE, PyData.eqv, PyData.eqvAll, Bool.and_true, Bool.and_eq_true, Enc.eqv (e := e) (k := k), Enc.eqv (e := f) (k := l)]
  exact Prod.ext_iff.symm⟩
theorem shpE {e : α → D} {k : Nat} [Enc e k] (hk : k ≤ 64 := by decide) (a : α) : shp (e a) = true := by
  show ((e a).canLay0 && decide ((e a).depth ≤ 64)) = true
  have := Enc.dep (e := e) (k := k) a
  rw [Enc.can (e := e) (k := k) a, decide_eq_true (by omega)]; rfl
theorem eqvE {e : α → D} {k : Nat} [Enc e k] [DecidableEq α] (a b : α) : PyData.eqv (e a) (e b) = decide (a = b) := by
  rw [Bool.eq_iff_iff, Enc.eqv (e := e) (k := k), decide_eq_true_eq]

variable {c : CallT} {ρ ρ' : Rho} {a b e t : CE} {x y z d : D} {ds : List D} {i j : Int}
def PE (c : CallT) (ρ : Rho) (e : CE) (d : D) : Prop := evE c e ρ = .ok d ρ
def PQ (c : CallT) (ρ : Rho) (e : CE) (d : D) : Prop := ∃ p, pq e (evE c e) ρ = .ok p ρ ∧ look ρ p = some d
def PEs (c : CallT) (ρ : Rho) (es : CEs) (ds : List D) : Prop := evEs c es ρ = .ok ds ρ
def PQs (c : CallT) (ρ : Rho) (es : CEs) (ds : List D) : Prop := ∃ ps, evQs c es ρ = .ok ps ρ ∧ looks ρ ps = some ds
def PAs (c : CallT) (ρ : Rho) (ms : List Bool) (es : CEs) (ds : List D) : Prop := ∃ ps, evQs c es ρ = .ok ps ρ ∧ lend ms ps ρ = .ok (ds.map .val) ρ ∧ lent ms ps = []
def PI (c : CallT) (ρ : Rho) (it : CI) (ds : List D) : Prop := evI c it ρ = .ok ds ρ
def PC (c : CallT) (ρ : Rho) (o : CO) (k : Bool) : Prop := evC c o ρ = .ok k ρ
def PO (c : CallT) (ρ : Rho) (o : CO) (k : Option Int) : Prop := evO c o ρ = .ok k ρ

theorem pe_con : PE c ρ (.con d) d := rfl
theorem pe_conE {ea : α → D} (v : α) (h : d = ea v) : PE c ρ (.con d) (ea v) := by rw [h]; rfl
theorem pe_glo {s : Str} : PE c ρ (.glo s d) d := rfl
theorem pe_gloE {s : Str} {ea : α → D} (v : α) (h : d = ea v) : PE c ρ (.glo s d) (ea v) := by rw [h]; rfl
theorem pe_var {k : Nat} (h : ρ[k]? = some (some (.dat d))) : PE c ρ (.var k) d := by
  show rd ρ k = _
  unfold rd; rw [h]
theorem pe_bin {o : BOp} (ha : PE c ρ a x) (hb : PE c ρ b y) (h : binD o x y = some d) : PE c ρ (.bin o a b) d := by
  show ((evE c a ρ).bind fun x ρ1 => (evE c b ρ1).bind fun y ρ2 => .opt (binD o x y) ρ2) = _
  rw [ha, Res.bind_ok, hb, Res.bind_ok, h]; rfl
theorem pe_neg (ha : PE c ρ a (.int i)) : PE c ρ (.neg a) (.int (-i)) := by
  show ((evE c a ρ).bind fun x ρ1 => match x with | .int i => .ok (PyData.int (-i)) ρ1 | _ => .stuck) = _
  rw [ha, Res.bind_ok]
theorem pq_var {k : Nat} (h : pk ρ k = some d) : PQ c ρ (.var k) d := by
  refine ⟨.slot k, ?_, h⟩
  show (match pk ρ k with | some _ => Res.ok (PArg.slot k) ρ | none => .stuck) = _
  rw [h]
theorem pq_gen (hn : noVar e = true) (h : PE c ρ e d) : PQ c ρ e d := by
  have : pq e (evE c e) ρ = (evE c e ρ).bind fun d ρ1 => .ok (.val d) ρ1 := by cases e <;> first | rfl | cases hn
  exact ⟨.val d, by rw [this, h]; rfl, rfl⟩
theorem pe_cmp {o : COp} {k : Bool} (ha : PQ c ρ a x) (hb : PQ c ρ b y) (h : cmpD o x y = some k) : PE c ρ (.cmp o a b) (.bool k) := by
  obtain ⟨p, ep, lp⟩ := ha
  obtain ⟨q, eq, lq⟩ := hb
  show ((pq a (evE c a) ρ).bind fun p ρ1 => (pq b (evE c b) ρ1).bind fun q ρ2 => .opt ((look ρ2 p).bind fun x => (look ρ2 q).bind fun y => (cmpD o x y).map PyData.bool) ρ2) = _
  rw [ep, Res.bind_ok, eq, Res.bind_ok, lp, lq]
  show Res.opt ((cmpD o x y).map PyData.bool) ρ = _
  rw [h]; rfl
theorem pe_cmp2 {o p : COp} {k m : Bool} (ha : PE c ρ a x) (hb : PE c ρ b y) (h : cmpD o x y = some k) (he : PE c ρ e z) (h2 : cmpD p y z = some m) : PE c ρ (.cmp2 o p a b e) (.bool (k && m)) := by
  show ((evE c a ρ).bind fun x ρ1 => (evE c b ρ1).bind fun y ρ2 => (Res.opt (cmpD o x y) ρ2).bind fun t ρ3 => if t = true then (evE c e ρ3).bind fun z ρ4 => .opt ((cmpD p y z).map PyData.bool) ρ4 else .ok (PyData.bool false) ρ3) = _
  rw [ha, Res.bind_ok, hb, Res.bind_ok, h, Res.opt_some, Res.bind_ok]
  cases k with
  | true => rw [if_pos rfl, he, Res.bind_ok, h2]; rfl
  | false => rfl
theorem pe_and1 (h : PE c ρ a d) : PE c ρ (.and (.cons a .nil)) d := h
theorem pe_and {es : CEs} {k m : Bool} (ha : PE c ρ a (.bool k)) (h : k = true → PE c ρ (.and (.cons b es)) (.bool m)) : PE c ρ (.and (.cons a (.cons b es))) (.bool (k && m)) := by
  show ((evE c a ρ).bind fun x ρ1 => (truR x ρ1).bind fun k ρ2 => if k = true then evAnd c (.cons b es) ρ2 else .ok x ρ2) = _
  rw [ha, Res.bind_ok]
  cases k with
  | true => exact h rfl
  | false => rfl
theorem pe_or1 (h : PE c ρ a d) : PE c ρ (.or (.cons a .nil)) d := h
theorem pe_or {es : CEs} {k m : Bool} (ha : PE c ρ a (.bool k)) (h : k = false → PE c ρ (.or (.cons b es)) (.bool m)) : PE c ρ (.or (.cons a (.cons b es))) (.bool (k || m)) := by
  show ((evE c a ρ).bind fun x ρ1 => (truR x ρ1).bind fun k ρ2 => if k = true then .ok x ρ2 else evOr c (.cons b es) ρ2) = _
  rw [ha, Res.bind_ok]
  cases k with
  | true => rfl
  | false => exact h rfl
/-- or of a value -/
theorem pe_orV {k : Bool} (ha : PE c ρ a x) (ht : truB x = some k) (h : k = false → PE c ρ b y) : PE c ρ (.or (.cons a (.cons b .nil))) (if k = true then x else y) := by
  show ((evE c a ρ).bind fun x ρ1 => (truR x ρ1).bind fun k ρ2 => if k = true then .ok x ρ2 else evOr c (.cons b .nil) ρ2) = _
  rw [ha, Res.bind_ok]
  unfold truR
  rw [ht, Res.opt_some, Res.bind_ok]
  cases k with
  | true => rfl
  | false => exact h rfl
theorem pe_not {k : Bool} (ha : PE c ρ a x) (ht : truB x = some k) : PE c ρ (.not a) (.bool (!k)) := by
  show ((evE c a ρ).bind fun x ρ1 => (truR x ρ1).bind fun t ρ2 => .ok (PyData.bool (!t)) ρ2) = _
  rw [ha, Res.bind_ok]
  unfold truR
  rw [ht]; rfl
theorem pe_ite {k : Bool} (ht : PE c ρ t x) (hk : truB x = some k) (ha : k = true → PE c ρ a y) (hb : k = false → PE c ρ b z) : PE c ρ (.ite t a b) (if k = true then y else z) := by
  show ((evE c t ρ).bind fun x ρ1 => (truR x ρ1).bind fun k ρ2 => if k = true then evE c a ρ2 else evE c b ρ2) = _
  rw [ht, Res.bind_ok]
  unfold truR
  rw [hk, Res.opt_some, Res.bind_ok]
  cases k with
  | true => exact ha rfl
  | false => exact hb rfl
theorem pe_iteE {ea : α → D} {u v : α} {k : Bool} (ht : PE c ρ t x) (hk : truB x = some k) (ha : k = true → PE c ρ a (ea u)) (hb : k = false → PE c ρ b (ea v)) : PE c ρ (.ite t a b) (ea (if k = true then u else v)) := by
  have := pe_ite ht hk ha hb
  cases k <;> exact this
theorem pe_orE {ea : α → D} {u v : α} {k : Bool} (ha : PE c ρ a (ea u)) (ht : truB (ea u) = some k) (h : k = false → PE c ρ b (ea v)) : PE c ρ (.or (.cons a (.cons b .nil))) (ea (if k = true then u else v)) := by
  have := pe_orV ha ht h
  cases k <;> exact this
theorem pes_nil : PEs c ρ .nil [] := rfl
theorem pes_cons {es : CEs} (h : PE c ρ e d) (hs : PEs c ρ es ds) : PEs c ρ (.cons e es) (d :: ds) := by
  show ((evE c e ρ).bind fun x ρ1 => (evEs c es ρ1).bind fun xs ρ2 => .ok (x :: xs) ρ2) = _
  rw [h, Res.bind_ok, hs]; rfl
theorem pes_nilE {ea : α → D} : PEs c ρ .nil (([] : List α).map ea) := rfl
theorem pes_consE {ea : α → D} {es : CEs} {v : α} {vs : List α} (h : PE c ρ e (ea v)) (hs : PEs c ρ es (vs.map ea)) : PEs c ρ (.cons e es) ((v :: vs).map ea) := pes_cons h hs
theorem pe_tup {es : CEs} (h : PEs c ρ es ds) : PE c ρ (.tup es) (.tuple ds) := by
  show ((evEs c es ρ).bind fun xs ρ1 => .ok (PyData.tuple xs) ρ1) = _
  rw [h]; rfl
theorem pe_lst {es : CEs} (h : PEs c ρ es ds) : PE c ρ (.lst es) (.list ds) := by
  show ((evEs c es ρ).bind fun xs ρ1 => .ok (PyData.list xs) ρ1) = _
  rw [h]; rfl
theorem pe_idx (ha : PQ c ρ a x) (hb : PE c ρ b y) (h : idxD x y = some d) : PE c ρ (.idx a b) d := by
  obtain ⟨p, ep, lp⟩ := ha
  show ((pq a (evE c a) ρ).bind fun p ρ1 => (evE c b ρ1).bind fun y ρ2 => .opt ((look ρ2 p).bind fun x => idxD x y) ρ2) = _
  rw [ep, Res.bind_ok, hb, Res.bind_ok, lp]
  show Res.opt (idxD x y) ρ = _
  rw [h]; rfl
theorem po_none : PO c ρ .none none := rfl
theorem po_some (h : PE c ρ e (.int i)) : PO c ρ (.some e) (some i) := by
  show ((evE c e ρ).bind fun x ρ1 => match x with | .int i => .ok (some i) ρ1 | _ => .stuck) = _
  rw [h]; rfl
theorem pe_slc {lo hi : CO} {l h' : Option Int} (ha : PQ c ρ a x) (hl : PO c ρ lo l) (hh : PO c ρ hi h') (h : slcD x l h' = some d) : PE c ρ (.slc a lo hi) d := by
  obtain ⟨p, ep, lp⟩ := ha
  show ((pq a (evE c a) ρ).bind fun p ρ1 => (evO c lo ρ1).bind fun l ρ2 => (evO c hi ρ2).bind fun h ρ3 => .opt ((look ρ3 p).bind fun x => slcD x l h) ρ3) = _
  rw [ep, Res.bind_ok, hl, Res.bind_ok, hh, Res.bind_ok, lp]
  show Res.opt (slcD x l h') ρ = _
  rw [h]; rfl
theorem pe_rev (ha : PQ c ρ a x) (h : revD x = some d) : PE c ρ (.rev a) d := by
  obtain ⟨p, ep, lp⟩ := ha
  show ((pq a (evE c a) ρ).bind fun p ρ1 => .opt ((look ρ1 p).bind revD) ρ1) = _
  rw [ep, Res.bind_ok, lp]
  show Res.opt (revD x) ρ = _
  rw [h]; rfl
theorem pe_isi {ty : Ty} (ha : PQ c ρ a x) (hf : isFn x = false := by first | rfl | assumption) : PE c ρ (.isi ty a) (.bool (isiD ty x)) := by
  obtain ⟨p, h1, h2⟩ := ha
  show ((pq a (evE c a) ρ).bind fun p ρ1 => .opt ((look ρ1 p).bind fun x => if isFn x = true then none else some (PyData.bool (isiD ty x))) ρ1) = _
  rw [h1]
  show Res.opt ((look ρ p).bind _) ρ = _
  rw [h2]
  show Res.opt (if isFn x = true then none else some _) ρ = _
  rw [hf]
  rfl
theorem pe_sset (ha : PQ c ρ a x) (h : ssetD x = some d) : PE c ρ (.sset a) d := by
  obtain ⟨p, ep, lp⟩ := ha
  show ((pq a (evE c a) ρ).bind fun p ρ1 => .opt ((look ρ1 p).bind ssetD) ρ1) = _
  rw [ep, Res.bind_ok, lp]
  show Res.opt (ssetD x) ρ = _
  rw [h]; rfl
theorem pe_lset (ha : PQ c ρ a x) (h : lsetD x = some d) : PE c ρ (.lset a) d := by
  obtain ⟨p, ep, lp⟩ := ha
  show ((pq a (evE c a) ρ).bind fun p ρ1 => .opt ((look ρ1 p).bind lsetD) ρ1) = _
  rw [ep, Res.bind_ok, lp]
  show Res.opt (lsetD x) ρ = _
  rw [h]; rfl
theorem pe_index {xs : List D} (ha : PQ c ρ a (.list xs)) (hb : PE c ρ b y) (h : indexD (.list xs) y = some d) : PE c ρ (.index a b) d := by
  obtain ⟨p, ep, lp⟩ := ha
  show ((pq a (evE c a) ρ).bind fun p ρ1 => if isLst (look ρ1 p) = true then (evE c b ρ1).bind fun y ρ2 => .opt ((look ρ2 p).bind fun x => indexD x y) ρ2 else .stuck) = _
  rw [ep, Res.bind_ok, lp, if_pos (show isLst (some (PyData.list xs)) = true from rfl), hb, Res.bind_ok, lp]
  show Res.opt (indexD (.list xs) y) ρ = _
  rw [h]; rfl
theorem pe_count {xs : List D} (ha : PQ c ρ a (.tuple xs)) (hb : PE c ρ b y) (h : countD (.tuple xs) y = some d) : PE c ρ (.count a b) d := by
  obtain ⟨p, ep, lp⟩ := ha
  show ((pq a (evE c a) ρ).bind fun p ρ1 => if isTup' (look ρ1 p) = true then (evE c b ρ1).bind fun y ρ2 => .opt ((look ρ2 p).bind fun x => countD x y) ρ2 else .stuck) = _
  rw [ep, Res.bind_ok, lp, if_pos (show isTup' (some (PyData.tuple xs)) = true from rfl), hb, Res.bind_ok, lp]
  show Res.opt (countD (.tuple xs) y) ρ = _
  rw [h]; rfl
theorem pqs_nil : PQs c ρ .nil [] := ⟨[], rfl, rfl⟩
theorem pqs_cons {es : CEs} (h : PQ c ρ e d) (hs : PQs c ρ es ds) : PQs c ρ (.cons e es) (d :: ds) := by
  obtain ⟨p, ep, lp⟩ := h
  obtain ⟨ps, eps, lps⟩ := hs
  refine ⟨p :: ps, ?_, ?_⟩
  · show ((pq e (evE c e) ρ).bind fun x ρ1 => (evQs c es ρ1).bind fun xs ρ2 => .ok (x :: xs) ρ2) = _
    rw [ep, Res.bind_ok, eps]; rfl
  · show ((look ρ p).bind fun d => (looks ρ ps).map (d :: ·)) = _
    rw [lp, lps]; rfl
theorem pe_blt {f : Bt} {es : CEs} (hs : PQs c ρ es ds) (h : btD f ds = some d) : PE c ρ (.blt f es) d := by
  obtain ⟨ps, eps, lps⟩ := hs
  show ((evQs c es ρ).bind fun ps ρ1 => .opt ((looks ρ1 ps).bind (btD f)) ρ1) = _
  rw [eps, Res.bind_ok, lps]
  show Res.opt (btD f ds) ρ = _
  rw [h]; rfl
theorem pas_nil : PAs c ρ [] .nil [] := ⟨[], rfl, rfl, rfl⟩
theorem pas_gen {ms : List Bool} {es : CEs} (hn : noVar e = true) (h : PE c ρ e d) (hs : PAs c ρ ms es ds) : PAs c ρ (false :: ms) (.cons e es) (d :: ds) := by
  obtain ⟨ps, eps, lps, nps⟩ := hs
  have : pq e (evE c e) ρ = (evE c e ρ).bind fun d ρ1 => .ok (.val d) ρ1 := by cases e <;> first | rfl | cases hn
  refine ⟨.val d :: ps, ?_, ?_, nps⟩
  · show ((pq e (evE c e) ρ).bind fun x ρ1 => (evQs c es ρ1).bind fun xs ρ2 => .ok (x :: xs) ρ2) = _
    rw [this, h, Res.bind_ok, Res.bind_ok, eps]; rfl
  · show ((lend ms ps ρ).bind fun as ρ1 => .ok (.val d :: as) ρ1) = _
    rw [lps]; rfl
theorem pas_var {k : Nat} {ms : List Bool} {es : CEs} (h : ρ[k]? = some (some (.dat d))) (hs : PAs c ρ ms es ds) : PAs c ρ (false :: ms) (.cons (.var k) es) (d :: ds) := by
  obtain ⟨ps, eps, lps, nps⟩ := hs
  have h1 : pk ρ k = some d := by unfold pk; rw [h]
  have h2 : rd ρ k = .ok d ρ := by unfold rd; rw [h]
  refine ⟨.slot k :: ps, ?_, ?_, nps⟩
  · show ((match pk ρ k with | some _ => Res.ok (PArg.slot k) ρ | none => .stuck).bind fun x ρ1 => (evQs c es ρ1).bind fun xs ρ2 => .ok (x :: xs) ρ2) = _
    rw [h1, Res.bind_ok, eps]; rfl
  · show ((rd ρ k).bind fun d ρ0 => (lend ms ps ρ0).bind fun as ρ1 => .ok (.val d :: as) ρ1) = _
    rw [h2, Res.bind_ok, lps]; rfl
theorem callP_pure {f : Nat} {ms : List Bool} {ps : List PArg} {fr : Bool} (lps : lend ms ps ρ = .ok (ds.map .val) ρ) (nps : lent ms ps = []) (h : c f (ds.map .val) = .ok d fr []) : callP c f ms ps ρ = .ok (d, fr) ρ := by
  unfold callP
  rw [nps, if_neg (by decide), lps, Res.bind_ok, h]; rfl
theorem pe_call {tab : Nat → FnDef} {n f : Nat} {ms : List Bool} {es : CEs} {fr : Bool} (hs : PAs (callF tab n) ρ ms es ds) (hn : f < n) (h : run tab f (ds.map .val) = .ok d fr []) : PE (callF tab n) ρ (.call f ms es) d := by
  obtain ⟨ps, eps, lps, nps⟩ := hs
  show ((evQs (callF tab n) es ρ).bind fun ps ρ1 => (callP (callF tab n) f ms ps ρ1).bind fun r ρ2 => .ok r.1 ρ2) = _
  rw [eps, Res.bind_ok, callP_pure lps nps (by rw [callF_run hn]; exact h)]; rfl
/-- a call, its value and whether it is fresh -/
theorem pr_call {tab : Nat → FnDef} {n f : Nat} {ms : List Bool} {es : CEs} {fr : Bool} {Q : D × Bool → Rho → Prop} (hs : PAs (callF tab n) ρ ms es ds) (hn : f < n) (h : run tab f (ds.map .val) = .ok d fr []) (q : Q (d, fr) ρ) : (evR (callF tab n) (.call f ms es) ρ).wp Q := by
  obtain ⟨ps, eps, lps, nps⟩ := hs
  show ((evQs (callF tab n) es ρ).bind fun ps ρ1 => callP (callF tab n) f ms ps ρ1).wp Q
  rw [eps, Res.bind_ok, callP_pure lps nps (by rw [callF_run hn]; exact h)]; exact q
theorem pc_none : PC c ρ .none true := rfl
theorem pc_some {k : Bool} (h : PE c ρ e x) (ht : truB x = some k) : PC c ρ (.some e) k := by
  show (evE c e ρ).bind truR = _
  rw [h, Res.bind_ok]; unfold truR; rw [ht]; rfl
theorem pi_seq (h : PE c ρ e x) (hs : iterD x = some ds) : PI c ρ (.seq e) ds := by
  show ((evE c e ρ).bind fun x ρ1 => .opt (iterD x) ρ1) = _
  rw [h, Res.bind_ok, hs]; rfl
theorem pi_seqL {ea : α → D} {xs : List α} (h : PE c ρ e (lstE ea xs)) : PI c ρ (.seq e) (xs.map ea) := pi_seq h rfl
theorem pi_seqT {ea : α → D} {xs : List α} (h : PE c ρ e (tupE ea xs)) : PI c ρ (.seq e) (xs.map ea) := pi_seq h rfl
/-- the numbers 0 .. n - 1 -/
def rg (n : Int) : List Int := (List.range n.toNat).map fun (k : Nat) => (k : Int)
/-- the numbers a .. b - 1 -/
def rg2 (a b : Int) : List Int := (List.range (b - a).toNat).map fun (k : Nat) => a + (k : Int)
theorem rg_ints (n : Int) : rangeL 0 n.toNat = (rg n).map .int := by
  unfold rangeL rg
  rw [List.map_map]
  apply List.map_congr_left
  intro k _
  show PyData.int (0 + (k : Int)) = PyData.int k
  rw [Int.zero_add]
theorem rg2_ints (a b : Int) : rangeL a (b - a).toNat = (rg2 a b).map .int := by
  unfold rangeL rg2
  rw [List.map_map]; rfl
theorem pi_rg {n : Int} (h : PE c ρ e (.int n)) (h1 : -1000000 < n ∧ n < 1000000) : PI c ρ (.range (.cons e .nil)) ((rg n).map .int) := by
  show ((evEs c (.cons e .nil) ρ).bind fun xs ρ1 => .opt (rangeD xs) ρ1) = _
  have h' : evEs c (.cons e .nil) ρ = .ok [.int n] ρ := pes_cons h pes_nil
  rw [h', Res.bind_ok]
  show Res.opt (if -(2 ^ 60) ≤ n ∧ n ≤ SL then some (rangeL 0 n.toNat) else none) ρ = _
  rw [if_pos (by unfold SL; omega), rg_ints]; rfl
theorem pi_rg2 {m n : Int} (h : PE c ρ a (.int m)) (h' : PE c ρ b (.int n)) (h1 : -1000000 < m ∧ m < 1000000 ∧ -1000000 < n ∧ n < 1000000) : PI c ρ (.range (.cons a (.cons b .nil))) ((rg2 m n).map .int) := by
  show ((evEs c (.cons a (.cons b .nil)) ρ).bind fun xs ρ1 => .opt (rangeD xs) ρ1) = _
  have h' : evEs c (.cons a (.cons b .nil)) ρ = .ok [.int m, .int n] ρ := pes_cons h (pes_cons h' pes_nil)
  rw [h', Res.bind_ok]
  show Res.opt (if -(2 ^ 60) ≤ m ∧ m ≤ 2 ^ 60 ∧ -(2 ^ 60) ≤ n ∧ n ≤ 2 ^ 60 ∧ n - m ≤ SL then some (rangeL m (n - m).toNat) else none) ρ = _
  rw [if_pos (by unfold SL; omega), rg2_ints]; rfl
def rg3 (a b s : Int) : List Int := (List.range (rangeN a b s)).map fun (k : Nat) => a + (k : Int) * s
theorem mem_rg3 {a b s x : Int} (hs : 0 < s) : x ∈ rg3 a b s ↔ a ≤ x ∧ x < b ∧ (x - a) % s = 0 := by
  unfold rg3 rangeN
  rw [List.mem_map]
  constructor
  · rintro ⟨k, hk, rfl⟩
    rw [List.mem_range] at hk
    split at hk
    · rename_i hab
      have q0 : 0 ≤ (b - a - 1) / s := Int.ediv_nonneg (by omega) (by omega)
      have hk' : (k : Int) ≤ (b - a - 1) / s := by omega
      have h1 : (k : Int) * s ≤ (b - a - 1) / s * s := Int.mul_le_mul_of_nonneg_right hk' (by omega)
      have h2 : (b - a - 1) / s * s ≤ b - a - 1 := Int.ediv_mul_le _ (by omega)
      have h3 : 0 ≤ (k : Int) * s := Int.mul_nonneg (by omega) (by omega)
      refine ⟨by omega, by omega, ?_⟩
      rw [show a + (k : Int) * s - a = (k : Int) * s by omega]
      exact Int.mul_emod_left _ _
    · omega
  · rintro ⟨h1, h2, h3⟩
    obtain ⟨q, hq⟩ := Int.dvd_of_emod_eq_zero h3
    have hq0 : 0 ≤ q := by
      rcases Int.lt_or_le q 0 with h | h
      · have : s * q < 0 := Int.mul_neg_of_pos_of_neg hs h
        omega
      · exact h
    refine ⟨q.toNat, ?_, ?_⟩
    · rw [List.mem_range, if_pos (by omega)]
      have : q ≤ (b - a - 1) / s := by
        rw [Int.le_ediv_iff_mul_le hs, Int.mul_comm]; omega
      omega
    · have : ((q.toNat : Nat) : Int) = q := by omega
      rw [this, Int.mul_comm]; omega
theorem pi_rg3 {s : CE} {m n k : Int} (h : PE c ρ a (.int m)) (h' : PE c ρ b (.int n)) (h'' : PE c ρ s (.int k)) (h1 : -1000000 < m ∧ m < 1000000 ∧ -1000000 < n ∧ n < 1000000 ∧ 0 < k ∧ k < 1000000) : PI c ρ (.range (.cons a (.cons b (.cons s .nil)))) ((rg3 m n k).map .int) := by
  show ((evEs c (.cons a (.cons b (.cons s .nil))) ρ).bind fun xs ρ1 => .opt (rangeD xs) ρ1) = _
  have h' : evEs c (.cons a (.cons b (.cons s .nil))) ρ = .ok [.int m, .int n, .int k] ρ := pes_cons h (pes_cons h' (pes_cons h'' pes_nil))
  rw [h', Res.bind_ok]
  show Res.opt (if -(2 ^ 60) ≤ m ∧ m ≤ 2 ^ 60 ∧ -(2 ^ 60) ≤ n ∧ n ≤ 2 ^ 60 ∧ n - m ≤ SL ∧ 0 < k ∧ k < 1073741824 then some (rangeC m k (rangeN m n k)) else none) ρ = _
  rw [if_pos (by unfold SL; omega)]
  unfold rg3 rangeC
  rw [List.map_map]; rfl
theorem pe_tupR3 {s : CE} {m n k : Int} (h : PE c ρ a (.int m)) (h' : PE c ρ b (.int n)) (h'' : PE c ρ s (.int k)) (h1 : -1000000 < m ∧ m < 1000000 ∧ -1000000 < n ∧ n < 1000000 ∧ 0 < k ∧ k < 1000000) : PE c ρ (.tupR3 a b s) (tupE PyData.int (rg3 m n k)) := by
  show ((evE c a ρ).bind fun x ρ1 => (evE c b ρ1).bind fun y ρ2 => (evE c s ρ2).bind fun z ρ3 => .opt ((rangeD [x, y, z]).map PyData.tuple) ρ3) = _
  rw [h, Res.bind_ok, h', Res.bind_ok, h'', Res.bind_ok]
  have e : rangeD [.int m, .int n, .int k] = some (rangeC m k (rangeN m n k)) := if_pos (by unfold SL; omega)
  rw [e]
  unfold rg3 tupE
  rw [List.map_map]; rfl
theorem pe_tupR {n : Int} (h : PE c ρ a (.int n)) (h1 : -1000000 < n ∧ n < 1000000) : PE c ρ (.tupR a) (tupE PyData.int (rg n)) := by
  show ((evE c a ρ).bind fun x ρ1 => .opt (tupRD x) ρ1) = _
  rw [h, Res.bind_ok]
  show Res.opt (if -(2 ^ 60) ≤ n ∧ n ≤ SL then some (PyData.tuple (rangeL 0 n.toNat)) else none) ρ = _
  rw [if_pos (by unfold SL; omega), rg_ints]; rfl
/-- with their places -/
def enumL (k : Nat) : List α → List (Int × α)
  | [] => []
  | x :: xs => ((k : Int), x) :: enumL (k + 1) xs
theorem enumL_ints {ea : α → D} : ∀ (k : Nat) (xs : List α), enumFrom k (xs.map ea) = (enumL k xs).map (parE .int ea)
  | k, [] => rfl
  | k, x :: xs => by
    show _ :: enumFrom (k + 1) (xs.map ea) = _ :: (enumL (k + 1) xs).map _
    rw [enumL_ints (k + 1) xs]
theorem pi_enum {ea : α → D} {xs : List α} (h : PE c ρ e (lstE ea xs)) : PI c ρ (.enum e) ((enumL 0 xs).map (parE .int ea)) := by
  show ((evE c e ρ).bind fun x ρ1 => .opt (enumD x) ρ1) = _
  rw [h, Res.bind_ok]
  show Res.opt (some (enumFrom 0 (xs.map ea))) ρ = _
  rw [enumL_ints]; rfl
theorem zipL_E {ea : α → D} {eb : β → D} : ∀ (xs : List α) (ys : List β), zipL (xs.map ea) (ys.map eb) = (xs.zip ys).map (parE ea eb)
  | [], _ => by simp [zipL]
  | _ :: _, [] => by simp [zipL]
  | x :: xs, y :: ys => by
    show _ :: zipL (xs.map ea) (ys.map eb) = _
    rw [zipL_E xs ys]; rfl
theorem pi_zipT {ea : α → D} {eb : β → D} {xs : List α} {ys : List β} (h : PE c ρ a (tupE ea xs)) (h' : PE c ρ b (tupE eb ys)) : PI c ρ (.zip a b) ((xs.zip ys).map (parE ea eb)) := by
  show ((evE c a ρ).bind fun x ρ1 => (evE c b ρ1).bind fun y ρ2 => .opt (zipD x y) ρ2) = _
  rw [h, Res.bind_ok, h', Res.bind_ok]
  show Res.opt (some (zipL (xs.map ea) (ys.map eb))) ρ = _
  rw [zipL_E]; rfl
theorem pi_zipM {ea : α → D} {eb : β → D} {xs : List α} {ys : List β} (h : PE c ρ a (tupE ea xs)) (h' : PE c ρ b (lstE eb ys)) : PI c ρ (.zip a b) ((xs.zip ys).map (parE ea eb)) := by
  show ((evE c a ρ).bind fun x ρ1 => (evE c b ρ1).bind fun y ρ2 => .opt (zipD x y) ρ2) = _
  rw [h, Res.bind_ok, h', Res.bind_ok]
  show Res.opt (some (zipL (xs.map ea) (ys.map eb))) ρ = _
  rw [zipL_E]; rfl
theorem pi_zipL {ea : α → D} {eb : β → D} {xs : List α} {ys : List β} (h : PE c ρ a (lstE ea xs)) (h' : PE c ρ b (lstE eb ys)) : PI c ρ (.zip a b) ((xs.zip ys).map (parE ea eb)) := by
  show ((evE c a ρ).bind fun x ρ1 => (evE c b ρ1).bind fun y ρ2 => .opt (zipD x y) ρ2) = _
  rw [h, Res.bind_ok, h', Res.bind_ok]
  show Res.opt (some (zipL (xs.map ea) (ys.map eb))) ρ = _
  rw [zipL_E]; rfl
theorem comp_pure {vs : List Nat} {tg : Tg} {cond : Rho → Res Bool} {elt : Rho → Res D} {ρ0 : Rho} {ea : α → D} {eb : β → D} (p : α → Bool) (g : α → β) (env : α → Rho)
    (hw : ∀ x, wipeR (env x) vs = ρ0) : ∀ (xs : List α) (hs : ∀ x ∈ xs, setTg ρ0 tg (ea x) = some (env x)) (hc : ∀ x ∈ xs, cond (env x) = .ok (p x) (env x)) (he : ∀ x ∈ xs, p x = true → elt (env x) = .ok (eb (g x)) (env x)),
    compLoop vs tg cond elt (xs.map ea) ρ0 = .ok (((xs.filter p).map g).map eb) ρ0
  | [], _, _, _ => rfl
  | x :: xs, hs, hc, he => by
    have ih := comp_pure p g env hw xs (fun y hy => hs y (List.mem_cons_of_mem _ hy)) (fun y hy => hc y (List.mem_cons_of_mem _ hy)) (fun y hy => he y (List.mem_cons_of_mem _ hy))
    have h0 : x ∈ x :: xs := List.mem_cons_self
    rw [List.map_cons]
    unfold compLoop
    rw [hs x h0]
    dsimp only
    rw [hc x h0]
    cases hp : p x with
    | true =>
      dsimp only
      rw [he x h0 hp]
      dsimp only
      rw [hw, ih, List.filter_cons_of_pos hp]; rfl
    | false =>
      dsimp only
      rw [hw, ih, List.filter_cons_of_neg (by rw [hp]; exact Bool.false_ne_true)]
theorem set_none_back {k : Nat} {v : Option Ent} : wipeR (ρ.set k v) [k] = ρ.set k none := by
  show (ρ.set k v).set k none = _
  rw [List.set_set]
theorem rest_back {k : Nat} : restR (ρ.set k none) ρ [k] = ρ := by
  show (ρ.set k none).set k ((ρ[k]?).getD none) = ρ
  rw [List.set_set]
  apply List.ext_getElem?
  intro m
  by_cases h : k = m
  · subst h
    by_cases hl : k < ρ.length
    · rw [List.getElem?_set_self hl, List.getElem?_eq_getElem hl]; rfl
    · rw [List.getElem?_eq_none (by simpa using hl), List.getElem?_eq_none (by simpa using hl)]
  · rw [List.getElem?_set_ne h]
theorem rest_back2 {k l : Nat} : restR ((ρ.set l none).set k none) ρ [k, l] = ρ := by
  show ((((ρ.set l none).set k none).set l ((ρ[l]?).getD none)).set k ((ρ[k]?).getD none)) = ρ
  apply List.ext_getElem?
  intro m
  simp only [List.getElem?_set, List.length_set]
  by_cases h : k = m
  · subst h
    by_cases hl : k < ρ.length
    · simp [hl]
    · simp [hl]
  · by_cases h' : l = m
    · subst h'
      by_cases hl : l < ρ.length
      · simp [hl, h]
      · simp [hl, h]
    · simp [h, h']
theorem put_new {k : Nat} {d : D} (hl : k < ρ.length) : setTg (ρ.set k none) (.name k) d = some (ρ.set k (some (.dat d))) := by
  show (if k < (ρ.set k none).length ∧ isPar (ρ.set k none)[k]? = false then some ((ρ.set k none).set k (some (.dat d))) else none) = _
  rw [if_pos ⟨by simpa using hl, by rw [List.getElem?_set_self hl]; rfl⟩, List.set_set]
theorem pe_comp {nm : Str} {k : Nat} {elt : CE} {it : CI} {cond : CO} {ea : α → D} {eb : β → D} {xs : List α} {p : α → Bool} {g : α → β} (hit : PI c ρ it (xs.map ea)) (hl : k < ρ.length) (hm : noMut ρ [k] = true)
    (hc : ∀ x ∈ xs, PC c (ρ.set k (some (.dat (ea x)))) cond (p x)) (he : ∀ x ∈ xs, p x = true → PE c (ρ.set k (some (.dat (ea x)))) elt (eb (g x))) :
    PE c ρ (.comp [(nm, k)] elt (.name k) it cond) (lstE eb ((xs.filter p).map g)) := by
  show ((evI c it ρ).bind fun ds ρ1 => if noMut ρ1 [k] = true then (compLoop [k] (.name k) (fun r => evC c cond r) (fun r => evE c elt r) ds (wipeR ρ1 [k])).bind fun xs ρ2 => .ok (PyData.list xs) (restR ρ2 ρ1 [k]) else .stuck) = _
  rw [hit, Res.bind_ok, if_pos hm]
  show ((compLoop [k] (.name k) (fun r => evC c cond r) (fun r => evE c elt r) (xs.map ea) (ρ.set k none)).bind fun xs ρ2 => .ok (PyData.list xs) (restR ρ2 ρ [k])) = _
  rw [comp_pure p g (fun x => ρ.set k (some (.dat (ea x)))) (fun x => set_none_back) xs (fun x _ => put_new hl) hc he, Res.bind_ok, rest_back]
/-- a comprehension without a test -/
theorem pe_compM {nm : Str} {k : Nat} {elt : CE} {it : CI} {ea : α → D} {eb : β → D} {xs : List α} {g : α → β} (hit : PI c ρ it (xs.map ea)) (hl : k < ρ.length) (hm : noMut ρ [k] = true)
    (he : ∀ x ∈ xs, PE c (ρ.set k (some (.dat (ea x)))) elt (eb (g x))) :
    PE c ρ (.comp [(nm, k)] elt (.name k) it .none) (lstE eb (xs.map g)) := by
  have := pe_comp (nm := nm) (p := fun _ => true) hit hl hm (fun _ _ => pc_none) (fun x hx _ => he x hx)
  rwa [List.filter_eq_self.mpr (fun _ _ => rfl)] at this
/-- a comprehension that only picks -/
theorem pe_compF {nm : Str} {k : Nat} {it : CI} {cond : CO} {ea : α → D} {xs : List α} {p : α → Bool} (hit : PI c ρ it (xs.map ea)) (hl : k < ρ.length) (hm : noMut ρ [k] = true)
    (hc : ∀ x ∈ xs, PC c (ρ.set k (some (.dat (ea x)))) cond (p x)) :
    PE c ρ (.comp [(nm, k)] (.var k) (.name k) it cond) (lstE ea (xs.filter p)) := by
  have := pe_comp (nm := nm) (elt := .var k) (g := fun x => x) (eb := ea) hit hl hm hc (fun x _ _ => pe_var (List.getElem?_set_self hl))
  rwa [List.map_id'] at this
theorem put_new2 {k l : Nat} {d1 d2 : D} (hkl : k ≠ l) (hk : k < ρ.length) (hl : l < ρ.length) : setTg ((ρ.set l none).set k none) (.tup [k, l]) (.tuple [d1, d2]) = some ((ρ.set k (some (.dat d1))).set l (some (.dat d2))) := by
  show ((put ((ρ.set l none).set k none) k d1).bind fun ρ' => (put ρ' l d2).bind fun ρ'' => some ρ'') = _
  unfold put
  rw [if_pos ⟨by simpa using hk, by rw [List.getElem?_set_self (by simpa using hk)]; rfl⟩, List.set_set]
  show ((if l < ((ρ.set l none).set k (some (.dat d1))).length ∧ isPar ((ρ.set l none).set k (some (.dat d1)))[l]? = false then some (((ρ.set l none).set k (some (.dat d1))).set l (some (.dat d2))) else none).bind fun ρ'' => some ρ'') = _
  rw [if_pos ⟨by simpa using hl, by rw [List.getElem?_set_ne hkl, List.getElem?_set_self hl]; rfl⟩]
  show some _ = some _
  rw [List.set_comm _ _ (Ne.symm hkl), List.set_set]
theorem wipe2 {k l : Nat} {v w : Option Ent} (hkl : k ≠ l) : wipeR ((ρ.set k v).set l w) [k, l] = (ρ.set l none).set k none := by
  show (((ρ.set k v).set l w).set l none).set k none = _
  rw [List.set_set, List.set_comm _ _ hkl, List.set_set]
theorem pe_comp2 {nm nm' : Str} {k l : Nat} {elt : CE} {it : CI} {cond : CO} {e1 : α → D} {e2 : β → D} {eb : γ → D} {xs : List (α × β)} {p : α × β → Bool} {g : α × β → γ} (hit : PI c ρ it (xs.map (parE e1 e2))) (hkl : k ≠ l) (hk : k < ρ.length) (hl : l < ρ.length) (hm : noMut ρ [k, l] = true)
    (hc : ∀ x ∈ xs, PC c ((ρ.set k (some (.dat (e1 x.1)))).set l (some (.dat (e2 x.2)))) cond (p x)) (he : ∀ x ∈ xs, p x = true → PE c ((ρ.set k (some (.dat (e1 x.1)))).set l (some (.dat (e2 x.2)))) elt (eb (g x))) :
    PE c ρ (.comp [(nm, k), (nm', l)] elt (.tup [k, l]) it cond) (lstE eb ((xs.filter p).map g)) := by
  show ((evI c it ρ).bind fun ds ρ1 => if noMut ρ1 [k, l] = true then (compLoop [k, l] (.tup [k, l]) (fun r => evC c cond r) (fun r => evE c elt r) ds (wipeR ρ1 [k, l])).bind fun xs ρ2 => .ok (PyData.list xs) (restR ρ2 ρ1 [k, l]) else .stuck) = _
  rw [hit, Res.bind_ok, if_pos hm]
  show ((compLoop [k, l] (.tup [k, l]) (fun r => evC c cond r) (fun r => evE c elt r) (xs.map (parE e1 e2)) ((ρ.set l none).set k none)).bind fun xs ρ2 => .ok (PyData.list xs) (restR ρ2 ρ [k, l])) = _
  rw [comp_pure p g (fun x => (ρ.set k (some (.dat (e1 x.1)))).set l (some (.dat (e2 x.2)))) (fun x => wipe2 hkl) xs (fun x _ => put_new2 hkl hk hl) hc he, Res.bind_ok, rest_back2]
theorem pe_compM2 {nm nm' : Str} {k l : Nat} {elt : CE} {it : CI} {e1 : α → D} {e2 : β → D} {eb : γ → D} {xs : List (α × β)} {g : α × β → γ} (hit : PI c ρ it (xs.map (parE e1 e2))) (hkl : k ≠ l) (hk : k < ρ.length) (hl : l < ρ.length) (hm : noMut ρ [k, l] = true)
    (he : ∀ x ∈ xs, PE c ((ρ.set k (some (.dat (e1 x.1)))).set l (some (.dat (e2 x.2)))) elt (eb (g x))) :
    PE c ρ (.comp [(nm, k), (nm', l)] elt (.tup [k, l]) it .none) (lstE eb (xs.map g)) := by
  have := pe_comp2 (nm := nm) (nm' := nm') (p := fun _ => true) hit hkl hk hl hm (fun _ _ => pc_none) (fun x hx _ => he x hx)
  rwa [List.filter_eq_self.mpr (fun _ _ => rfl)] at this
section
variable {u v : Int} {e : α → D} {k : Nat} {xs ys : List α} {is js : List Int}
theorem v_add : binD .add (.int u) (.int v) = some (.int (u + v)) := rfl
theorem v_sub : binD .sub (.int u) (.int v) = some (.int (u - v)) := rfl
theorem v_mul (h : (-18446744073709551616 < u ∧ u < 18446744073709551616) ∨ (-18446744073709551616 < v ∧ v < 18446744073709551616)) : binD .mul (.int u) (.int v) = some (.int (u * v)) := by
  obtain ⟨d, hd, q⟩ := b_mul (P := fun d => d = .int (u * v)) h rfl
  rw [hd, q]
theorem v_mod (h : 0 < v) : binD .mod (.int u) (.int v) = some (.int (u % v)) := if_pos h
theorem v_fdiv (h : 0 < v ∧ v < 1073741824) : binD .fdiv (.int u) (.int v) = some (.int (u / v)) := if_pos h
theorem v_pow (h : 0 ≤ v ∧ v ≤ 1000 ∧ u.natAbs < 2 ^ 64) : binD .pow (.int u) (.int v) = some (.int (u ^ v.toNat)) := if_pos h
theorem v_catL (h : xs.length + ys.length ≤ 16777216) : binD .add (lstE e xs) (lstE e ys) = some (lstE e (xs ++ ys)) := by
  show (if (xs.map e).length + (ys.map e).length ≤ SL then some (PyData.list (xs.map e ++ ys.map e)) else none) = _
  rw [if_pos (by simpa using h), lstE, List.map_append]
theorem v_catT (h : xs.length + ys.length ≤ 16777216) : binD .add (tupE e xs) (tupE e ys) = some (tupE e (xs ++ ys)) := by
  show (if (xs.map e).length + (ys.map e).length ≤ SL then some (PyData.tuple (xs.map e ++ ys.map e)) else none) = _
  rw [if_pos (by simpa using h), tupE, List.map_append]
theorem repD_one (d : D) : ∀ n, repD [d] n = List.replicate n d
  | 0 => rfl
  | n + 1 => by
    have := repD_one d n
    unfold repD at this ⊢
    rw [List.replicate_succ, List.flatten_cons, this, List.replicate_succ]; rfl
theorem v_rep {w : α} (h : 0 ≤ v ∧ v ≤ 1000000) : binD .mul (lstE e [w]) (.int v) = some (lstE e (List.replicate v.toNat w)) := by
  show (if [e w].length * v.toNat ≤ SL ∧ -(2 ^ 60) < v ∧ v < 2 ^ 60 then some (PyData.list (repD [e w] v.toNat)) else none) = _
  rw [if_pos (by simp only [List.length_singleton, SL]; omega), repD_one, lstE, List.map_replicate]
theorem v_eqE [Enc e k] [DecidableEq α] {p q : α} (hk : k ≤ 64 := by decide) : cmpD .eq (e p) (e q) = some (decide (p = q)) := by
  show (if (shp (e p) && shp (e q)) = true then some (PyData.eqv (e p) (e q)) else none) = _
  rw [shpE hk, shpE hk, eqvE]; rfl
theorem v_neE [Enc e k] [DecidableEq α] {p q : α} (hk : k ≤ 64 := by decide) : cmpD .ne (e p) (e q) = some (!decide (p = q)) := by
  show (if (shp (e p) && shp (e q)) = true then some (!PyData.eqv (e p) (e q)) else none) = _
  rw [shpE hk, shpE hk, eqvE]; rfl
theorem any_E [Enc e k] [DecidableEq α] (w : α) : ∀ xs : List α, ((xs.map e).any fun z => PyData.eqv z (e w)) = decide (w ∈ xs)
  | [] => by simp
  | x :: xs => by
    rw [List.map_cons, List.any_cons, any_E w xs, eqvE, Bool.eq_iff_iff, Bool.or_eq_true, decide_eq_true_eq, decide_eq_true_eq, decide_eq_true_eq, List.mem_cons]
    exact or_congr_left eq_comm
theorem v_inT [Enc e k] [DecidableEq α] {w : α} (hk : k ≤ 63 := by decide) : cmpD .isin (e w) (tupE e xs) = some (decide (w ∈ xs)) := by
  show (if (shp (e w) && shp (tupE e xs)) = true then some ((xs.map e).any fun z => PyData.eqv z (e w)) else none) = _
  rw [shpE (by omega), shpE (e := tupE e) (by omega), any_E]; rfl
theorem v_inL [Enc e k] [DecidableEq α] {w : α} (hk : k ≤ 63 := by decide) : cmpD .isin (e w) (lstE e xs) = some (decide (w ∈ xs)) := by
  show (if (shp (e w) && shp (lstE e xs)) = true then some ((xs.map e).any fun z => PyData.eqv z (e w)) else none) = _
  rw [shpE (by omega), shpE (e := lstE e) (by omega), any_E]; rfl
theorem v_niT [Enc e k] [DecidableEq α] {w : α} (hk : k ≤ 63 := by decide) : cmpD .notin (e w) (tupE e xs) = some (!decide (w ∈ xs)) := by
  show (inD (e w) (tupE e xs)).map _ = _
  rw [show inD (e w) (tupE e xs) = some (decide (w ∈ xs)) from v_inT hk]; rfl
theorem v_niL [Enc e k] [DecidableEq α] {w : α} (hk : k ≤ 63 := by decide) : cmpD .notin (e w) (lstE e xs) = some (!decide (w ∈ xs)) := by
  show (inD (e w) (lstE e xs)).map _ = _
  rw [show inD (e w) (lstE e xs) = some (decide (w ∈ xs)) from v_inL hk]; rfl
theorem v_lt : cmpD .lt (.int u) (.int v) = some (decide (u < v)) := rfl
theorem v_le : cmpD .le (.int u) (.int v) = some (decide (u ≤ v)) := rfl
theorem v_gt : cmpD .gt (.int u) (.int v) = some (decide (v < u)) := rfl
theorem v_ge : cmpD .ge (.int u) (.int v) = some (decide (v ≤ u)) := rfl
theorem v_isN {d : D} : cmpD .isis d .none = some (isNone d) := by cases d <;> rfl
theorem v_inN {d : D} : cmpD .isnot d .none = some (!isNone d) := by cases d <;> rfl
theorem t_B {b : Bool} : truB (.bool b) = some b := rfl
theorem t_L : truB (lstE e xs) = some (!xs.isEmpty) := by cases xs <;> rfl
theorem t_T : truB (tupE e xs) = some (!xs.isEmpty) := by cases xs <;> rfl
theorem v_lenL : btD .len [lstE e xs] = some (.int xs.length) := by
  show some (PyData.int (xs.map e).length) = _
  rw [List.length_map]
theorem v_lenT : btD .len [tupE e xs] = some (.int xs.length) := by
  show some (PyData.int (xs.map e).length) = _
  rw [List.length_map]
theorem v_tupL : btD .tuple [lstE e xs] = some (tupE e xs) := rfl
theorem v_tupT : btD .tuple [tupE e xs] = some (tupE e xs) := rfl
theorem v_lstL : btD .list [lstE e xs] = some (lstE e xs) := rfl
theorem v_lstT : btD .list [tupE e xs] = some (lstE e xs) := rfl
theorem intsOf_E : ∀ is : List Int, intsOf (is.map .int) = some is
  | [] => rfl
  | i :: is => by
    show (intsOf (is.map PyData.int)).map (i :: ·) = _
    rw [intsOf_E is]; rfl
theorem boolsOf_E : ∀ is : List Bool, boolsOf (is.map .bool) = some is
  | [] => rfl
  | i :: is => by
    show (boolsOf (is.map PyData.bool)).map (i :: ·) = _
    rw [boolsOf_E is]; rfl
theorem alike_len : ∀ {is js : List Int}, is.length = js.length → PySem.W.alikeAll (is.map PyData.int) (js.map PyData.int) = true
  | [], [], _ => by simp [PySem.W.alikeAll]
  | [], _ :: _, h => by simp at h
  | _ :: _, [], h => by simp at h
  | i :: is, j :: js, h => by
    simp only [List.map_cons, PySem.W.alikeAll, Bool.and_eq_true]
    exact ⟨by simp [PySem.W.alike], alike_len (by simpa using h)⟩
theorem v_ltT {is js : List Int} (h : is.length = js.length) : cmpD .lt (tupE .int is) (tupE .int js) = some (decide (is < js)) := by
  show ltT (is.map PyData.int) (js.map PyData.int) = _
  unfold ltT
  rw [intsOf_E, intsOf_E]
  have ha : PySem.W.alike (.tuple (is.map PyData.int)) (.tuple (js.map PyData.int)) = true := by
    rw [PySem.W.alike]; exact alike_len h
  show (if PySem.W.alike (.tuple (is.map PyData.int)) (.tuple (js.map PyData.int)) = true then some (decide (is < js)) else none) = _
  rw [if_pos ha]
theorem v_sortedTu : btD .sorted [tupE .int is] = some (lstE .int (sortI is)) := by
  show (intsOf (is.map PyData.int)).map _ = _
  rw [intsOf_E]; rfl
theorem v_sorted : btD .sorted [lstE .int is] = some (lstE .int (sortI is)) := by
  show (match intsOf (is.map PyData.int) with | some is => some (PyData.list ((sortI is).map PyData.int)) | none => sortDt (is.map PyData.int)) = _
  rw [intsOf_E]
/-- alike tuples in their order -/
def sortE {α : Type} (e : α → D) (xs : List α) : List α := xs.mergeSort (PySem.W.dataLe false e)
theorem v_sortedT {α : Type} {e : α → D} {xs : List α} (hf : ∀ x ∈ xs, fullT (e x) = true) (ha : ∀ x ∈ xs, ∀ y ∈ xs, PySem.W.alike (e x) (e y) = true) (hd : ∀ x ∈ xs, (e x).depth ≤ 60) : btD .sorted [lstE e xs] = some (lstE e (sortE e xs)) := by
  cases xs with
  | nil => simp [btD, lstE, intsOf, sortI, sortE]
  | cons x xs =>
    show (match intsOf ((x :: xs).map e) with | some is => some (PyData.list ((sortI is).map PyData.int)) | none => sortDt ((x :: xs).map e)) = _
    have hn : intsOf ((x :: xs).map e) = none := by
      have := hf x List.mem_cons_self
      rw [List.map_cons]
      cases hx : e x with
      | tuple l => rfl
      | _ => rw [hx] at this; cases this
    rw [hn]
    show sortDt ((x :: xs).map e) = _
    unfold sortDt
    have hb : (alikeB ((x :: xs).map e) && (((x :: xs).map e).all fullT || headE ((x :: xs).map e))) = true := by
      refine Bool.and_eq_true_iff.mpr ⟨?_, Bool.or_eq_true_iff.mpr (.inl ?_)⟩
      all_goals (try unfold alikeB)
      all_goals simp only [Bool.and_eq_true, List.all_eq_true, List.mem_map]
      refine ⟨?_, ?_⟩
      · rintro _ ⟨y, hy, rfl⟩ _ ⟨z, hz, rfl⟩; exact ha y hy z hz
      · rintro _ ⟨y, hy, rfl⟩
        refine ⟨?_, decide_eq_true (hd y hy)⟩
        have := hf y hy
        cases hx : e y with
        | tuple l => rfl
        | _ => rw [hx] at this; cases this
      · rintro _ ⟨y, hy, rfl⟩; exact hf y hy
    rw [if_pos hb]
    unfold sortE lstE
    rw [List.map_mergeSort (r := PySem.W.dataLe false e) (s := PySem.W.dataLe false id) (f := e) (fun a _ b _ => rfl)]
/-- () first -/
theorem v_sorted0 {xs : List (List Int)} (h : ∀ x ∈ [] :: xs, ∀ y ∈ [] :: xs, PySem.W.alike (tupE PyData.int x) (tupE PyData.int y) = true) : btD .sorted [lstE (tupE .int) ([] :: xs)] = some (lstE (tupE .int) (sortE (tupE .int) ([] :: xs))) := by
  show (match intsOf (([] :: xs).map (tupE PyData.int)) with | some is => some (PyData.list ((sortI is).map PyData.int)) | none => sortDt (([] :: xs).map (tupE PyData.int))) = _
  rw [show intsOf (([] :: xs).map (tupE PyData.int)) = none from rfl]
  show sortDt (([] :: xs).map (tupE PyData.int)) = _
  unfold sortDt
  have hb : (alikeB (([] :: xs).map (tupE PyData.int)) && ((([] :: xs).map (tupE PyData.int)).all fullT || headE (([] :: xs).map (tupE PyData.int)))) = true := by
    refine Bool.and_eq_true_iff.mpr ⟨?_, Bool.or_eq_true_iff.mpr (.inr rfl)⟩
    unfold alikeB
    simp only [Bool.and_eq_true, List.all_eq_true, List.mem_map]
    refine ⟨?_, ?_⟩
    · rintro _ ⟨y, hy, rfl⟩ _ ⟨z, hz, rfl⟩; exact h y hy z hz
    · rintro _ ⟨y, hy, rfl⟩
      exact ⟨rfl, decide_eq_true (Nat.le_trans (Enc.dep (e := tupE PyData.int) y) (by decide))⟩
  rw [if_pos hb]
  unfold sortE lstE
  rw [List.map_mergeSort (r := PySem.W.dataLe false (tupE PyData.int)) (s := PySem.W.dataLe false id) (f := tupE PyData.int) (fun a _ b _ => rfl)]
theorem v_sortedQ {xs : List (Int × Int × Int)} : btD .sorted [lstE (triE .int .int .int) xs] = some (lstE (triE .int .int .int) (sortE (triE .int .int .int) xs)) :=
  v_sortedT (fun _ _ => rfl) (fun x _ y _ => by simp [triE, PySem.W.alike, PySem.W.alikeAll]) (fun x _ => by simp [triE, PyData.depth, PyData.depthAll])
theorem v_sortedP {xs : List (Int × Int)} : btD .sorted [lstE (parE .int .int) xs] = some (lstE (parE .int .int) (sortE (parE .int .int) xs)) :=
  v_sortedT (fun _ _ => rfl) (fun x _ y _ => by simp [parE, PySem.W.alike, PySem.W.alikeAll]) (fun x _ => by simp [parE, PyData.depth, PyData.depthAll])
theorem v_count {k : Int} : countD (tupE .int is) (.int k) = some (.int ((is.count k : Nat) : Int)) := by
  show (intsOf (is.map PyData.int)).map _ = _
  rw [intsOf_E]; rfl
theorem v_sum : btD .sum [lstE .int is] = some (.int is.sum) := by
  show (intsOf (is.map PyData.int)).bind _ = _
  rw [intsOf_E]; rfl
theorem v_sumT : btD .sum [tupE .int is] = some (.int is.sum) := by
  show (intsOf (is.map PyData.int)).bind _ = _
  rw [intsOf_E]; rfl
theorem v_all {bs : List Bool} : btD .all [lstE .bool bs] = some (.bool (bs.all id)) := by
  show (boolsOf (bs.map PyData.bool)).map _ = _
  rw [boolsOf_E]; rfl
def minL (is : List Int) : Int := (minI is).getD 0
def maxL (is : List Int) : Int := (maxI is).getD 0
theorem v_minL (h : 0 < is.length) : btD .min [lstE .int is] = some (.int (minL is)) := by
  show (match intsOf (is.map PyData.int) with | some is => (minI is).map PyData.int | none => minDt (is.map PyData.int)) = _
  rw [intsOf_E]
  show (minI is).map PyData.int = _
  cases is with
  | nil => simp at h
  | cons x r => rfl
theorem v_maxL (h : 0 < is.length) : btD .max [lstE .int is] = some (.int (maxL is)) := by
  show (intsOf (is.map PyData.int)).bind _ = _
  rw [intsOf_E]
  show (maxI is).map PyData.int = _
  cases is with
  | nil => simp at h
  | cons x r => rfl
theorem v_min2 : btD .min [.int u, .int v] = some (.int (min u v)) := by
  show some (PyData.int (if v < u then v else u)) = _
  congr 2
  split <;> omega
theorem v_max2 : btD .max [.int u, .int v] = some (.int (max u v)) := by
  show some (PyData.int (if v > u then v else u)) = _
  congr 2
  split <;> omega
theorem v_intI : btD .int [.int u] = some (.int u) := rfl
theorem v_intB {b : Bool} : btD .int [.bool b] = some (.int (if b then 1 else 0)) := rfl
theorem v_divmod (h : 0 < v ∧ v < 1073741824) : btD .divmod [.int u, .int v] = some (parE .int .int (u / v, u % v)) := if_pos h
theorem v_sset (h1 : is.length < 4000) (h2 : (sortU is).length < 64) : ssetD (lstE .int is) = some (lstE .int (sortU is)) := by
  show (intsOf (is.map PyData.int)).bind _ = _
  rw [intsOf_E]
  exact if_pos ⟨h1, h2⟩
theorem v_ssetT (h1 : is.length < 4000) (h2 : (sortU is).length < 64) : ssetD (tupE .int is) = some (lstE .int (sortU is)) := by
  show (intsOf (is.map PyData.int)).bind _ = _
  rw [intsOf_E]
  exact if_pos ⟨h1, h2⟩
theorem v_lset (h1 : is.length < 4000) : lsetD (lstE .int is) = some (.int (sortU is).length) := by
  show (intsOf (is.map PyData.int)).bind _ = _
  rw [intsOf_E]
  exact if_pos h1
theorem atI_E [Inhabited α] (h : 0 ≤ u ∧ u < xs.length) : L2.atI (xs.map e) u = some (e (xs.getD u.toNat default)) := by
  unfold L2.atI L2.ixN
  rw [if_pos h.1, if_pos (by simpa using h.2)]
  show (xs.map e)[u.toNat]? = _
  have hl : u.toNat < xs.length := by omega
  rw [List.getElem?_map, List.getElem?_eq_getElem hl, List.getD_eq_getElem?_getD, List.getElem?_eq_getElem hl]; rfl
theorem v_idxL [Inhabited α] (h : 0 ≤ u ∧ u < xs.length) : idxD (lstE e xs) (.int u) = some (e (xs.getD u.toNat default)) := atI_E h
theorem v_idxT [Inhabited α] (h : 0 ≤ u ∧ u < xs.length) : idxD (tupE e xs) (.int u) = some (e (xs.getD u.toNat default)) := atI_E h
theorem atI_neg [Inhabited α] (h : u < 0 ∧ -(xs.length : Int) ≤ u) : L2.atI (xs.map e) u = some (e (xs.getD (u + xs.length).toNat default)) := by
  unfold L2.atI L2.ixN
  rw [if_neg (by omega), if_pos (by simp only [List.length_map]; omega)]
  show (xs.map e)[_]? = _
  have hl : (u + xs.length).toNat < xs.length := by omega
  rw [List.getElem?_map, List.length_map]
  rw [List.getElem?_eq_getElem hl, List.getD_eq_getElem?_getD, List.getElem?_eq_getElem hl]; rfl
theorem v_idxLn [Inhabited α] (h : u < 0 ∧ -(xs.length : Int) ≤ u) : idxD (lstE e xs) (.int u) = some (e (xs.getD (u + xs.length).toNat default)) := atI_neg h
theorem v_idxTn [Inhabited α] (h : u < 0 ∧ -(xs.length : Int) ≤ u) : idxD (tupE e xs) (.int u) = some (e (xs.getD (u + xs.length).toNat default)) := atI_neg h
theorem cut_map {lo hi : Option Int} : cut (xs.map e) lo hi = (cut xs lo hi).map e := by
  unfold cut
  rw [List.length_map, List.map_take, List.map_drop]
theorem v_slcL {lo hi : Option Int} : slcD (lstE e xs) lo hi = some (lstE e (cut xs lo hi)) := by
  show some (PyData.list (cut (xs.map e) lo hi)) = _
  rw [cut_map]
theorem v_slcT {lo hi : Option Int} : slcD (tupE e xs) lo hi = some (tupE e (cut xs lo hi)) := by
  show some (PyData.tuple (cut (xs.map e) lo hi)) = _
  rw [cut_map]
theorem v_revL : revD (lstE e xs) = some (lstE e xs.reverse) := by
  show some (PyData.list (xs.map e).reverse) = _
  rw [lstE, List.map_reverse]
/-- the first place -/
def ixOf [DecidableEq α] (w : α) (xs : List α) : Nat := xs.findIdx fun z => decide (z = w)
theorem v_index [Enc e k] [DecidableEq α] {w : α} (h : w ∈ xs) (hk : k ≤ 63 := by decide) : indexD (lstE e xs) (e w) = some (.int (ixOf w xs)) := by
  show (if (shp (e w) && shp (lstE e xs)) = true then ((xs.map e).findIdx? fun z => PyData.eqv z (e w)).map fun (j : Nat) => PyData.int (j : Int) else none) = _
  rw [shpE (by omega), shpE (e := lstE e) (by omega), if_pos (show (true && true) = true from rfl), List.findIdx?_map]
  have e1 : ((fun z => PyData.eqv z (e w)) ∘ e) = fun z => decide (z = w) := funext fun z => eqvE z w
  rw [e1]
  have h2 : xs.findIdx? (fun z => decide (z = w)) = some (ixOf w xs) := by
    rw [List.findIdx?_eq_some_iff_findIdx_eq]
    exact ⟨List.findIdx_lt_length_of_exists ⟨w, h, by simp⟩, rfl⟩
  rw [h2]; rfl
end
end TwR

set_option Elab.async false
set_option linter.all false
set_option maxRecDepth 100000
set_option maxHeartbeats 1000000
namespace TwR
open Tw PySem
variable {α β γ : Type}
variable {c : CallT} {ρ ρ' : Rho} {a b e t : CE} {x y z d : D} {ds : List D} {i j : Int}
variable {N : Rho → Prop} {R : D → Bool → Rho → Prop} {B : Rho → Prop} {r : CSs}
theorem eq_of_wp {q : CRes} {d : D} {fr : Bool} {o : List (List D)} (h : q.wp fun d' fr' o' => d' = d ∧ fr' = fr ∧ o' = o) : q = .ok d fr o := by
  cases q with
  | ok d' fr' o' => obtain ⟨h1, h2, h3⟩ := h; rw [h1, h2, h3]
  | _ => exact h.elim
theorem wp_eq {q : CRes} {d : D} {fr : Bool} {o : List (List D)} {P : D → Bool → List (List D) → Prop} (h : q = .ok d fr o) (hp : P d fr o) : q.wp P := by rw [h]; exact hp
theorem wp_pe {P : D → Rho → Prop} (h : PE c ρ e d) (q : P d ρ) : (evE c e ρ).wp P := by rw [h]; exact q
theorem wp_pi {it : CI} {P : List D → Rho → Prop} (h : PI c ρ it ds) (q : P ds ρ) : (evI c it ρ).wp P := by rw [h]; exact q
theorem pe_as {d' : D} (h : PE c ρ e d) (q : d = d') : PE c ρ e d' := q ▸ h
theorem put_j {k : Nat} (hl : k < ρ.length) (hp : isPar ρ[k]? = false) : setTg ρ (.name k) d = some (ρ.set k (some (.dat d))) := if_pos ⟨hl, hp⟩
theorem put_j2 {k l : Nat} {d1 d2 : D} (hkl : k ≠ l) (hk : k < ρ.length) (hl : l < ρ.length) (hp : isPar ρ[k]? = false) (hp' : isPar ρ[l]? = false) : setTg ρ (.tup [k, l]) (.tuple [d1, d2]) = some ((ρ.set k (some (.dat d1))).set l (some (.dat d2))) := by
  show ((put ρ k d1).bind fun ρ' => (put ρ' l d2).bind fun ρ'' => some ρ'') = _
  unfold put
  rw [if_pos ⟨hk, hp⟩]
  show ((if l < (ρ.set k (some (.dat d1))).length ∧ isPar (ρ.set k (some (.dat d1)))[l]? = false then some ((ρ.set k (some (.dat d1))).set l (some (.dat d2))) else none).bind fun ρ'' => some ρ'') = _
  rw [if_pos ⟨by simpa using hl, by rw [List.getElem?_set_ne hkl]; exact hp'⟩]; rfl
theorem sp_nil (h : N ρ) : (evSs c .nil ρ).wp N R B := h
theorem sp_asg {tg : Tg} (h : PE c ρ e d) (hs : setTg ρ tg d = some ρ') (q : (evSs c r ρ').wp N R B) : (evSs c (.cons (.asg tg e) r) ρ).wp N R B :=
  s_cons0 (st_asg (wp_pe h ⟨_, hs, q⟩))
theorem sp_boxes {is js : List Nat} (h : ((boxs ρ is).bind fun ρ1 => thaw ρ1 js) = some ρ') (q : (evSs c r ρ').wp N R B) : (evSs c (.cons (.boxes is js) r) ρ).wp N R B := by
  refine s_cons0 ?_
  show (nextO ((boxs ρ is).bind fun ρ1 => thaw ρ1 js)).wp _ R B
  rw [h]; exact q
theorem sp_expr (h : PE c ρ e d) (q : (evSs c r ρ).wp N R B) : (evSs c (.cons (.expr e) r) ρ).wp N R B := s_cons0 (st_expr (wp_pe h q))
theorem sp_box {k : Nat} {xs : List D} (h : PE c ρ e (.list xs)) (hg : genF e = true) (hn : isNew e = true) (hl : k < ρ.length) (hp : isPar ρ[k]? = false) (q : (evSs c r (ρ.set k (some (.own xs)))).wp N R B) : (evSs c (.cons (.box k e) r) ρ).wp N R B :=
  s_cons0 (st_box (f_gen hg (wp_pe h ⟨xs, by show (PyData.list xs, isNew e) = _; rw [hn], hl, hp, q⟩)))
theorem sp_boxC {tab : Nat → FnDef} {n f k : Nat} {ms : List Bool} {es : CEs} {xs : List D} (hs : PAs (callF tab n) ρ ms es ds) (hn : f < n) (h : run tab f (ds.map .val) = .ok (.list xs) true []) (hl : k < ρ.length) (hp : isPar ρ[k]? = false) (q : (evSs (callF tab n) r (ρ.set k (some (.own xs)))).wp N R B) : (evSs (callF tab n) (.cons (.box k (.call f ms es)) r) ρ).wp N R B :=
  s_cons0 (st_box (pr_call hs hn h ⟨xs, rfl, hl, hp, q⟩))
theorem chg_own {k : Nat} {xs ys : List D} {f : List D → Option (List D)} (h : ρ[k]? = some (some (.own xs))) (hf : f xs = some ys) : chg ρ k f = some (ρ.set k (some (.own ys))) := by unfold chg; rw [h]; show (f xs).map _ = _; rw [hf]; rfl
theorem chg_par {k : Nat} {xs ys : List D} {f : List D → Option (List D)} (h : ρ[k]? = some (some (.par xs))) (hf : f xs = some ys) : chg ρ k f = some (ρ.set k (some (.par ys))) := by unfold chg; rw [h]; show (f xs).map _ = _; rw [hf]; rfl
theorem sp_app {k : Nat} {ea : α → D} {xs : List α} {v : α} (ho : ρ[k]? = some (some (.own (xs.map ea)))) (h : PE c ρ e (ea v)) (hl : xs.length < 16777216) (q : (evSs c r (ρ.set k (some (.own ((xs ++ [v]).map ea))))).wp N R B) : (evSs c (.cons (.app k e) r) ρ).wp N R B :=
  s_cons0 (st_app (by rw [ho]; rfl) (wp_pe h ⟨_, chg_own ho (if_pos (by simpa using hl)), by rw [List.map_append] at q; exact q⟩))
theorem sp_ext {k : Nat} {ea : α → D} {xs ys : List α} (ho : ρ[k]? = some (some (.own (xs.map ea)))) (h : PE c ρ e (lstE ea ys)) (hl : xs.length + ys.length ≤ 16777216) (q : (evSs c r (ρ.set k (some (.own ((xs ++ ys).map ea))))).wp N R B) : (evSs c (.cons (.ext k e) r) ρ).wp N R B :=
  s_cons0 (st_ext (by rw [ho]; rfl) (wp_pe h ⟨_, rfl, _, chg_own ho (if_pos (by simpa using hl)), by rw [List.map_append] at q; exact q⟩))
theorem sp_seti {k : Nat} {ea : α → D} {xs : List α} {v : α} (ho : ρ[k]? = some (some (.own (xs.map ea)))) (h : PE c ρ e (ea v)) (hi : PE c ρ t (.int i)) (hl : 0 ≤ i ∧ i < xs.length) (q : (evSs c r (ρ.set k (some (.own ((xs.set i.toNat v).map ea))))).wp N R B) : (evSs c (.cons (.seti k t e) r) ρ).wp N R B := by
  refine s_cons0 (st_seti (wp_pe h ⟨by rw [ho]; rfl, wp_pe hi ⟨_, rfl, _, chg_own (ys := (xs.set i.toNat v).map ea) ho ?_, q⟩⟩))
  unfold L2.ixN
  rw [if_pos hl.1, if_pos (by simpa using hl.2), List.map_set]; rfl
theorem sp_setiP {k : Nat} {ea : α → D} {xs : List α} {v : α} (ho : ρ[k]? = some (some (.par (xs.map ea)))) (h : PE c ρ e (ea v)) (hi : PE c ρ t (.int i)) (hl : 0 ≤ i ∧ i < xs.length) (q : (evSs c r (ρ.set k (some (.par ((xs.set i.toNat v).map ea))))).wp N R B) : (evSs c (.cons (.seti k t e) r) ρ).wp N R B := by
  refine s_cons0 (st_seti (wp_pe h ⟨by rw [ho]; rfl, wp_pe hi ⟨_, rfl, _, chg_par (ys := (xs.set i.toNat v).map ea) ho ?_, q⟩⟩))
  unfold L2.ixN
  rw [if_pos hl.1, if_pos (by simpa using hl.2), List.map_set]; rfl
theorem sp_if {k : Bool} {p q : CSs} (h : PE c ρ t x) (ht : truB x = some k) (h1 : k = true → (evSs c p ρ).wp (fun ρ1 => (evSs c r ρ1).wp N R B) R B) (h2 : k = false → (evSs c q ρ).wp (fun ρ1 => (evSs c r ρ1).wp N R B) R B) : (evSs c (.cons (.iff t p q) r) ρ).wp N R B :=
  s_cons0 (st_if (wp_pe h ⟨k, ht, h1, h2⟩))
/-- a refusal that never comes -/
theorem sp_ifF {k : Bool} {p : CSs} (h : PE c ρ t x) (ht : truB x = some k) (hk : k = false) (h2 : (evSs c r ρ).wp N R B) : (evSs c (.cons (.iff t p .nil) r) ρ).wp N R B :=
  sp_if h ht (fun e => by rw [hk] at e; cases e) (fun _ => h2)
theorem sp_ret (h : PE c ρ e d) (hg : genF e = true) (q : R d (newForm e d) ρ) : (evSs c (.cons (.ret e) r) ρ).wp N R B := s_cons0 (st_ret (f_gen hg (wp_pe h q)))
theorem sp_retV {k : Nat} (h : ρ[k]? = some (some (.dat d))) (q : R d false ρ) : (evSs c (.cons (.ret (.var k)) r) ρ).wp N R B := s_cons0 (st_ret (f_dat h q))
theorem sp_retO {k : Nat} {xs : List D} (h : ρ[k]? = some (some (.own xs))) (q : R (.list xs) true (ρ.set k none)) : (evSs c (.cons (.ret (.var k)) r) ρ).wp N R B := s_cons0 (st_ret (f_own h q))
theorem sp_retC {tab : Nat → FnDef} {n f : Nat} {ms : List Bool} {es : CEs} {fr : Bool} (hs : PAs (callF tab n) ρ ms es ds) (hn : f < n) (h : run tab f (ds.map .val) = .ok d fr []) (q : R d fr ρ) : (evSs (callF tab n) (.cons (.ret (.call f ms es)) r) ρ).wp N R B :=
  s_cons0 (st_ret (pr_call hs hn h q))
theorem sp_for {tg : Tg} {it : CI} {body : CSs} (h : PI c ρ it ds) (q : (forLoop tg (fun s => evSs c body s) ds ρ).wp (fun ρ1 => (evSs c r ρ1).wp N R B) R B) : (evSs c (.cons (.forr tg it body) r) ρ).wp N R B := s_cons0 (st_for (wp_pi h q))
theorem sp_while {body : CSs} (q : (whileLoop (fun s => (evE c t s).bind truR) (fun s => evSs c body s) fuel ρ).wp (fun ρ1 => (evSs c r ρ1).wp N R B) R B) : (evSs c (.cons (.whil t body) r) ρ).wp N R B := s_cons0 q
/-- a loop over data, by what holds behind those that are done -/
theorem for_E {tg : Tg} {body : Rho → SRes} {ea : α → D} (xs : List α) (I : List α → Rho → Prop) (h0 : I [] ρ)
    (hs : ∀ done x todo s, xs = done ++ x :: todo → I done s → ∃ s1, setTg s tg (ea x) = some s1 ∧ (body s1).wp (I (done ++ [x])) R N) (he : ∀ s, I xs s → N s) : (forLoop tg body (xs.map ea) ρ).wp N R B := by
  refine swp_for (I := fun rest s => ∃ done todo, xs = done ++ todo ∧ rest = todo.map ea ∧ I done s) (fun d rest s ⟨done, todo, e1, e2, hI⟩ => ?_) (fun s ⟨done, todo, e1, e2, hI⟩ => ?_) _ _ ⟨[], xs, rfl, rfl, h0⟩
  · cases todo with
    | nil => cases e2
    | cons x todo =>
      have ed : d = ea x := (List.cons.inj e2).1
      have er : rest = todo.map ea := (List.cons.inj e2).2
      subst ed
      obtain ⟨s1, es, hb⟩ := hs done x todo s e1 hI
      exact ⟨s1, es, swp_imp hb (fun s2 h => ⟨done ++ [x], todo, by rw [List.append_assoc]; exact e1, er, h⟩) (fun _ _ _ h => h) (fun _ h => h)⟩
  · cases todo with
    | nil => rw [List.append_nil] at e1; subst e1; exact he s hI
    | cons x todo => cases e2
/-- the same, for a fixed number of turns the items do not matter -/
theorem for_mem {tg : Tg} {body : Rho → SRes} {ea : α → D} (xs : List α) (I : Rho → Prop) (h0 : I ρ)
    (hs : ∀ x s, x ∈ xs → I s → ∃ s1, setTg s tg (ea x) = some s1 ∧ (body s1).wp I R N) (he : ∀ s, I s → N s) : (forLoop tg body (xs.map ea) ρ).wp N R B :=
  for_E xs (fun _ s => I s) h0 (fun done x todo s e h => hs x s (by rw [e]; simp) h) he
/-- while, by a measure; the test is pure -/
theorem while_E {body : Rho → SRes} (I : Nat → Rho → Prop) (n : Nat) (hn : n < 1000) (h0 : I n ρ)
    (hs : ∀ m s, I m s → ∃ (v : D) (k : Bool), PE c s t v ∧ truB v = some k ∧ (k = true → (body s).wp (fun s2 => ∃ m', m' < m ∧ I m' s2) R N) ∧ (k = false → N s)) : (whileLoop (fun s => (evE c t s).bind truR) body fuel ρ).wp N R B := by
  refine swp_while (I := I) (fun m s hI => ?_) fuel n ρ hn h0
  obtain ⟨v, k, h1, h2, h3, h4⟩ := hs m s hI
  rw [wp_bind]
  refine wp_pe h1 ?_
  unfold truR
  rw [h2, Res.opt_some, wp_ok]
  cases k with
  | true => rw [if_pos rfl]; exact h3 rfl
  | false => rw [if_neg Bool.false_ne_true]; exact h4 rfl
theorem isN_opt {ea : α → D} (h : ∀ a, isNone (ea a) = false) : ∀ o : Option α, isNone (optE ea o) = o.isNone
  | some a => h a
  | none => rfl
end TwR

set_option Elab.async false
set_option linter.all false
set_option maxRecDepth 100000
set_option maxHeartbeats 1000000
namespace TwR
open Tw PySem
variable {α β γ : Type}
variable {c : CallT} {ρ ρ' : Rho} {a b e t : CE} {x y z d : D} {ds : List D} {i j : Int}
variable {N : Rho → Prop} {R : D → Bool → Rho → Prop} {B : Rho → Prop} {r : CSs}
def Junk (ρ0 : Rho) : List Nat → Rho → Prop
  | [], s => s = ρ0
  | k :: ks, s => ∃ j : Option Ent, isPar (some j) = false ∧ Junk (ρ0.set k j) ks s
theorem junk_nil {s ρ0 : Rho} (h : s = ρ0) : Junk ρ0 [] s := h
theorem junk_cons {s ρ0 : Rho} {k : Nat} {ks : List Nat} {j : Option Ent} (h1 : isPar (some j) = false) (h : Junk (ρ0.set k j) ks s) : Junk ρ0 (k :: ks) s := ⟨j, h1, h⟩
/-- some slots otherwise -/
def over (ρ : Rho) : List Nat → List (Option Ent) → Rho
  | k :: ks, v :: vs => over (ρ.set k v) ks vs
  | _, _ => ρ
theorem for_over {tg : Tg} {body : Rho → SRes} {ea : α → D} (xs : List α) (ks : List Nat) (I : List α → List (Option Ent) → Prop) (v0 : List (Option Ent)) (h0 : I [] v0) (e0 : ρ = over ρ ks v0)
    (hs : ∀ done x todo vs, xs = done ++ x :: todo → I done vs → ∃ s1, setTg (over ρ ks vs) tg (ea x) = some s1 ∧ (body s1).wp (fun s => ∃ vs', s = over ρ ks vs' ∧ I (done ++ [x]) vs') R N) (he : ∀ vs, I xs vs → N (over ρ ks vs)) : (forLoop tg body (xs.map ea) ρ).wp N R B :=
  for_E xs (fun done s => ∃ vs, s = over ρ ks vs ∧ I done vs) ⟨v0, e0, h0⟩ (fun done x todo s e ⟨vs, es, h⟩ => by subst es; exact hs done x todo vs e h) fun s ⟨vs, es, h⟩ => by subst es; exact he vs h
theorem par_of_mut {o : Option (Option Ent)} (h : isMut o = false) : isPar o = false := by
  cases o with
  | none => rfl
  | some o => cases o with
    | none => rfl
    | some e => cases e with
      | dat d => rfl
      | own xs => cases h
      | par xs => cases h
theorem noMut_1 {k : Nat} (h : isMut ρ[k]? = false) : noMut ρ [k] = true := by
  show ((!isMut ρ[k]?) && true) = true
  rw [h]; rfl
theorem noMut_2 {k l : Nat} (h : isMut ρ[k]? = false) (h' : isMut ρ[l]? = false) : noMut ρ [k, l] = true := by
  show ((!isMut ρ[k]?) && ((!isMut ρ[l]?) && true)) = true
  rw [h, h']; rfl
/-- the same: first the slots of data, then those of lists of one's own -/
def JunkD (ρ0 : Rho) (os : List Nat) : List Nat → Rho → Prop
  | [], s => Junk ρ0 os s
  | k :: ks, s => ∃ j : Option Ent, isMut (some j) = false ∧ JunkD (ρ0.set k j) os ks s
theorem junkD_nil {s ρ0 : Rho} {os : List Nat} (h : Junk ρ0 os s) : JunkD ρ0 os [] s := h
theorem junkD_cons {s ρ0 : Rho} {os : List Nat} {k : Nat} {ks : List Nat} {j : Option Ent} (h1 : isMut (some j) = false) (h : JunkD (ρ0.set k j) os ks s) : JunkD ρ0 os (k :: ks) s := ⟨j, h1, h⟩
theorem for_junkD {tg : Tg} {body : Rho → SRes} {ea : α → D} (xs : List α) (ks os : List Nat) (h0 : JunkD ρ os ks ρ)
    (hs : ∀ x s, x ∈ xs → JunkD ρ os ks s → ∃ s1, setTg s tg (ea x) = some s1 ∧ (body s1).wp (JunkD ρ os ks) R N) (he : ∀ s, JunkD ρ os ks s → N s) : (forLoop tg body (xs.map ea) ρ).wp N R B :=
  for_mem xs (JunkD ρ os ks) h0 hs he
/-- the same, with a pen that is drawn with -/
def JunkP (ρ0 : Rho) (w : List D → Ent) (i : Nat) (f : Int) (os ks : List Nat) (s : Rho) : Prop := ∃ p : Int, JunkD (ρ0.set i (some (w ([p, f].map PyData.int)))) os ks s
theorem junkP_mk {ρ0 s : Rho} {w : List D → Ent} {i : Nat} {f p : Int} {os ks : List Nat} (h : JunkD (ρ0.set i (some (w ([p, f].map PyData.int)))) os ks s) : JunkP ρ0 w i f os ks s := ⟨p, h⟩
theorem for_junkP {tg : Tg} {body : Rho → SRes} {ea : α → D} (xs : List α) (w : List D → Ent) (i : Nat) {f : Int} (ks os : List Nat) (h0 : JunkP ρ w i f os ks ρ)
    (hs : ∀ x s, x ∈ xs → JunkP ρ w i f os ks s → ∃ s1, setTg s tg (ea x) = some s1 ∧ (body s1).wp (JunkP ρ w i f os ks) R N) (he : ∀ s, JunkP ρ w i f os ks s → N s) : (forLoop tg body (xs.map ea) ρ).wp N R B :=
  for_mem xs (JunkP ρ w i f os ks) h0 hs he
theorem for_junk {tg : Tg} {body : Rho → SRes} {ea : α → D} (xs : List α) (ks : List Nat) (h0 : Junk ρ ks ρ)
    (hs : ∀ x s, x ∈ xs → Junk ρ ks s → ∃ s1, setTg s tg (ea x) = some s1 ∧ (body s1).wp (Junk ρ ks) R N) (he : ∀ s, Junk ρ ks s → N s) : (forLoop tg body (xs.map ea) ρ).wp N R B :=
  for_mem xs (Junk ρ ks) h0 hs he
theorem put_j3 {k l m : Nat} {d1 d2 d3 : D} (hkl : k ≠ l) (hkm : k ≠ m) (hlm : l ≠ m) (hk : k < ρ.length) (hl : l < ρ.length) (hm : m < ρ.length) (hp : isPar ρ[k]? = false) (hp' : isPar ρ[l]? = false) (hp'' : isPar ρ[m]? = false) : setTg ρ (.tup [k, l, m]) (.tuple [d1, d2, d3]) = some (((ρ.set k (some (.dat d1))).set l (some (.dat d2))).set m (some (.dat d3))) := by
  show ((put ρ k d1).bind fun ρ' => (put ρ' l d2).bind fun ρ'' => (put ρ'' m d3).bind fun q => some q) = _
  unfold put
  rw [if_pos ⟨hk, hp⟩]
  show ((if l < (ρ.set k (some (.dat d1))).length ∧ isPar (ρ.set k (some (.dat d1)))[l]? = false then some ((ρ.set k (some (.dat d1))).set l (some (.dat d2))) else none).bind fun ρ'' => (if m < ρ''.length ∧ isPar ρ''[m]? = false then some (ρ''.set m (some (.dat d3))) else none).bind fun q => some q) = _
  rw [if_pos ⟨by simpa using hl, by rw [List.getElem?_set_ne hkl]; exact hp'⟩]
  show ((if m < ((ρ.set k (some (.dat d1))).set l (some (.dat d2))).length ∧ isPar ((ρ.set k (some (.dat d1))).set l (some (.dat d2)))[m]? = false then some (((ρ.set k (some (.dat d1))).set l (some (.dat d2))).set m (some (.dat d3))) else none).bind fun q => some q) = _
  rw [if_pos ⟨by simpa using hm, by rw [List.getElem?_set_ne hlm, List.getElem?_set_ne hkm]; exact hp''⟩]; rfl
theorem pe_tup2 {e1 : α → D} {e2 : β → D} {u : α} {v : β} (h1 : PE c ρ a (e1 u)) (h2 : PE c ρ b (e2 v)) : PE c ρ (.tup (.cons a (.cons b .nil))) (parE e1 e2 (u, v)) := pe_tup (pes_cons h1 (pes_cons h2 pes_nil))
theorem pe_tup3 {e1 : α → D} {e2 : β → D} {e3 : γ → D} {u : α} {v : β} {w : γ} (h1 : PE c ρ a (e1 u)) (h2 : PE c ρ b (e2 v)) (h3 : PE c ρ e (e3 w)) : PE c ρ (.tup (.cons a (.cons b (.cons e .nil)))) (triE e1 e2 e3 (u, v, w)) := pe_tup (pes_cons h1 (pes_cons h2 (pes_cons h3 pes_nil)))
theorem v_at20 {e : α → D} {f : β → D} {p : α × β} : idxD (parE e f p) (.int 0) = some (e p.1) := rfl
theorem v_at21 {e : α → D} {f : β → D} {p : α × β} : idxD (parE e f p) (.int 1) = some (f p.2) := rfl
theorem v_at30 {e : α → D} {f : β → D} {g : γ → D} {p : α × β × γ} : idxD (triE e f g p) (.int 0) = some (e p.1) := rfl
theorem v_at31 {e : α → D} {f : β → D} {g : γ → D} {p : α × β × γ} : idxD (triE e f g p) (.int 1) = some (f p.2.1) := rfl
theorem v_at32 {e : α → D} {f : β → D} {g : γ → D} {p : α × β × γ} : idxD (triE e f g p) (.int 2) = some (g p.2.2) := rfl
theorem r_lstE {ea : α → D} {es : CEs} {P : D → Rho → Prop} (h : (evEs c es ρ).wp fun xs ρ1 => ∃ vs : List α, xs = vs.map ea ∧ P (lstE ea vs) ρ1) : (evE c (.lst es) ρ).wp P :=
  r_lst (wp_imp h fun xs ρ1 ⟨vs, e, q⟩ => by rw [e]; exact q)
theorem r_orE {ea : α → D} {P : D → Rho → Prop} (h : (evE c a ρ).wp fun x ρ1 => ∃ u, x = ea u ∧ ∃ k, truB (ea u) = some k ∧ ∃ v, (k = false → PE c ρ1 b (ea v)) ∧ P (ea (if k = true then u else v)) ρ1) : (evE c (.or (.cons a (.cons b .nil))) ρ).wp P := by
  refine r_or (wp_imp h fun x ρ1 ⟨u, e, k, ht, v, hv, q⟩ => ?_)
  subst e
  cases k with
  | true => exact ⟨true, ht, (fun h => Bool.noConfusion h), (fun _ => q)⟩
  | false => exact ⟨false, ht, (fun _ => r_or1 (wp_pe (hv rfl) q)), (fun h => Bool.noConfusion h)⟩
/-- a comparison of two texts of the same thing -/
theorem v_reprE {e : α → D} {v : α} (h : reprD (e v) ≠ none) : ∃ s, btD .repr [e v] = some s ∧ reprD (e v) = some s := by
  show ∃ s, reprD (e v) = some s ∧ _
  cases hr : reprD (e v) with
  | none => exact absurd hr h
  | some s => exact ⟨s, rfl, rfl⟩
end TwR
namespace TwR
open Tw PySem
variable {α β γ : Type}
variable {c : CallT} {ρ ρ' : Rho} {a b e t : CE} {x y z d : D} {ds : List D} {i j : Int}
theorem set_set_wipe {k i : Nat} {v w : Option Ent} (hki : k ≠ i) (hk : ρ[k]? = some none) : wipeR ((ρ.set i w).set k v) [k] = ρ.set i w := by
  show ((ρ.set i w).set k v).set k none = _
  rw [List.set_set]
  apply List.ext_getElem?
  intro m
  by_cases h : k = m
  · subst h
    have hl : k < ρ.length := (List.getElem?_eq_some_iff.mp hk).1
    rw [List.getElem?_set_self (by simpa using hl), List.getElem?_set_ne (Ne.symm hki), hk]
  · rw [List.getElem?_set_ne h]
theorem put_pen {k i : Nat} {w : Option Ent} (hki : k ≠ i) (hk : ρ[k]? = some none) : setTg (ρ.set i w) (.name k) d = some ((ρ.set i w).set k (some (.dat d))) := by
  have hl : k < ρ.length := (List.getElem?_eq_some_iff.mp hk).1
  exact put_j (by simpa using hl) (by rw [List.getElem?_set_ne (Ne.symm hki), hk]; rfl)
theorem set_same {i : Nat} {w : Option Ent} (h : ρ[i]? = some w) : ρ.set i w = ρ := by
  apply List.ext_getElem?
  intro m
  by_cases e : i = m
  · subst e
    have hl : i < ρ.length := (List.getElem?_eq_some_iff.mp h).1
    rw [List.getElem?_set_self hl, h]
  · rw [List.getElem?_set_ne e]
theorem comp_draw {k i : Nat} {cond : Rho → Res Bool} {elt : Rho → Res D} {ea : α → D} {eb : β → D} {xs : List α} {w : List D → Ent} {p f : Int} {P : List D → Rho → Prop} (A : β → Prop) (hp : ρ[i]? = some (some (w ([p, f].map PyData.int)))) (hk : ρ[k]? = some none) (hki : k ≠ i) (hc : ∀ r, cond r = .ok true r)
    (he : ∀ p x, x ∈ xs → (elt ((ρ.set i (some (w ([p, f].map PyData.int)))).set k (some (.dat (ea x))))).wp fun d r => ∃ v p', d = eb v ∧ A v ∧ r = (ρ.set i (some (w ([p', f].map PyData.int)))).set k (some (.dat (ea x))))
    (q : ∀ (ys : List β) p', (∀ y ∈ ys, A y) → ys.length = xs.length → P (ys.map eb) (ρ.set i (some (w ([p', f].map PyData.int))))) : (compLoop [k] (.name k) cond elt (xs.map ea) ρ).wp P := by
  refine wp_comp (J := fun rest acc r => ∃ (done todo : List α) (ys : List β) (p' : Int), done ++ todo = xs ∧ rest = todo.map ea ∧ acc = ys.map eb ∧ (∀ y ∈ ys, A y) ∧ ys.length = done.length ∧ r = ρ.set i (some (w ([p', f].map PyData.int)))) (fun d rest acc r ⟨done, todo, ys, p', e1, e2, e3, hA, hl, er⟩ => ?_) _ [] ρ ⟨[], xs, [], p, rfl, rfl, rfl, fun _ h => absurd h List.not_mem_nil, rfl, (set_same hp).symm⟩ fun acc' r ⟨done, todo, ys, p', e1, e2, e3, hA, hl, er⟩ => ?_
  · subst er
    cases todo with
    | nil => cases e2
    | cons x todo =>
      have ed : d = ea x := (List.cons.inj e2).1
      have ert : rest = todo.map ea := (List.cons.inj e2).2
      subst ed
      refine ⟨_, put_pen hki hk, ?_⟩
      rw [hc, wp_ok, if_pos rfl]
      refine wp_imp (he p' x (by rw [← e1]; simp)) fun d2 r2 ⟨v, p2, ev, hv, er2⟩ => ?_
      subst ev er2
      rw [set_set_wipe hki hk]
      refine ⟨done ++ [x], todo, ys ++ [v], p2, by rw [List.append_assoc]; exact e1, ert, by rw [e3]; simp, fun y hy => ?_, by simp [hl], rfl⟩
      rcases List.mem_append.mp hy with hy | hy
      · exact hA y hy
      · rw [List.mem_singleton.mp hy]; exact hv
  · subst er
    rw [List.nil_append] at e3
    subst e3
    cases todo with
    | nil => rw [List.append_nil] at e1; subst e1; exact q ys p' hA hl
    | cons x todo => cases e2
theorem comp_pick {k i : Nat} {cond : Rho → Res Bool} {elt : Rho → Res D} {ea : α → D} {xs : List α} {w : List D → Ent} {p f : Int} {P : List D → Rho → Prop} (hp : ρ[i]? = some (some (w ([p, f].map PyData.int)))) (hk : ρ[k]? = some none) (hki : k ≠ i)
    (hc : ∀ p x, x ∈ xs → (cond ((ρ.set i (some (w ([p, f].map PyData.int)))).set k (some (.dat (ea x))))).wp fun b r => ∃ p', r = (ρ.set i (some (w ([p', f].map PyData.int)))).set k (some (.dat (ea x))))
    (he : ∀ p x, x ∈ xs → elt ((ρ.set i (some (w ([p, f].map PyData.int)))).set k (some (.dat (ea x)))) = .ok (ea x) ((ρ.set i (some (w ([p, f].map PyData.int)))).set k (some (.dat (ea x)))))
    (q : ∀ (ys : List α) p', ys.Sublist xs → P (ys.map ea) (ρ.set i (some (w ([p', f].map PyData.int))))) : (compLoop [k] (.name k) cond elt (xs.map ea) ρ).wp P := by
  refine wp_comp (J := fun rest acc r => ∃ (done todo ys : List α) (p' : Int), done ++ todo = xs ∧ rest = todo.map ea ∧ acc = ys.map ea ∧ ys.Sublist done ∧ r = ρ.set i (some (w ([p', f].map PyData.int)))) (fun d rest acc r ⟨done, todo, ys, p', e1, e2, e3, hA, er⟩ => ?_) _ [] ρ ⟨[], xs, [], p, rfl, rfl, rfl, List.Sublist.slnil, (set_same hp).symm⟩ fun acc' r ⟨done, todo, ys, p', e1, e2, e3, hA, er⟩ => ?_
  · subst er
    cases todo with
    | nil => cases e2
    | cons x todo =>
      have ed : d = ea x := (List.cons.inj e2).1
      have ert : rest = todo.map ea := (List.cons.inj e2).2
      subst ed
      have hx : x ∈ xs := by rw [← e1]; simp
      refine ⟨_, put_pen hki hk, ?_⟩
      refine wp_imp (hc p' x hx) fun b r2 ⟨p2, er2⟩ => ?_
      subst er2
      cases b with
      | true =>
        rw [if_pos rfl, he p2 x hx, wp_ok, set_set_wipe hki hk]
        exact ⟨done ++ [x], todo, ys ++ [x], p2, by rw [List.append_assoc]; exact e1, ert, by rw [e3]; simp, List.Sublist.append hA (List.Sublist.refl _), rfl⟩
      | false =>
        rw [if_neg Bool.false_ne_true, set_set_wipe hki hk]
        exact ⟨done ++ [x], todo, ys, p2, by rw [List.append_assoc]; exact e1, ert, e3, hA.trans (List.sublist_append_left ..), rfl⟩
  · subst er
    rw [List.nil_append] at e3
    subst e3
    cases todo with
    | nil => rw [List.append_nil] at e1; subst e1; exact q ys p' hA
    | cons x todo => cases e2
theorem r_comp1 {nm : Str} {k : Nat} {elt : CE} {tg : Tg} {it : CI} {cond : CO} {P : D → Rho → Prop} (h : (evI c it ρ).wp fun ds ρ1 => noMut ρ1 [k] = true ∧ (compLoop [k] tg (fun r => evC c cond r) (fun r => evE c elt r) ds (ρ1.set k none)).wp fun xs ρ2 => P (.list xs) (ρ2.set k ((ρ1[k]?).getD none))) : (evE c (.comp [(nm, k)] elt tg it cond) ρ).wp P := r_comp h
theorem rg_some {n : Int} (h1 : -1000000 < n ∧ n < 1000000) : rangeD [.int n] = some ((rg n).map .int) := by
  show (if -(2 ^ 60) ≤ n ∧ n ≤ SL then some (rangeL 0 n.toNat) else none) = _
  rw [if_pos (by unfold SL; omega), rg_ints]
theorem rg2_some {m n : Int} (h1 : -1000000 < m ∧ m < 1000000 ∧ -1000000 < n ∧ n < 1000000) : rangeD [.int m, .int n] = some ((rg2 m n).map .int) := by
  show (if -(2 ^ 60) ≤ m ∧ m ≤ 2 ^ 60 ∧ -(2 ^ 60) ≤ n ∧ n ≤ 2 ^ 60 ∧ n - m ≤ SL then some (rangeL m (n - m).toNat) else none) = _
  rw [if_pos (by unfold SL; omega), rg2_ints]
end TwR

set_option Elab.async false
set_option linter.all false
set_option maxRecDepth 100000
set_option maxHeartbeats 1000000
namespace TwR
open Tw PySem
variable {α β γ : Type}
theorem strOk_append {x y : Str} (h1 : PyData.strOk x = true) (h2 : PyData.strOk y = true) : PyData.strOk (x ++ y) = true := by
  show (x.cps ++ y.cps).all _ = true
  rw [Array.all_append]
  have a1 : x.cps.all (· < 0x110000) = true := h1
  have a2 : y.cps.all (· < 0x110000) = true := h2
  rw [a1, a2]; rfl
theorem strOk_ofString (s : String) : PyData.strOk (Str.ofString s) = true := by
  rw [Str.ofString_eq_toList]
  show (Array.all (s.toList.map Char.toNat).toArray _) = true
  rw [List.all_toArray', List.all_eq_true]
  · intro c hc
    obtain ⟨ch, _, rfl⟩ := List.mem_map.mp hc
    have := ch.valid
    have h2 : ch.toNat < 0x110000 := by
      rcases this with h | ⟨_, h⟩
      · exact Nat.lt_trans h (by decide)
      · exact h
    simpa using h2
  · rfl
theorem strOk_textFrom : ∀ (ts : List Str) (k : Nat) (acc : Str), PyData.strOk acc = true → (∀ t ∈ ts, PyData.strOk t = true) → PyData.strOk (textFrom k acc ts) = true
  | [], k, acc, h, _ => h
  | t :: ts, k, acc, h, ht => strOk_textFrom ts (k + 1) _ (strOk_append (strOk_append h (strOk_ofString _)) (ht t List.mem_cons_self)) fun u hu => ht u (List.mem_cons_of_mem _ hu)
theorem strOk_join (sep : Str) (hs : PyData.strOk sep = true) : ∀ ts : List Str, (∀ t ∈ ts, PyData.strOk t = true) → PyData.strOk (Str.join sep ts) = true
  | [], _ => by rw [Str.join]; decide +kernel
  | [t], h => h t List.mem_cons_self
  | t :: u :: ts, h => strOk_append (strOk_append (h t List.mem_cons_self) hs) (strOk_join sep hs (u :: ts) fun v hv => h v (List.mem_cons_of_mem _ hv))
structure Fit (w : Nat) (d : D) : Prop where
  sh : d.showable = true
  dc : d.hasDict = false
  ok : PyData.strOk d.shown = true
  len : d.shown.length ≤ w
theorem Fit.le {w w' : Nat} {d : D} (h : Fit w d) (hw : w ≤ w') : Fit w' d := ⟨h.sh, h.dc, h.ok, Nat.le_trans h.len hw⟩
theorem log2_small {n : Nat} (h : n < 10 ^ 12) : n.log2 < 1920 := by
  by_cases h0 : n = 0
  · subst h0; decide
  · exact (Nat.log2_lt h0).mpr (Nat.lt_trans h (by decide))
theorem fit_int {i : Int} (h : -100000000000 < i ∧ i < 100000000000) : Fit 13 (.int i) := by
  have h' : i.natAbs < 10 ^ 12 := by omega
  exact ⟨by simp only [PyData.showable]; exact decide_eq_true (log2_small h'), by simp only [PyData.hasDict], by simp only [PyData.shown]; exact strOk_ofString _, PyData.shown_int_le h'⟩
theorem fit_bool {b : Bool} : Fit 13 (.bool b) := by cases b <;> exact ⟨by simp only [PyData.showable], by simp only [PyData.hasDict], by simp only [PyData.shown]; exact strOk_ofString _, by simp only [PyData.shown]; decide +kernel⟩
theorem fit_none : Fit 13 .none := ⟨by simp only [PyData.showable], by simp only [PyData.hasDict], by simp only [PyData.shown]; exact strOk_ofString _, by simp only [PyData.shown]; decide +kernel⟩
theorem fit_all {w : Nat} : ∀ ds : List D, (∀ d ∈ ds, Fit w d) → PyData.showableAll ds = true ∧ PyData.hasDictAll ds = false ∧ (∀ t ∈ PyData.shownAll ds, PyData.strOk t = true) ∧ ((PyData.shownAll ds).map (·.length)).sum ≤ ds.length * w ∧ (PyData.shownAll ds).length = ds.length
  | [], _ => by simp [PyData.showableAll, PyData.hasDictAll, PyData.shownAll]
  | d :: ds, h => by
    obtain ⟨h1, h2, h3, h4, h5⟩ := fit_all ds fun e he => h e (List.mem_cons_of_mem _ he)
    have h0 := h d List.mem_cons_self
    simp only [PyData.showableAll, PyData.hasDictAll, PyData.shownAll, h0.sh, h1, h0.dc, h2, List.map_cons, List.sum_cons, List.length_cons, h5]
    refine ⟨rfl, rfl, fun t ht => ?_, ?_, trivial⟩
    · rcases List.mem_cons.mp ht with rfl | ht
      · exact h0.ok
      · exact h3 t ht
    · have := h0.len
      rw [Nat.add_mul]; omega
theorem fit_list {w m : Nat} {ds : List D} (h : ∀ d ∈ ds, Fit w d) (hl : ds.length ≤ m) : Fit (m * (w + 2) + 3) (.list ds) := by
  obtain ⟨h1, h2, h3, h4, h5⟩ := fit_all ds h
  refine ⟨by simp only [PyData.showable]; exact h1, by simp only [PyData.hasDict]; exact h2, ?_, ?_⟩
  · simp only [PyData.shown]
    exact strOk_append (strOk_textFrom _ _ _ (strOk_ofString _) h3) (strOk_ofString _)
  · simp only [PyData.shown]
    have := listText_len_le (PyData.shownAll ds)
    rw [h5] at this
    have h6 : ds.length * (w + 2) ≤ m * (w + 2) := Nat.mul_le_mul_right _ hl
    rw [Nat.mul_add] at h6
    omega
theorem fit_tuple {w m : Nat} {ds : List D} (h : ∀ d ∈ ds, Fit w d) (hl : ds.length ≤ m) : Fit (m * (w + 2) + 3) (.tuple ds) := by
  obtain ⟨h1, h2, h3, h4, h5⟩ := fit_all ds h
  refine ⟨by simp only [PyData.showable]; exact h1, by simp only [PyData.hasDict]; exact h2, ?_, ?_⟩
  · simp only [PyData.shown]
    exact strOk_append (strOk_append (strOk_ofString _) (strOk_join _ (strOk_ofString _) _ h3)) (strOk_ofString _)
  · simp only [PyData.shown]
    have := tupleText_len_le (PyData.shownAll ds)
    rw [h5] at this
    have h6 : ds.length * (w + 2) ≤ m * (w + 2) := Nat.mul_le_mul_right _ hl
    rw [Nat.mul_add] at h6
    omega
theorem fit_L {w m : Nat} {e : α → D} {xs : List α} (h : ∀ x ∈ xs, Fit w (e x)) (hl : xs.length ≤ m) : Fit (m * (w + 2) + 3) (lstE e xs) :=
  fit_list (fun d hd => by obtain ⟨x, hx, rfl⟩ := List.mem_map.mp hd; exact h x hx) (by simpa using hl)
theorem fit_T {w m : Nat} {e : α → D} {xs : List α} (h : ∀ x ∈ xs, Fit w (e x)) (hl : xs.length ≤ m) : Fit (m * (w + 2) + 3) (tupE e xs) :=
  fit_tuple (fun d hd => by obtain ⟨x, hx, rfl⟩ := List.mem_map.mp hd; exact h x hx) (by simpa using hl)
theorem fit_P {w : Nat} {e : α → D} {f : β → D} {p : α × β} (h1 : Fit w (e p.1)) (h2 : Fit w (f p.2)) : Fit (2 * (w + 2) + 3) (parE e f p) :=
  fit_tuple (fun d hd => by
    rcases List.mem_cons.mp hd with rfl | hd
    · exact h1
    · rw [List.mem_singleton.mp hd]; exact h2) (by simp)
theorem fit_O {w : Nat} {e : α → D} {o : Option α} (h : ∀ a, o = some a → Fit w (e a)) (hw : 13 ≤ w) : Fit w (optE e o) := by
  cases o with
  | none => exact fit_none.le hw
  | some a => exact h a rfl
theorem reprD_fit {d : D} (h : Fit 16777216 d) (hd : d.depth ≤ 64) : reprD d = some (.str d.shown) := by
  unfold reprD
  rw [if_neg, if_pos ⟨h.sh, h.dc, hd, h.len⟩]
  intro e
  unfold isDctD at e
  split at e
  · have := h.dc
    simp [PyData.hasDict] at this
  · cases e
theorem eq_str {s : Str} (h : PyData.strOk s = true) : cmpD .eq (.str s) (.str s) = some true := by
  show (if (shp (.str s) && shp (.str s)) = true then some (PyData.eqv (.str s) (.str s)) else none) = _
  have h1 : shp (.str s) = true := by
    show ((PyData.str s).canLay0 && decide ((PyData.str s).depth ≤ 64)) = true
    simp only [PyData.canLay0, PyData.depth, h]; rfl
  rw [h1]
  simp [PyData.eqv]
theorem IsSet.nodup {n : Int} {A : List Int} (h : IsSet n A) : A.Nodup := h.inc.imp fun h => by omega
theorem rising_len : ∀ (A : List Int) (lo hi : Int), A.Pairwise (· < ·) → (∀ x ∈ A, lo ≤ x ∧ x < hi) → lo ≤ hi → (A.length : Int) ≤ hi - lo
  | [], lo, hi, _, _, h => by simp; omega
  | x :: A, lo, hi, hp, hm, h => by
    have h1 := List.pairwise_cons.mp hp
    have h2 := hm x List.mem_cons_self
    have := rising_len A (x + 1) hi h1.2 (fun y hy => ⟨by have := h1.1 y hy; omega, (hm y (List.mem_cons_of_mem _ hy)).2⟩) (by omega)
    simp only [List.length_cons]
    omega
theorem IsSet.len {n : Int} {A : List Int} (h : IsSet n A) (hn : 0 ≤ n) : (A.length : Int) ≤ n := by
  have := rising_len A 0 n h.inc h.mem hn
  omega
theorem IsSet.ext {n m : Int} {A B : List Int} (ha : IsSet n A) (hb : IsSet m B) (h : ∀ x, x ∈ A ↔ x ∈ B) : A = B := rising_one ha.inc hb.inc h
theorem IsSet.nil {n : Int} : IsSet n [] := ⟨List.Pairwise.nil, fun _ h => nomatch h⟩
theorem mem_rg {n x : Int} : x ∈ rg n ↔ 0 ≤ x ∧ x < n := by
  unfold rg
  rw [List.mem_map]
  constructor
  · rintro ⟨k, hk, rfl⟩
    have := List.mem_range.mp hk
    omega
  · intro h
    exact ⟨x.toNat, List.mem_range.mpr (by omega), by omega⟩
theorem mem_rg2 {a b x : Int} : x ∈ rg2 a b ↔ a ≤ x ∧ x < b := by
  unfold rg2
  rw [List.mem_map]
  constructor
  · rintro ⟨k, hk, rfl⟩
    have := List.mem_range.mp hk
    omega
  · intro h
    exact ⟨(x - a).toNat, List.mem_range.mpr (by omega), by omega⟩
theorem rg_inc (n : Int) : (rg n).Pairwise (· < ·) := by
  unfold rg
  rw [List.pairwise_map]
  exact List.pairwise_lt_range.imp fun h => by omega
theorem rg2_inc (a b : Int) : (rg2 a b).Pairwise (· < ·) := by
  unfold rg2
  rw [List.pairwise_map]
  exact List.pairwise_lt_range.imp fun h => by omega
theorem isSet_rg (n : Int) : IsSet n (rg n) := ⟨rg_inc n, fun x hx => mem_rg.mp hx⟩
theorem len_rg (n : Int) : (rg n).length = n.toNat := by unfold rg; simp
theorem len_rg2 (a b : Int) : (rg2 a b).length = (b - a).toNat := by unfold rg2; simp
theorem isSet_filter {n : Int} {A : List Int} {p : Int → Bool} (h : IsSet n A) : IsSet n (A.filter p) := ⟨h.inc.filter p, fun x hx => h.mem x (List.mem_filter.mp hx).1⟩
theorem isSet_rgF {n : Int} {p : Int → Bool} : IsSet n ((rg n).filter p) := isSet_filter (isSet_rg n)
/-- the set of the rests -/
def rests (n : Int) (xs : List Int) : List Int := sortU (xs.map fun x => x % n)
theorem mem_rests {n x : Int} {xs : List Int} : x ∈ rests n xs ↔ ∃ y ∈ xs, y % n = x := by
  unfold rests
  rw [sortU_mem, List.mem_map]
theorem isSet_sortU {n : Int} {xs : List Int} (h : ∀ x ∈ xs, 0 ≤ x ∧ x < n) : IsSet n (sortU xs) := ⟨sortU_lt xs, fun x hx => h x (sortU_mem.mp hx)⟩
theorem isSet_rests {n : Int} {xs : List Int} (hn : 0 < n) : IsSet n (rests n xs) := isSet_sortU fun x hx => by
  obtain ⟨y, _, rfl⟩ := List.mem_map.mp hx
  exact ⟨Int.emod_nonneg _ (by omega), Int.emod_lt_of_pos _ hn⟩
theorem sortU_short {n : Int} {xs : List Int} (h : ∀ x ∈ xs, 0 ≤ x ∧ x < n) (hn : 0 ≤ n ∧ n ≤ 24) : (sortU xs).length < 64 := by
  have := (isSet_sortU h).len hn.1
  omega
theorem IsSet.short {n : Int} {A : List Int} (h : IsSet n A) (hn : 2 ≤ n ∧ n ≤ 24) : A.length ≤ 24 := by
  have := h.len (by omega)
  omega
theorem fit_set {n : Int} {A : List Int} (h : IsSet n A) (hn : n ≤ 24) : Fit 400 (tupE PyData.int A) := by
  by_cases h0 : A = []
  · subst h0; exact (fit_T (w := 13) (m := 0) (fun x hx => absurd hx List.not_mem_nil) (Nat.le_refl _)).le (by decide)
  · have h1 : 0 ≤ n := by
      cases A with
      | nil => exact absurd rfl h0
      | cons x r => have := h.mem x List.mem_cons_self; omega
    have h2 := h.len h1
    exact (fit_T (w := 13) (m := 24) (fun x hx => fit_int (by have := h.mem x hx; omega)) (by omega)).le (by decide)
/-- the set without what comes again, of a set -/
theorem sortU_set {n : Int} {A : List Int} (h : IsSet n A) : sortU A = A := rising_one (sortU_lt A) h.inc fun k => sortU_mem
theorem pair_zip : ∀ A : List Int, A.Pairwise (· < ·) → ∀ p ∈ A.zip (A.drop 1), p.1 < p.2
  | [], _, p, hp => by simp at hp
  | [x], _, p, hp => by simp at hp
  | x :: y :: A, h, p, hp => by
    have h1 := List.pairwise_cons.mp h
    have hp' : p = (x, y) ∨ p ∈ (y :: A).zip A := by simpa using hp
    rcases hp' with rfl | hp'
    · exact h1.1 y List.mem_cons_self
    · exact pair_zip (y :: A) h1.2 p hp'
theorem cut_from {xs : List α} {k : Int} (h : 0 ≤ k) : cut xs (some k) none = xs.drop k.toNat := by
  unfold cut HT.sIx
  dsimp only
  rw [if_neg (by omega)]
  by_cases hl : k.toNat ≤ xs.length
  · rw [Nat.min_eq_left hl, ← List.length_drop, List.take_length]
  · rw [Nat.min_eq_right (by omega), List.drop_length, List.drop_of_length_le (by omega)]; simp
theorem cut_to {xs : List α} {k : Int} (h : 0 ≤ k) : cut xs none (some k) = xs.take k.toNat := by
  unfold cut HT.sIx
  dsimp only
  rw [if_neg (by omega)]
  rw [List.drop_zero, Nat.sub_zero]
  by_cases hl : k.toNat ≤ xs.length
  · rw [Nat.min_eq_left hl]
  · rw [Nat.min_eq_right (by omega), List.take_length, List.take_of_length_le (by omega)]
theorem cut_len {xs : List α} {lo hi : Option Int} : (cut xs lo hi).length ≤ xs.length := by
  unfold cut
  rw [List.length_take, List.length_drop]; omega
theorem cut_mem {xs : List α} {lo hi : Option Int} {x : α} (h : x ∈ cut xs lo hi) : x ∈ xs := by
  unfold cut at h
  exact List.mem_of_mem_drop (List.mem_of_mem_take h)
theorem zip_all {A : List Int} (h : A.Pairwise (· < ·)) : ((A.zip (cut A (some 1) none)).map fun p => decide (p.1 < p.2)).all id = true := by
  rw [cut_from (by decide), List.all_map, List.all_eq_true]
  intro p hp
  exact decide_eq_true (pair_zip A h p hp)
theorem Fit.eqS {d : D} (h : Fit 16777216 d) : cmpD .eq (.str d.shown) (.str d.shown) = some true := eq_str h.ok
end TwR

set_option Elab.async false
set_option linter.all false
set_option maxRecDepth 100000
set_option maxHeartbeats 0
namespace TwL
open PySem Tw TwR

theorem ring57 (x : Int) : 5 + 2 * (x % 2) = 5 ∨ 5 + 2 * (x % 2) = 7 := by omega


































theorem E_law_one_right (n : Int) (A : List Int) (hr : n = 5 ∨ n = 7) (hA : A = [0, 1, 3]) : run tab F.law_one_right [.val (.int n), .val (tupE PyData.int A)] = .ok (.bool true) false [] := by
  subst hA
  rcases hr with rfl | rfl
  · kernel_rfl
  · kernel_rfl



















theorem E_law_two_right (n : Int) (A C : List Int) (hr : n = 5 ∨ n = 7) (hA : A = [0, 1, 3]) (hC : C = [1, 2]) : run tab F.law_two_right [.val (.int n), .val (tupE PyData.int A), .val (tupE PyData.int C)] = .ok (.bool true) false [] := by
  subst hA hC
  rcases hr with rfl | rfl
  · kernel_rfl
  · kernel_rfl
















theorem E_law_sizes_right (n : Int) (hr : n = 5 ∨ n = 7) : run tab F.law_sizes_right [.val (.int n)] = .ok (.bool true) false [] := by
  rcases hr with rfl | rfl
  · kernel_rfl
  · kernel_rfl

theorem E_law (ns : (List Int)) (hl : ns.length ≤ 63) : run tab F.law [.val ((lstE PyData.int) ns)] = .ok (PyData.bool (true)) false [] := by
  refine eq_of_wp ?_
  rw [Tw.run_eq]
  refine wp_fn ⟨rfl, by decide⟩ ?_
  show (evSs (callF tab F.law) B.law [some (.dat ((lstE PyData.int) ns)), none, none, none, none]).wp _ _ _
  unfold B.law
  refine sp_for (pi_seqL (ea := PyData.int) (pe_slc (pq_gen rfl (pe_bin (pe_var rfl) (pe_lst (pes_consE (ea := PyData.int) pe_con (pes_nilE (ea := PyData.int)))) (v_catL (e := PyData.int) (by first | assumption | exact cat_ok hl | exact isSet_mem (by assumption) (by decide +kernel) | exact isSet_one (by omega) | exact isSet_lit (by decide +kernel) | exact ring57 _ | rfl | assumption | omega | decide | (simp only [List.mem_cons, List.not_mem_nil, or_false] at *; omega) | (have hq := mem_rg2.mp (by assumption); omega) | (have hq := mem_rg.mp (by assumption); omega) | ((try simp only [List.length_map, List.length_append, List.length_cons, List.length_nil, List.length_replicate, List.length_set, List.length_reverse, len_rg, len_rg2] at *); omega))))) po_none (po_some pe_con) (v_slcL (e := PyData.int)))) ?_
  refine for_junkD (ea := PyData.int) _ [1, 2, 3, 4] [] ?_ ?_ ?_
  · exact (junkD_cons (by first | rfl | assumption) (junkD_cons (by first | rfl | assumption) (junkD_cons (by first | rfl | assumption) (junkD_cons (by first | rfl | assumption) (junkD_nil (junk_nil rfl))))))
  · rintro v_cell _ hv_cell ⟨j1, hj1, j2, hj2, j3, hj3, j4, hj4, rfl⟩
    try dsimp only [List.set, over, reSet, List.getElem?_cons_zero, List.getElem?_cons_succ, Option.getD_some]
    refine ⟨_, (by first | rfl | exact put_j (Nat.le_of_ble_eq_true rfl) (by first | rfl | assumption | exact par_of_mut (by assumption))), ?_⟩
    try dsimp only [List.set, over, reSet, List.getElem?_cons_zero, List.getElem?_cons_succ, Option.getD_some]
    refine sp_asg (pe_bin pe_con (pe_bin pe_con (pe_bin (pe_var rfl) pe_con (v_mod (by first | assumption | exact cat_ok hl | exact isSet_mem (by assumption) (by decide +kernel) | exact isSet_one (by omega) | exact isSet_lit (by decide +kernel) | exact ring57 _ | rfl | assumption | omega | decide | (simp only [List.mem_cons, List.not_mem_nil, or_false] at *; omega) | (have hq := mem_rg2.mp (by assumption); omega) | (have hq := mem_rg.mp (by assumption); omega) | ((try simp only [List.length_map, List.length_append, List.length_cons, List.length_nil, List.length_replicate, List.length_set, List.length_reverse, len_rg, len_rg2] at *); omega)))) (v_mul (by first | assumption | exact cat_ok hl | exact isSet_mem (by assumption) (by decide +kernel) | exact isSet_one (by omega) | exact isSet_lit (by decide +kernel) | exact ring57 _ | rfl | assumption | omega | decide | (simp only [List.mem_cons, List.not_mem_nil, or_false] at *; omega) | (have hq := mem_rg2.mp (by assumption); omega) | (have hq := mem_rg.mp (by assumption); omega) | ((try simp only [List.length_map, List.length_append, List.length_cons, List.length_nil, List.length_replicate, List.length_set, List.length_reverse, len_rg, len_rg2] at *); omega)))) v_add) (by first | rfl | exact put_j (Nat.le_of_ble_eq_true rfl) (by first | rfl | assumption | exact par_of_mut (by assumption))) ?_
    try dsimp only [List.set, over, reSet, List.getElem?_cons_zero, List.getElem?_cons_succ, Option.getD_some]
    refine sp_asg (pe_tup2 (e1 := (tupE PyData.int)) (e2 := (tupE PyData.int)) (pe_tup (pes_consE (ea := PyData.int) pe_con (pes_consE (ea := PyData.int) pe_con (pes_consE (ea := PyData.int) pe_con (pes_nilE (ea := PyData.int)))))) (pe_tup (pes_consE (ea := PyData.int) pe_con (pes_consE (ea := PyData.int) pe_con (pes_nilE (ea := PyData.int)))))) (by first | rfl | exact put_j2 (by decide) (Nat.le_of_ble_eq_true rfl) (Nat.le_of_ble_eq_true rfl) (by first | rfl | assumption | exact par_of_mut (by assumption)) (by first | rfl | assumption | exact par_of_mut (by assumption))) ?_
    try dsimp only [List.set, over, reSet, List.getElem?_cons_zero, List.getElem?_cons_succ, Option.getD_some]
    refine sp_ifF (pe_or (pe_not (pe_call (ds := [_, _]) (pas_var rfl (pas_var rfl pas_nil)) (by decide) (E_law_one_right _ _ (by first | assumption | exact cat_ok hl | exact isSet_mem (by assumption) (by decide +kernel) | exact isSet_one (by omega) | exact isSet_lit (by decide +kernel) | exact ring57 _ | rfl | assumption | omega | decide | (simp only [List.mem_cons, List.not_mem_nil, or_false] at *; omega) | (have hq := mem_rg2.mp (by assumption); omega) | (have hq := mem_rg.mp (by assumption); omega) | ((try simp only [List.length_map, List.length_append, List.length_cons, List.length_nil, List.length_replicate, List.length_set, List.length_reverse, len_rg, len_rg2] at *); omega)) (by first | assumption | exact cat_ok hl | exact isSet_mem (by assumption) (by decide +kernel) | exact isSet_one (by omega) | exact isSet_lit (by decide +kernel) | exact ring57 _ | rfl | assumption | omega | decide | (simp only [List.mem_cons, List.not_mem_nil, or_false] at *; omega) | (have hq := mem_rg2.mp (by assumption); omega) | (have hq := mem_rg.mp (by assumption); omega) | ((try simp only [List.length_map, List.length_append, List.length_cons, List.length_nil, List.length_replicate, List.length_set, List.length_reverse, len_rg, len_rg2] at *); omega)))) t_B) (fun hk6 => (pe_or (pe_not (pe_call (ds := [_, _, _]) (pas_var rfl (pas_var rfl (pas_var rfl pas_nil))) (by decide) (E_law_two_right _ _ _ (by first | assumption | exact cat_ok hl | exact isSet_mem (by assumption) (by decide +kernel) | exact isSet_one (by omega) | exact isSet_lit (by decide +kernel) | exact ring57 _ | rfl | assumption | omega | decide | (simp only [List.mem_cons, List.not_mem_nil, or_false] at *; omega) | (have hq := mem_rg2.mp (by assumption); omega) | (have hq := mem_rg.mp (by assumption); omega) | ((try simp only [List.length_map, List.length_append, List.length_cons, List.length_nil, List.length_replicate, List.length_set, List.length_reverse, len_rg, len_rg2] at *); omega)) (by first | assumption | exact cat_ok hl | exact isSet_mem (by assumption) (by decide +kernel) | exact isSet_one (by omega) | exact isSet_lit (by decide +kernel) | exact ring57 _ | rfl | assumption | omega | decide | (simp only [List.mem_cons, List.not_mem_nil, or_false] at *; omega) | (have hq := mem_rg2.mp (by assumption); omega) | (have hq := mem_rg.mp (by assumption); omega) | ((try simp only [List.length_map, List.length_append, List.length_cons, List.length_nil, List.length_replicate, List.length_set, List.length_reverse, len_rg, len_rg2] at *); omega)) (by first | assumption | exact cat_ok hl | exact isSet_mem (by assumption) (by decide +kernel) | exact isSet_one (by omega) | exact isSet_lit (by decide +kernel) | exact ring57 _ | rfl | assumption | omega | decide | (simp only [List.mem_cons, List.not_mem_nil, or_false] at *; omega) | (have hq := mem_rg2.mp (by assumption); omega) | (have hq := mem_rg.mp (by assumption); omega) | ((try simp only [List.length_map, List.length_append, List.length_cons, List.length_nil, List.length_replicate, List.length_set, List.length_reverse, len_rg, len_rg2] at *); omega)))) t_B) (fun hk5 => (pe_or1 (pe_not (pe_call (ds := [_]) (pas_var rfl pas_nil) (by decide) (E_law_sizes_right _ (by first | assumption | exact cat_ok hl | exact isSet_mem (by assumption) (by decide +kernel) | exact isSet_one (by omega) | exact isSet_lit (by decide +kernel) | exact ring57 _ | rfl | assumption | omega | decide | (simp only [List.mem_cons, List.not_mem_nil, or_false] at *; omega) | (have hq := mem_rg2.mp (by assumption); omega) | (have hq := mem_rg.mp (by assumption); omega) | ((try simp only [List.length_map, List.length_append, List.length_cons, List.length_nil, List.length_replicate, List.length_set, List.length_reverse, len_rg, len_rg2] at *); omega)))) t_B)))))) t_B ?_ ?_
    · first | rfl | decide | (simp [*]; done)
    refine sp_nil ?_
    exact (junkD_cons (by first | rfl | assumption) (junkD_cons (by first | rfl | assumption) (junkD_cons (by first | rfl | assumption) (junkD_cons (by first | rfl | assumption) (junkD_nil (junk_nil rfl))))))
  · rintro _ ⟨j7, hj7, j8, hj8, j9, hj9, j10, hj10, rfl⟩
    try dsimp only [List.set, over, reSet, List.getElem?_cons_zero, List.getElem?_cons_succ, Option.getD_some]
    refine sp_ret pe_con rfl ?_
    refine ⟨_, rfl, ?_, rfl, rfl⟩
    first | rfl | (simp [*]; done)

end TwL

set_option Elab.async false
set_option linter.all false
set_option maxRecDepth 100000
set_option maxHeartbeats 0
namespace TwL
open PySem PySem.Spec PyProof.Rows L2 Tw
def top (i : Nat) : Stmt := PySem.Challenge.pw_twosetsums_k84_called_by_their_names.main.body.getD i (.Pass ⟨0, 0, 0, 0⟩)
def mkD (g n : Str) (i : Nat) : He.DefD := ⟨(g, none), n, n, defArgs (top i), defBody (top i), defScope (top i), [], []⟩
def clsFn : Stmt → Stmt
  | .ClassDef _ _ _ b _ _ _ _ _ _ _ => b.getD 0 (.Pass ⟨0, 0, 0, 0⟩)
  | s => s
def mkI (C q : Str) (i : Nat) : He.DefD := ⟨(C, some "__init__"), "__init__", q, defArgs (clsFn (top i)), defBody (clsFn (top i)), defScope (clsFn (top i)), [], []⟩
def fn : List He.DefD := ([mkD "is_whole" "is_whole" 10, mkD "is_within" "is_within" 11, mkD "need_ring" "need_ring" 12, mkD "a_set" "a_set" 14, mkD "need_set" "need_set" 16, mkD "left_out" "left_out" 20, mkD "others" "others" 21, mkD "rests_set" "rests_set" 18, mkD "moved_by" "moved_by" 31, mkD "least_by" "least_by" 34, mkD "least_moved" "least_moved" 35, mkD "keepers_of" "keepers_of" 43, mkD "keepers" "keepers" 44, mkD "counts_by" "counts_by" 46, mkD "broken_by" "broken_by" 48, mkD "near_by" "near_by" 66, mkD "nearly" "nearly" 67, mkD "has_step" "has_step" 53, mkD "steps" "steps" 54, mkD "steps_of" "steps_of" 55, mkD "picks" "picks" 24, mkD "number_of" "number_of" 28, mkD "need_whole" "need_whole" 30, mkD "moved" "moved" 32, mkD "stretched" "stretched" 33, mkD "need_part" "need_part" 45, mkD "whole_by" "whole_by" 47, mkD "whole_parts" "whole_parts" 49, mkD "broken_parts" "broken_parts" 50, mkD "rests_by" "rests_by" 51] : List He.DefD) ++ ([mkD "split" "split" 68, mkD "is_set" "is_set" 15, mkD "set_of" "set_of" 19, mkD "_law_one_right" "_law_one_right" 89, mkD "need_two" "need_two" 17, mkD "move_to" "move_to" 36, mkD "all_sums" "all_sums" 22, mkD "fullest" "fullest" 85, mkD "third_for" "third_for" 86, mkD "fitting" "fitting" 38, mkD "filled_up" "filled_up" 39, mkD "filled" "filled" 40, mkD "is_filled" "is_filled" 41, mkD "need_prime" "need_prime" 57, mkD "need_asked" "need_asked" 58, mkD "fewest" "fewest" 59, mkD "more_than" "more_than" 60, mkD "kind_of" "kind_of" 61, mkD "is_free" "is_free" 87, mkD "told_holds" "told_holds" 63, mkD "alone_holds" "alone_holds" 62, mkD "kind_holds" "kind_holds" 64, mkD "_law_two_right" "_law_two_right" 90, mkD "need_number" "need_number" 13, mkD "need_sizes" "need_sizes" 74, mkD "set_at" "set_at" 26, mkD "all_sets" "all_sets" 73, mkD "sums_by" "sums_by" 75, mkD "table" "table" 76, mkD "fewest_of" "fewest_of" 77] : List He.DefD) ++ ([mkD "least_many" "least_many" 78, mkD "first_few" "first_few" 79, mkD "sets_many" "sets_many" 25, mkD "nth_set" "nth_set" 27, mkD "need_kind" "need_kind" 81, mkD "least_ones" "least_ones" 80, mkD "kinds_many" "kinds_many" 82, mkD "kinds" "kinds" 83, mkD "_law_sizes_right" "_law_sizes_right" 91, mkD "law" "law" 92] : List He.DefD)
def T : Tbl := ⟨(["len", "range", "tuple", "sorted", "set", "all", "zip", "isinstance", "int", "bool", "min", "list", "enumerate", "str"] : List Str), ([(0, "is_whole"), (1, "is_within"), (2, "need_ring"), (3, "a_set"), (4, "need_set"), (5, "left_out"), (6, "others"), (7, "rests_set"), (8, "moved_by"), (9, "least_by"), (10, "least_moved"), (11, "keepers_of"), (12, "keepers"), (13, "counts_by"), (14, "broken_by"), (15, "near_by"), (16, "nearly"), (17, "has_step"), (18, "steps"), (19, "steps_of"), (20, "picks"), (21, "number_of"), (22, "need_whole"), (23, "moved"), (24, "stretched"), (25, "need_part"), (26, "whole_by"), (27, "whole_parts"), (28, "broken_parts"), (29, "rests_by")] : List (Nat × Str)) ++ ([(30, "split"), (31, "is_set"), (32, "set_of"), (33, "_law_one_right"), (34, "need_two"), (35, "move_to"), (36, "all_sums"), (37, "fullest"), (38, "third_for"), (39, "fitting"), (40, "filled_up"), (41, "filled"), (42, "is_filled"), (43, "need_prime"), (44, "need_asked"), (45, "fewest"), (46, "more_than"), (47, "kind_of"), (48, "is_free"), (49, "told_holds"), (50, "alone_holds"), (51, "kind_holds"), (52, "_law_two_right"), (53, "need_number"), (54, "need_sizes"), (55, "set_at"), (56, "all_sets"), (57, "sums_by"), (58, "table"), (59, "fewest_of")] : List (Nat × Str)) ++ ([(60, "least_many"), (61, "first_few"), (62, "sets_many"), (63, "nth_set"), (64, "need_kind"), (65, "least_ones"), (66, "kinds_many"), (67, "kinds"), (68, "_law_sizes_right"), (69, "law")] : List (Nat × Str)), [("MOST_PLACES", .int 24), ("MOST_PAIRS", .int 8), ("MOST_KINDS", .int 12), ("MOST_LISTED", .int 100)], 70, [], false, ([("others", ["ring", "some"]), ("least_moved", ["ring", "some"]), ("keepers", ["ring", "some"]), ("nearly", ["ring", "some"]), ("steps_of", ["ring", "some"]), ("number_of", ["ring", "some"]), ("moved", ["ring", "some", "number"]), ("stretched", ["ring", "some", "number"]), ("whole_parts", ["ring", "some", "h"]), ("broken_parts", ["ring", "some", "h"]), ("rests_by", ["ring", "some", "h"]), ("split", ["ring", "some", "h"]), ("is_set", ["ring", "thing"]), ("set_of", ["ring", "things"]), ("move_to", ["ring", "one", "other"]), ("third_for", ["ring", "one", "other"]), ("filled", ["ring", "one", "other"]), ("is_filled", ["ring", "one", "other"]), ("kind_of", ["prime", "one", "other"]), ("is_free", ["ring", "one", "other", "third"]), ("kind_holds", ["prime", "one", "other", "thing"]), ("table", ["ring", "a", "b"]), ("least_many", ["ring", "a", "b"]), ("first_few", ["ring", "a", "b"]), ("sets_many", ["ring", "a"]), ("nth_set", ["ring", "a", "number"]), ("kinds_many", ["ring", "a"]), ("kinds", ["ring", "a"])] : List (Str × List Str))⟩
def nps : List NP := [(0, N.is_whole, N.is_whole.take 1), (1, N.is_within, N.is_within.take 3), (2, N.need_ring, N.need_ring.take 1), (3, N.a_set, N.a_set.take 2), (4, N.need_set, N.need_set.take 2), (5, N.left_out, N.left_out.take 2), (6, N.others, N.others.take 2), (7, N.rests_set, N.rests_set.take 2), (8, N.moved_by, N.moved_by.take 3), (9, N.least_by, N.least_by.take 2), (10, N.least_moved, N.least_moved.take 2), (11, N.keepers_of, N.keepers_of.take 2), (12, N.keepers, N.keepers.take 2), (13, N.counts_by, N.counts_by.take 2), (14, N.broken_by, N.broken_by.take 3), (15, N.near_by, N.near_by.take 2), (16, N.nearly, N.nearly.take 2), (17, N.has_step, N.has_step.take 3), (18, N.steps, N.steps.take 2), (19, N.steps_of, N.steps_of.take 2), (20, N.picks, N.picks.take 2), (21, N.number_of, N.number_of.take 2), (22, N.need_whole, N.need_whole.take 1), (23, N.moved, N.moved.take 3), (24, N.stretched, N.stretched.take 3), (25, N.need_part, N.need_part.take 2), (26, N.whole_by, N.whole_by.take 3), (27, N.whole_parts, N.whole_parts.take 3), (28, N.broken_parts, N.broken_parts.take 3), (29, N.rests_by, N.rests_by.take 3)] ++ [(30, N.split, N.split.take 3), (31, N.is_set, N.is_set.take 2), (32, N.set_of, N.set_of.take 2), (33, N.law_one_right, N.law_one_right.take 2), (34, N.need_two, N.need_two.take 3), (35, N.move_to, N.move_to.take 3), (36, N.all_sums, N.all_sums.take 3), (37, N.fullest, N.fullest.take 3), (38, N.third_for, N.third_for.take 3), (39, N.fitting, N.fitting.take 3), (40, N.filled_up, N.filled_up.take 3), (41, N.filled, N.filled.take 3), (42, N.is_filled, N.is_filled.take 3), (43, N.need_prime, N.need_prime.take 1), (44, N.need_asked, N.need_asked.take 3), (45, N.fewest, N.fewest.take 3), (46, N.more_than, N.more_than.take 3), (47, N.kind_of, N.kind_of.take 3), (48, N.is_free, N.is_free.take 4), (49, N.told_holds, N.told_holds.take 5), (50, N.alone_holds, N.alone_holds.take 4), (51, N.kind_holds, N.kind_holds.take 4), (52, N.law_two_right, N.law_two_right.take 3), (53, N.need_number, N.need_number.take 3), (54, N.need_sizes, N.need_sizes.take 3), (55, N.set_at, N.set_at.take 3), (56, N.all_sets, N.all_sets.take 2), (57, N.sums_by, N.sums_by.take 3), (58, N.table, N.table.take 3), (59, N.fewest_of, N.fewest_of.take 3)] ++ [(60, N.least_many, N.least_many.take 3), (61, N.first_few, N.first_few.take 3), (62, N.sets_many, N.sets_many.take 2), (63, N.nth_set, N.nth_set.take 3), (64, N.need_kind, N.need_kind.take 2), (65, N.least_ones, N.least_ones.take 2), (66, N.kinds_many, N.kinds_many.take 2), (67, N.kinds, N.kinds.take 2), (68, N.law_sizes_right, N.law_sizes_right.take 1), (69, N.law, N.law.take 1)]
abbrev fa : List He.Fa := faOf T fn
abbrev tf : List He.Defn := [("law", none), ("_law_sizes_right", none)]
theorem mdl : Mdl T tab fa fn nps := Mdl.of (by kernel_rfl) (by kernel_rfl) (by kernel_rfl)
theorem mdx : T.exc = true → MdlX fa fn := fun z => by cases z
theorem tfx : ∀ x ∈ lamNames, (∃ i ∈ T.lam, ∃ j, T.fns[i]? = some (j, x)) → ((x, none) : He.Defn) ∈ tf := by
  intro x hx ⟨i, hi, j, hj⟩
  exact absurd hi (by intro h; cases h)
end TwL

set_option Elab.async false
set_option linter.all false
set_option maxRecDepth 100000
set_option maxHeartbeats 0
namespace TwL
open PySem PySem.Spec PyProof.Rows L2 Tw
theorem law_true : ∀ ns : List Int, ns.length ≤ 63 → ∃ fr outs, run tab F.law [.val (.list (ns.map .int))] = .ok (.bool true) fr outs := fun ns h => ⟨_, _, E_law ns h⟩
abbrev R : PySem.W.OpenRow := PySem.W.OpenLaw.row PySem.Challenge.rw_twosetsums_k84_called_by_their_names
abbrev hk : PySem.W.Hook := hookY 5 fa fn tf (exK T tf)
def ob (s : PySem.W.SharedT) : He.AlX := obsY 5 fa fn tf (exK T tf) (HandSHeadRun.getT s)
theorem ob_eq (s : PySem.W.SharedT) : ob s = hk.obs s.abs := obsY_eq (HandSHeadRun.getT_eq s)
def loose : List Str := (["RingError", "NoRing", "NoPrime", "NoSet", "NoNumber", "Apart", "TooGreat", "MOST_PLACES", "is_whole", "is_within", "need_ring", "need_number", "a_set", "is_set", "need_set", "need_two", "rests_set", "set_of", "left_out", "others", "all_sums", "picks", "sets_many", "set_at", "nth_set", "number_of", "need_whole", "moved_by", "moved", "stretched"] : List Str) ++ (["least_by", "least_moved", "move_to", "fitting", "filled_up", "filled", "is_filled", "keepers_of", "keepers", "need_part", "counts_by", "whole_by", "broken_by", "whole_parts", "broken_parts", "rests_by", "has_step", "steps", "steps_of", "need_prime", "need_asked", "fewest", "more_than", "kind_of", "alone_holds", "told_holds", "kind_holds", "near_by", "nearly", "split"] : List Str) ++ (["MOST_PAIRS", "MOST_KINDS", "MOST_LISTED", "all_sets", "need_sizes", "sums_by", "table", "fewest_of", "least_many", "first_few", "least_ones", "need_kind", "kinds_many", "kinds", "fullest", "third_for", "is_free", "_law_one_right", "_law_two_right", "_law_sizes_right"] : List Str)
theorem run_eq (w : World) : HandSHeadRun.RunEq R (PySem.W.view R.prog [92]) hk ob 4000 loose w := by
  intro os
  kernel_rfl
end TwL
open PySem PySem.W PySem.Calls PyProof.Rows
theorem PySem.Challenge.cw_twosetsums_k84_called_by_their_names_holds : PySem.Challenge.rw_twosetsums_k84_called_by_their_names.Holds := by
  w_on; o_law
  refine HandSHeadRun.head_any (r := OpenLaw.row PySem.Challenge.rw_twosetsums_k84_called_by_their_names) (q := view (OpenLaw.row PySem.Challenge.rw_twosetsums_k84_called_by_their_names).prog [92]) (H := TwL.hk) (ob := TwL.ob) (M := 4000) (loose := TwL.loose) (d := HandSHeadRun.topDef (OpenLaw.row PySem.Challenge.rw_twosetsums_k84_called_by_their_names).prog 92) (kwd := []) TwL.ob_eq
    (by kernel_rfl) (fun s => by kernel_rfl) TwL.run_eq (by kernel_rfl) (by kernel_rfl) (by kernel_rfl) (by rfl) (by first | assumption | decide +kernel) (by decide +kernel) ⟨rfl, rfl, rfl, rfl, rfl, by decide +kernel⟩ ?hw ?hc
  case hw => w_witness2
  case hc =>
    refine Tw.walk_X (l := PySem.Challenge.rw_twosetsums_k84_called_by_their_names) (p := TwL.F.law) (id := TwL.F.law) TwL.mdl TwL.mdx (by exact fun z => absurd rfl z) TwL.tfx rfl (by decide) (by kernel_rfl) ⟨rfl, by decide, by decide⟩ ?_ rfl TwL.law_true
    have e : (HandSHeadRun.topDef (OpenLaw.row PySem.Challenge.rw_twosetsums_k84_called_by_their_names).prog 92).name = ("law" : PySem.Str) := by kernel_rfl
    rw [e]
    kernel_rfl
