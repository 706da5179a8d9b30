import PyProof.Rows.All
import Wide.All
import OpenK.AllK
import Wide.FinOn
import PyProof.Lay0
import PyProof.P3Statements
import PyProof.EqLayable
import HandS.ForMost
import HandS.Exc
import HandS.ExcOwn
import HandS.TryOnly
import HandS.TryMany
import HandS.TupAny
import HandS.TupMul
import HandS.Deep
import HandS.IsInst
import HandS.Zip
import HandS.Flow
import HandS.Wide
import HandS.Defaults
import HandS.HeadHook1
import HandS.HeadHook2
import KE.KTupSum
import HandS.Dict
import HandS.Text
import HandS.Strs
import HandS.List
import KE.KDictZip
import KE.GoesMore
import PyProof.ListNew
import HandS.Style
import HandS.Ends
import HandS.Codes
import HandS.HeadEnd
import KE.KStateDown
import Lean
import HandS.More
import HandS.Words
import HandS.WordsExc
import HandS.Head0
import HandS.Head1
import HandS.Head2
import PySem.Challenge.RW_judgedranks_k07_whole_bounds
import PyProof.P3Eq
section JCore
set_option Elab.async false
set_option linter.all false
set_option maxRecDepth 100000
set_option autoImplicit false
/-! J.Core: a core syntax of Python (no positions) and its pure reading over data. -/
namespace J
open PySem
abbrev D := PyData
/-- what a name holds: a datum, or a cell (a list that is changed) -/
inductive PV where
  | d (x : D)
  | cell (n : Nat)
  /-- a tuple whose object is known -/
  | k (x : D)
/-- what stands in a cell -/
inductive Cl where
  | dead
  | lst (xs : List D)
abbrev PH := List Cl
abbrev PEnv := List (Option PV)
inductive Rs (α : Type) where
  | ok (a : α) (h : PH)
  | exc (c : String) (h : PH)
  | stuck
def Rs.bind {α β : Type} (r : Rs α) (f : α → PH → Rs β) : Rs β := match r with
  | .ok a h => f a h
  | .exc c h => .exc c h
  | .stuck => .stuck
/-- within a comprehension nothing may be raised -/
def Rs.calm {α : Type} (r : Rs α) : Rs α := match r with
  | .ok a h => .ok a h
  | _ => .stuck
/-- a datum read at once (a cell is looked into) -/
def val (h : PH) : PV → Option D
  | .d x => some x
  | .k x => some x
  | .cell n => match h[n]? with
    | some (.lst xs) => some (.list xs)
    | _ => none
def isNoneV : PV → Bool
  | .d .none => true
  | _ => false
/-! ### the syntax -/
inductive Lit where | non | bl (b : Bool) | int (i : Int) | str (s : String)
def Lit.dat : Lit → D
  | .non => .none
  | .bl b => .bool b
  | .int i => .int i
  | .str s => .str (Str.ofString s)
inductive Bin where | add | sub | mul | fdiv | mod
inductive Cmp where | eq | ne | lt | le | gt | ge | in_ | nin
inductive Ty where | int | bool | str | tuple | list
inductive Blt where | len | all | any | sum | max | min | abs | tuple | list | int | str | sorted | lenset | sortedset | dict
inductive B2 where | dzip | lzip
inductive Mth where | index | count | join | split | tindex
/-- targets: a name's slot; a tuple of targets -/
inductive Tg where
  | nm (i : Nat)
  | tup (ts : List Tg)
mutual
inductive CE where
  | var (i : Nat)
  /-- a name whose cell is given up: its list is a datum from now on -/
  | frz (i : Nat)
  /-- a name as it is -/
  | kvar (i : Nat)
  /-- tuple(list), the object known -/
  | ktup (a : CE)
  | b2 (f : B2) (a b : CE)
  | lit (x : Lit)
  | tup (es : CA)
  | lst (es : CA)
  | bin (o : Bin) (a b : CE)
  | neg (a : CE)
  | not (a : CE)
  | cmp (o : Cmp) (a b : CE)
  | chain (o o' : Cmp) (a b c : CE)
  | isn (a : CE)
  | notn (a : CE)
  | and (a b : CE)
  | or (a b : CE)
  | ife (c a b : CE)
  | ix (a b : CE)
  | sl (a : CE) (lo hi : CO)
  | rev (a : CE)
  | blt (f : Blt) (a : CE)
  | min2 (a b : CE)
  | isi (a : CE) (t : Ty)
  | mth (m : Mth) (a b : CE)
  | pop (i : Nat) (a : CE)
  | call (f : String) (as : CA)
  | lc (it : CI) (t : Tg) (c e : CE) (own : List Nat)
  | lc2 (it : CI) (t : Tg) (c : CE) (it1 : CI) (t1 : Tg) (c1 e : CE) (own own1 : List Nat)
inductive CA where
  | nil
  | cons (a : CE) (as : CA)
inductive CO where
  | no
  | so (a : CE)
inductive CI where
  | seq (a : CE)
  | rng (a : CE)
  | rng2 (a b : CE)
  | zip (a b : CE)
  | enum (a : CE)
end
mutual
inductive CS where
  | asg (i : Nat) (e : CE)
  /-- a tuple is taken apart -/
  | asgT (t : Tg) (e : CE)
  /-- a name bound to a new list that is changed later -/
  | asgC (i : Nat) (e : CE)
  /-- names bound in parallel; true: a new cell -/
  | par (is : List (Nat × Bool)) (es : CA)
  | aug (i : Nat) (e : CE)
  | expr (e : CE)
  | app (i : Nat) (e : CE)
  | put (i : Nat) (k e : CE)
  | ret (e : CE)
  | ite (c : CE) (a b : CB)
  | for_ (it : CI) (t : Tg) (b : CB)
  | whl (c : CE) (b : CB)
  | raise (c : String)
  | try_ (e : CE) (hs : List (String × Lit))
  | pass
inductive CB where
  | nil
  | cons (s : CS) (b : CB)
end
structure CDef where
  params : Nat
  slots : Nat
  body : CB
/-! ### values -/
def lineN : Nat := 16777216
def strLt (a b : Str) : Bool := decide (a.cps.toList < b.cps.toList)
def mulOk (i j : Int) : Bool := decide (i.natAbs.log2 + j.natAbs.log2 < 1000000)
def divOk (j : Int) : Bool := decide (0 < j) && decide (j.natAbs.log2 < 9000)
def binD : Bin → D → D → Option D
  | .add, .int a, .int b => some (.int (a + b))
  | .add, .str a, .str b => if a.length + b.length ≤ lineN then some (.str (a ++ b)) else none
  | .add, .tuple a, .tuple b => if a.length + b.length ≤ lineN then some (.tuple (a ++ b)) else none
  | .add, .list a, .list b => if a.length + b.length ≤ lineN then some (.list (a ++ b)) else none
  | .sub, .int a, .int b => some (.int (a - b))
  | .mul, .int a, .int b => if mulOk a b then some (.int (a * b)) else none
  | .mul, .list xs, .int k => if 0 ≤ k ∧ k < 1000 ∧ xs.length ≤ 1000 then some (.list (List.replicate k.toNat xs).flatten) else none
  | .mul, .tuple xs, .int k => if xs ≠ [] ∧ 1 ≤ k ∧ k ≤ 1000 ∧ xs.length ≤ 1000 then some (.tuple (List.replicate k.toNat xs).flatten) else none
  | .fdiv, .int a, .int b => if divOk b then some (.int (a / b)) else none
  | .mod, .int a, .int b => if 0 < b then some (.int (a % b)) else none
  | .add, .bool a, .int b => some (.int ((if a = true then 1 else 0) + b))
  | .sub, .bool a, .int b => some (.int ((if a = true then 1 else 0) - b))
  | _, _, _ => none
def flatD : D → Bool
  | .none | .bool _ | .int _ | .str _ => true
  | _ => false
def isKey : D → Bool
  | .int _ | .str _ => true
  | _ => false
def keyEq : D → D → Bool
  | .int a, .int b => decide (a = b)
  | .str a, .str b => decide (a = b)
  | _, _ => false
def dget (kvs : List (D × D)) (k : D) : Option D := (kvs.find? fun p => keyEq p.1 k).map (·.2)
def dput (kvs : List (D × D)) (k v : D) : List (D × D) := if (kvs.any fun p => keyEq p.1 k) = true then kvs.map (fun p => if keyEq p.1 k = true then (p.1, v) else p) else kvs ++ [(k, v)]
def dictOf (ps : List (D × D)) : List (D × D) := ps.foldl (fun acc p => dput acc p.1 p.2) []
def cmpD : Cmp → D → D → Option Bool
  | .eq, a, b => if SeqAt.shaped a && SeqAt.shaped b then some (PyData.eqv a b) else none
  | .ne, a, b => if SeqAt.shaped a && SeqAt.shaped b then some (!PyData.eqv a b) else none
  | .lt, .int a, .int b => some (decide (a < b))
  | .lt, .str a, .str b => some (strLt a b)
  | .le, .int a, .int b => some (decide (a ≤ b))
  | .le, .str a, .str b => some (!strLt b a)
  | .gt, .int a, .int b => some (decide (b < a))
  | .gt, .str a, .str b => some (strLt b a)
  | .ge, .int a, .int b => some (decide (b ≤ a))
  | .ge, .str a, .str b => some (!strLt a b)
  | .in_, x, .list ys => if SeqAt.shaped x && SeqAt.shaped (.list ys) then some (ys.any fun z => PyData.eqv z x) else none
  | .in_, x, .tuple ys => if flatD x && ys.all flatD then some (ys.any fun z => PyData.eqv z x) else none
  | .nin, x, .list ys => if SeqAt.shaped x && SeqAt.shaped (.list ys) then some (!ys.any fun z => PyData.eqv z x) else none
  | .nin, x, .tuple ys => if flatD x && ys.all flatD then some (!ys.any fun z => PyData.eqv z x) else none
  | .in_, x, .dict kvs => if isKey x then some (dget kvs x).isSome else none
  | .nin, x, .dict kvs => if isKey x then some (!(dget kvs x).isSome) else none
  | _, _, _ => none
def truD : D → Option Bool
  | .none => some false
  | .bool b => some b
  | .int i => some (i != 0)
  | .str x => if x.length ≤ lineN then some (x.length != 0) else none
  | .list xs => some (!xs.isEmpty)
  | .tuple xs => some (!xs.isEmpty)
  | .dict _ => none
/-- the place that an index of any sign means -/
def ixN (n : Nat) (i : Int) : Option Nat := if 0 ≤ i then (if i < n then some i.toNat else none) else if -(n : Int) ≤ i then some (i + n).toNat else none
def atI {α : Type} (xs : List α) (i : Int) : Option α := (ixN xs.length i).bind fun j => xs[j]?
def ixD : D → D → Option D
  | .dict kvs, k => if isKey k then dget kvs k else none
  | .list xs, .int i => atI xs i
  | .tuple xs, .int i => atI xs i
  | .str z, .int i => if z.length ≤ lineN then (atI z.cps.toList i).map fun c => .str ⟨#[c]⟩ else none
  | _, _ => none
/-- a slice's bound as a place among n (d where it is left out) -/
def sIx (n d : Nat) : Option Int → Nat
  | none => d
  | some v => if v < 0 then (v + (n : Int)).toNat else min v.toNat n
def cut {α : Type} (xs : List α) (lo hi : Option Int) : List α := (xs.drop (sIx xs.length 0 lo)).take (sIx xs.length xs.length hi - sIx xs.length 0 lo)
def slD : D → Option Int → Option Int → Option D
  | .list xs, lo, hi => some (.list (cut xs lo hi))
  | .tuple xs, lo, hi => some (.tuple (cut xs lo hi))
  | _, _, _ => none
def revD : D → Option D
  | .tuple xs => some (.tuple xs.reverse)
  | _ => none
def boolsOf : List D → Option (List Bool)
  | [] => some []
  | .bool b :: r => (boolsOf r).map (b :: ·)
  | _ => none
def intsOf : List D → Option (List Int)
  | [] => some []
  | .int b :: r => (intsOf r).map (b :: ·)
  | _ => none
def strsOf : List D → Option (List Str)
  | [] => some []
  | .str b :: r => (strsOf r).map (b :: ·)
  | _ => none
def maxI : List Int → Option Int
  | [] => none
  | [a] => some a
  | a :: r => (maxI r).map fun m => if m ≤ a then a else m
def minI : List Int → Option Int
  | [] => none
  | [a] => some a
  | a :: r => (minI r).map fun m => if a ≤ m then a else m
/-- a text into a sorted list -/
def insS (x : Str) : List Str → List Str
  | [] => [x]
  | y :: r => if strLt y x then y :: insS x r else x :: y :: r
def sortS : List Str → List Str
  | [] => []
  | x :: r => insS x (sortS r)
/-- one key more, where it is new -/
def addU {κ : Type} [DecidableEq κ] (acc : List κ) (k : κ) : List κ := if k ∈ acc then acc else acc ++ [k]
/-- each key once -/
def uniq {κ : Type} [DecidableEq κ] (ks : List κ) : List κ := ks.foldl addU []
/-- pairs with keys -/
def pairsOf : List D → Option (List (D × D))
  | [] => some []
  | .tuple [k, v] :: r => if isKey k then (pairsOf r).map ((k, v) :: ·) else none
  | _ => none
def bltD : Blt → D → Option D
  | .len, .list xs => some (.int xs.length)
  | .len, .tuple xs => some (.int xs.length)
  | .len, .str x => if x.length ≤ lineN then some (.int x.length) else none
  | .all, .list xs => (boolsOf xs).map fun bs => .bool (bs.all id)
  | .any, .list xs => (boolsOf xs).map fun bs => .bool (bs.any id)
  | .sum, .list xs => (intsOf xs).map fun ns => .int ns.sum
  | .sum, .tuple xs => (intsOf xs).map fun ns => .int ns.sum
  | .max, .list xs => ((intsOf xs).bind maxI).map .int
  | .min, .list xs => ((intsOf xs).bind minI).map .int
  | .abs, .int i => some (.int (if i < 0 then -i else i))
  | .tuple, .list xs => some (.tuple xs)
  | .tuple, .tuple xs => some (.tuple xs)
  | .list, .list xs => some (.list xs)
  | .list, .tuple xs => some (.list xs)
  | .int, .int i => some (.int i)
  | .int, .bool b => some (.int (if b then 1 else 0))
  | .str, .int i => if i.natAbs.log2 < 1920 then some (.str (toString i)) else none
  | .lenset, .tuple xs => (strsOf xs).bind fun ss => if ss.length < 4000 then some (.int (uniq ss).length) else none
  | .str, .bool b => some (.str (if b = true then Str.ofString "True" else Str.ofString "False"))
  | .dict, .list xs => (pairsOf xs).map fun ps => .dict (dictOf ps)
  | .sorted, .list xs => (strsOf xs).bind fun ss => if ss.length < 64 then some (.list ((sortS ss).map .str)) else none
  | _, _ => none
def isiD : D → Ty → Bool
  | .bool _, .int => true
  | .bool _, .bool => true
  | .int _, .int => true
  | .str _, .str => true
  | .tuple _, .tuple => true
  | .list _, .list => true
  | _, _ => false
/-! ### the reading -/
mutual
def assignD : Tg → D → PEnv → Option PEnv
  | .nm i, x, σ => some (σ.set i (some (.d x)))
  | .tup ts, .tuple xs, σ => assignDs ts xs σ
  | .tup _, _, _ => none
def assignDs : List Tg → List D → PEnv → Option PEnv
  | [], [], σ => some σ
  | t :: ts, x :: xs, σ => (assignD t x σ).bind fun σ' => assignDs ts xs σ'
  | _, _, _ => none
end
def wipeP (σ : PEnv) : List Nat → PEnv
  | [] => σ
  | v :: vs => (wipeP σ vs).set v none
/-- a comprehension's turns: f makes the value of a turn, or nothing where the test fails -/
def compL (f : D → PH → Rs (Option D)) : List D → PH → Rs (List D)
  | [], h => .ok [] h
  | x :: xs, h => (f x h).bind fun o h1 => (compL f xs h1).bind fun r h2 => .ok (match o with | some y => y :: r | none => r) h2
def compLL (f : D → PH → Rs (List D)) : List D → PH → Rs (List D)
  | [], h => .ok [] h
  | x :: xs, h => (f x h).bind fun o h1 => (compLL f xs h1).bind fun r h2 => .ok (o ++ r) h2
def rangeD (lo : Int) : Nat → List D
  | 0 => []
  | n + 1 => .int lo :: rangeD (lo + 1) n
def zipD : List D → List D → List D
  | x :: xs, y :: ys => .tuple [x, y] :: zipD xs ys
  | _, _ => []
def enumD (i : Int) : List D → List D
  | [] => []
  | x :: xs => .tuple [.int i, x] :: enumD (i + 1) xs
def b2D : B2 → D → D → Option D
  | .dzip, .tuple xs, .tuple ys => if xs.all isKey then some (.dict (dictOf (xs.zip ys))) else none
  | .lzip, .tuple xs, .tuple ys => some (.list (zipD xs ys))
  | _, _, _ => none
def seqItems : D → Option (List D)
  | .list xs => some xs
  | .tuple xs => some xs
  | .str z => some (z.cps.toList.map fun c => .str ⟨#[c]⟩)
  | _ => none
def ofO {α : Type} (o : Option α) (h : PH) : Rs α := match o with
  | some a => .ok a h
  | none => .stuck
def isC (h : PH) (n : Nat) : Bool := match h[n]? with
  | some (.lst _) => true
  | _ => false
def popAt (n : Nat) (x : PV) (h : PH) : Rs PV := match x, h[n]? with
  | .d (.int k), some (.lst xs) => if -9223372036854775808 ≤ k ∧ k < 9223372036854775808 then (match ixN xs.length k with
    | some j => (match xs[j]? with
      | some y => .ok (.d y) (h.set n (.lst (xs.eraseIdx j)))
      | none => .stuck)
    | none => .stuck) else .stuck
  | _, _ => .stuck
def appAt (n : Nat) (x : PV) (h : PH) : Rs Unit := match x, h[n]? with
  | .d x, some (.lst xs) => if xs.length < lineN then .ok () (h.set n (.lst (xs ++ [x]))) else .stuck
  | _, _ => .stuck
def putAt (n : Nat) (k x : PV) (h : PH) : Rs Unit := match x, k, h[n]? with
  | .d x, .d (.int j), some (.lst xs) => (match ixN xs.length j with
    | some j => .ok () (h.set n (.lst (xs.set j x)))
    | none => .stuck)
  | _, _, _ => .stuck
/-- one turn of a comprehension -/
def compF (t : Tg) (own : List Nat) (mc me : PEnv → PH → Rs PV) (σ : PEnv) (x : D) (h : PH) : Rs (Option D) :=
  (ofO (assignD t x (wipeP σ own)) h).bind fun σ2 h2 => (mc σ2 h2).calm.bind fun k h3 => (ofO ((val h3 k).bind truD) h3).bind fun k h3 => match k with
    | true => (me σ2 h3).calm.bind fun y h4 => (match y with
      | .d y => .ok (some y) h4
      | _ => .stuck)
    | false => .ok none h3
/-- one turn of the outer for -/
def compF2 (t : Tg) (own : List Nat) (mc : PEnv → PH → Rs PV) (mi1 : PEnv → PH → Rs (List D)) (f1 : PEnv → D → PH → Rs (Option D)) (σ : PEnv) (x : D) (h : PH) : Rs (List D) :=
  (ofO (assignD t x (wipeP σ own)) h).bind fun σ2 h2 => (mc σ2 h2).calm.bind fun k h3 => (ofO ((val h3 k).bind truD) h3).bind fun k h3 => match k with
    | true => (mi1 σ2 h3).calm.bind fun xs1 h4 => compL (f1 σ2) xs1 h4
    | false => .ok [] h3
def isLst : Option D → Bool
  | some (.list _) => true
  | _ => false
def mthR : Mth → PH → PV → Bool
  | .tindex, _, .k (.tuple _) => true
  | .index, h, x => isLst (val h x)
  | .join, _, .d (.str _) => true
  | _, _, _ => false
def joinD (a : Str) (xs : List D) : Option D := (strsOf xs).bind fun ss => if (ss.map (·.length)).sum + ss.length * a.length ≤ 16777216 then some (.str (Str.join a ss)) else none
def mthD : Mth → D → D → Option D
  | .index, .list xs, y => if flatD y && xs.all flatD then (xs.findIdx? fun z => PyData.eqv z y).map fun j => .int (j : Nat) else none
  | .tindex, .tuple xs, .str y => (strsOf xs).bind fun ss => (ss.findIdx? fun z => decide (z = y)).map fun j => .int (j : Nat)
  | .join, .str a, .list xs => joinD a xs
  | .join, .str a, .tuple xs => joinD a xs
  | _, _, _ => none
abbrev Fns := String → List PV → PH → Rs PV
mutual
def ev (Γ : Fns) : CE → PEnv → PH → Rs PV
  | .var i, σ, h => match σ[i]? with
    | some (some (.k x)) => .ok (.d x) h
    | some (some v) => .ok v h
    | _ => .stuck
  | .frz i, σ, h => match σ[i]? with
    | some (some (.cell n)) => (match h[n]? with
      | some (.lst xs) => .ok (.d (.list xs)) (h.set n .dead)
      | _ => .stuck)
    | _ => .stuck
  | .lit x, _, h => .ok (.d x.dat) h
  | .tup es, σ, h => (evD Γ es σ h).bind fun xs h1 => if xs.length ≤ lineN then .ok (.d (.tuple xs)) h1 else .stuck
  | .lst es, σ, h => (evD Γ es σ h).bind fun xs h1 => if xs.length ≤ lineN then .ok (.d (.list xs)) h1 else .stuck
  | .bin o a b, σ, h => (ev Γ a σ h).bind fun x h1 => (ev Γ b σ h1).bind fun y h2 => ofO ((val h2 x).bind fun x => (val h2 y).bind fun y => (binD o x y).map .d) h2
  | .neg a, σ, h => (ev Γ a σ h).bind fun x h1 => match x with
    | .d (.int i) => .ok (.d (.int (-i))) h1
    | _ => .stuck
  | .not a, σ, h => (ev Γ a σ h).bind fun x h1 => ofO ((val h1 x).bind fun x => (truD x).map fun b => .d (.bool (!b))) h1
  | .cmp o a b, σ, h => (ev Γ a σ h).bind fun x h1 => (ev Γ b σ h1).bind fun y h2 => ofO ((val h2 x).bind fun x => (val h2 y).bind fun y => (cmpD o x y).map fun b => .d (.bool b)) h2
  | .chain o o' a b c, σ, h => (ev Γ a σ h).bind fun x h1 => (ev Γ b σ h1).bind fun y h2 => (ofO ((val h2 x).bind fun x => (val h2 y).bind fun y => cmpD o x y) h2).bind fun k h3 =>
      match k with
      | true => (ev Γ c σ h3).bind fun z h4 => ofO ((val h4 y).bind fun y => (val h4 z).bind fun z => (cmpD o' y z).map fun b => .d (.bool b)) h4
      | false => .ok (.d (.bool false)) h3
  | .isn a, σ, h => (ev Γ a σ h).bind fun x h1 => .ok (.d (.bool (isNoneV x))) h1
  | .notn a, σ, h => (ev Γ a σ h).bind fun x h1 => .ok (.d (.bool (!isNoneV x))) h1
  | .and a b, σ, h => (ev Γ a σ h).bind fun x h1 => (ofO ((val h1 x).bind truD) h1).bind fun k h2 => match k with
      | true => ev Γ b σ h2
      | false => .ok x h2
  | .or a b, σ, h => (ev Γ a σ h).bind fun x h1 => (ofO ((val h1 x).bind truD) h1).bind fun k h2 => match k with
      | true => .ok x h2
      | false => ev Γ b σ h2
  | .ife c a b, σ, h => (ev Γ c σ h).bind fun x h1 => (ofO ((val h1 x).bind truD) h1).bind fun k h2 => match k with
      | true => ev Γ a σ h2
      | false => ev Γ b σ h2
  | .ix a b, σ, h => (ev Γ a σ h).bind fun x h1 => (ev Γ b σ h1).bind fun y h2 => ofO ((val h2 x).bind fun x => (val h2 y).bind fun y => (ixD x y).map .d) h2
  | .sl a lo hi, σ, h => (ev Γ a σ h).bind fun x h1 => (evO Γ lo σ h1).bind fun l h2 => (evO Γ hi σ h2).bind fun u h3 => ofO ((val h3 x).bind fun x => (slD x l u).map .d) h3
  | .rev a, σ, h => (ev Γ a σ h).bind fun x h1 => ofO ((val h1 x).bind fun x => (revD x).map .d) h1
  | .blt f a, σ, h => (ev Γ a σ h).bind fun x h1 => ofO ((val h1 x).bind fun x => (bltD f x).map .d) h1
  | .min2 a b, σ, h => (ev Γ a σ h).bind fun x h1 => (ev Γ b σ h1).bind fun y h2 => match x, y with
    | .d (.int i), .d (.int j) => .ok (.d (.int (if j < i then j else i))) h2
    | _, _ => .stuck
  | .isi a t, σ, h => (ev Γ a σ h).bind fun x h1 => ofO ((val h1 x).map fun x => .d (.bool (isiD x t))) h1
  | .mth m a b, σ, h => (ev Γ a σ h).bind fun x h1 => if mthR m h1 x then (ev Γ b σ h1).bind fun y h2 => ofO ((val h2 x).bind fun x => (val h2 y).bind fun y => (mthD m x y).map .d) h2 else .stuck
  | .pop i a, σ, h => match σ[i]? with
    | some (some (.cell n)) => if isC h n then (ev Γ a σ h).bind fun x h1 => popAt n x h1 else .stuck
    | _ => .stuck
  | .call f as, σ, h => (evA Γ as σ h).bind fun vs h1 => Γ f vs h1
  | .lc it t c e own, σ, h => (evI Γ it σ h).bind fun xs h1 => if xs.length ≤ lineN then (compL (compF t own (fun σ h => ev Γ c σ h) (fun σ h => ev Γ e σ h) σ) xs h1).bind fun r h2 => .ok (.d (.list r)) h2 else .stuck
  | .lc2 it t c it1 t1 c1 e own own1, σ, h => (evI Γ it σ h).bind fun xs h1 => (compLL (compF2 t own (fun σ h => ev Γ c σ h) (fun σ h => evI Γ it1 σ h) (fun σ2 => compF t1 own1 (fun σ h => ev Γ c1 σ h) (fun σ h => ev Γ e σ h) σ2) σ) xs h1).bind fun r h2 => if r.length ≤ lineN then .ok (.d (.list r)) h2 else .stuck
  | .kvar i, σ, h => match σ[i]? with
    | some (some v) => .ok v h
    | _ => .stuck
  | .ktup a, σ, h => (ev Γ a σ h).bind fun x h1 => match val h1 x with
    | some (.list xs) => .ok (.k (.tuple xs)) h1
    | _ => .stuck
  | .b2 f a b, σ, h => (ev Γ a σ h).bind fun x h1 => (ev Γ b σ h1).bind fun y h2 => ofO ((val h2 x).bind fun x => (val h2 y).bind fun y => (b2D f x y).map .d) h2
def evA (Γ : Fns) : CA → PEnv → PH → Rs (List PV)
  | .nil, _, h => .ok [] h
  | .cons a as, σ, h => (ev Γ a σ h).bind fun x h1 => (evA Γ as σ h1).bind fun xs h2 => .ok (x :: xs) h2
/-- items of a display: data alone -/
def evD (Γ : Fns) : CA → PEnv → PH → Rs (List D)
  | .nil, _, h => .ok [] h
  | .cons a as, σ, h => (ev Γ a σ h).bind fun x h1 => match x with
    | .d x => (evD Γ as σ h1).bind fun xs h2 => .ok (x :: xs) h2
    | _ => .stuck
def evO (Γ : Fns) : CO → PEnv → PH → Rs (Option Int)
  | .no, _, h => .ok none h
  | .so a, σ, h => (ev Γ a σ h).bind fun x h1 => match x with
    | .d (.int i) => .ok (some i) h1
    | _ => .stuck
def evI (Γ : Fns) : CI → PEnv → PH → Rs (List D)
  | .seq a, σ, h => (ev Γ a σ h).bind fun x h1 => match x with
    | .d x => ofO (seqItems x) h1
    | _ => .stuck
  | .rng a, σ, h => (ev Γ a σ h).bind fun x h1 => match x with
    | .d (.int j) => if -(2 ^ 62) ≤ j ∧ j < 2 ^ 62 then .ok (rangeD 0 j.toNat) h1 else .stuck
    | _ => .stuck
  | .rng2 a b, σ, h => (ev Γ a σ h).bind fun x h1 => (ev Γ b σ h1).bind fun y h2 => match x, y with
    | .d (.int i), .d (.int j) => if -(2 ^ 62) ≤ i ∧ i < 2 ^ 62 ∧ -(2 ^ 62) ≤ j ∧ j < 2 ^ 62 then .ok (rangeD i (j - i).toNat) h2 else .stuck
    | _, _ => .stuck
  | .zip a b, σ, h => (ev Γ a σ h).bind fun x h1 => (ev Γ b σ h1).bind fun y h2 => match x, y with
    | .d (.tuple xs), .d (.tuple ys) => .ok (zipD xs ys) h2
    | .d (.list xs), .d (.list ys) => .ok (zipD xs ys) h2
    | _, _ => .stuck
  | .enum a, σ, h => (ev Γ a σ h).bind fun x h1 => match x with
    | .d (.list xs) => .ok (enumD 0 xs) h1
    | _ => .stuck
end
/-- how a statement ends -/
inductive Fl where
  | nx (σ : PEnv)
  | rt (v : PV)
def forL (f : D → PEnv → PH → Rs Fl) : List D → PEnv → PH → Rs Fl
  | [], σ, h => .ok (.nx σ) h
  | x :: xs, σ, h => (f x σ h).bind fun r h1 => match r with
    | .nx σ' => forL f xs σ' h1
    | .rt v => .ok (.rt v) h1
/-- turns of a while: at most so many -/
def whlL (c : PEnv → PH → Rs Bool) (f : PEnv → PH → Rs Fl) : Nat → PEnv → PH → Rs Fl
  | 0, _, _ => .stuck
  | n + 1, σ, h => (c σ h).bind fun k h1 => match k with
    | true => (f σ h1).bind fun r h2 => (match r with
      | .nx σ' => whlL c f n σ' h2
      | .rt v => .ok (.rt v) h2)
    | false => .ok (.nx σ) h1
def whlMost : Nat := 2 ^ 64
/-- a new list becomes a cell -/
def toCell (x : PV) (h : PH) : Rs PV := match x with
  | .d (.list xs) => .ok (.cell h.length) (h ++ [.lst xs])
  | _ => .stuck
/-- expressions side by side; true: a new list, made a cell at once -/
def evP (Γ : Fns) : List (Nat × Bool) → CA → PEnv → PH → Rs (List PV)
  | [], .nil, _, h => .ok [] h
  | (_, false) :: is, .cons a as, σ, h => (ev Γ a σ h).bind fun x h1 => (evP Γ is as σ h1).bind fun xs h2 => .ok (x :: xs) h2
  | (_, true) :: is, .cons a as, σ, h => (ev Γ a σ h).bind fun x h1 => (toCell x h1).bind fun x h1 => (evP Γ is as σ h1).bind fun xs h2 => .ok (x :: xs) h2
  | _, _, _, _ => .stuck
def parSet : List (Nat × Bool) → List PV → PEnv → PEnv
  | (i, _) :: is, v :: vs, σ => parSet is vs (σ.set i (some v))
  | _, _, σ => σ
mutual
def ex (Γ : Fns) : CS → PEnv → PH → Rs Fl
  | .asg i e, σ, h => (ev Γ e σ h).bind fun x h1 => .ok (.nx (σ.set i (some x))) h1
  | .asgT t e, σ, h => (ev Γ e σ h).bind fun x h1 => match x with
    | .d x => (ofO (assignD t x σ) h1).bind fun σ' h2 => .ok (.nx σ') h2
    | _ => .stuck
  | .asgC i e, σ, h => (ev Γ e σ h).bind fun x h1 => (toCell x h1).bind fun v h2 => .ok (.nx (σ.set i (some v))) h2
  | .par is es, σ, h => (evP Γ is es σ h).bind fun vs h1 => .ok (.nx (parSet is vs σ)) h1
  | .aug i e, σ, h => match σ[i]? with
    | some (some (.d (.int k))) => (ev Γ e σ h).bind fun x h1 => (match x with
      | .d (.int j) => .ok (.nx (σ.set i (some (.d (.int (k + j)))))) h1
      | _ => .stuck)
    | _ => .stuck
  | .expr e, σ, h => (ev Γ e σ h).bind fun _ h1 => .ok (.nx σ) h1
  | .app i e, σ, h => match σ[i]? with
    | some (some (.cell n)) => if isC h n then (ev Γ e σ h).bind fun x h1 => (appAt n x h1).bind fun _ h2 => .ok (.nx σ) h2 else .stuck
    | _ => .stuck
  | .put i k e, σ, h => (ev Γ e σ h).bind fun x h1 => match σ[i]? with
    | some (some (.cell n)) => (ev Γ k σ h1).bind fun j h2 => (putAt n j x h2).bind fun _ h3 => .ok (.nx σ) h3
    | _ => .stuck
  | .ret e, σ, h => (ev Γ e σ h).bind fun x h1 => .ok (.rt x) h1
  | .ite c a b, σ, h => (ev Γ c σ h).bind fun x h1 => (ofO ((val h1 x).bind truD) h1).bind fun k h2 => match k with
      | true => exB Γ a σ h2
      | false => exB Γ b σ h2
  | .for_ it t b, σ, h => (evI Γ it σ h).bind fun xs h1 => forL (fun x σ h => (ofO (assignD t x σ) h).bind fun σ' h => exB Γ b σ' h) xs σ h1
  | .whl c b, σ, h => whlL (fun σ h => (ev Γ c σ h).bind fun x h1 => ofO ((val h1 x).bind truD) h1) (fun σ h => exB Γ b σ h) whlMost σ h
  | .raise c, _, h => .exc c h
  | .try_ e hs, σ, h => match ev Γ e σ h with
    | .ok x h1 => .ok (.rt x) h1
    | .exc c h1 => (match hs.lookup c with
      | some l => .ok (.rt (.d l.dat)) h1
      | none => .stuck)
    | .stuck => .stuck
  | .pass, σ, h => .ok (.nx σ) h
def exB (Γ : Fns) : CB → PEnv → PH → Rs Fl
  | .nil, σ, h => .ok (.nx σ) h
  | .cons s b, σ, h => (ex Γ s σ h).bind fun r h1 => match r with
    | .nx σ' => exB Γ b σ' h1
    | .rt v => .ok (.rt v) h1
end
/-- a call's end: what was made within is dropped; a cell of its own comes back as a datum -/
def leave (n : Nat) (v : PV) (h : PH) : Rs PV := match v with
  | .d x => .ok (.d x) (h.take n)
  | .k x => .ok (.k x) (h.take n)
  | .cell k => if k < n then .ok (.cell k) (h.take n) else match h[k]? with
    | some (.lst xs) => .ok (.d (.list xs)) (h.take n)
    | _ => .stuck
def finish (n : Nat) : Rs Fl → Rs PV
  | .ok (.nx _) h => .ok (.d .none) (h.take n)
  | .ok (.rt v) h => leave n v h
  | .exc c h => .exc c (h.take n)
  | .stuck => .stuck
def body (Γ : Fns) (c : CDef) (vs : List PV) (h : PH) : Rs PV :=
  if vs.length = c.params then finish h.length (exB Γ c.body (vs.map some ++ List.replicate (c.slots - vs.length) none) h) else .stuck
def run (T : String → Option CDef) : Nat → Fns
  | 0, _, _, _ => .stuck
  | n + 1, f, vs, h => match T f with
    | some c => body (run T n) c vs h
    | none => .stuck
end J
end JCore

section JRel
set_option Elab.async false
set_option linter.all false
set_option maxRecDepth 100000
set_option autoImplicit false
set_option maxHeartbeats 4000000
/-! J.Rel: data in the abstract heap. -/
namespace J
open PySem PySem.Spec PyProof.Rows L2
/-- where the cells stand (none: dead); the lists that comprehensions fill -/
structure Io where
  cs : List (Option Addr)
  ex : List Addr
def Live (ι : Io) (a : Addr) : Prop := some a ∈ ι.cs ∨ a ∈ ι.ex
/-- a key as a datum -/
def kD : Key → D
  | .inl i => .int i
  | .inr x => .str x
mutual
inductive Rp (ι : Io) (H : Hp) : V → D → Prop
  | non : Rp ι H .non .none
  | bl (b : Bool) : Rp ι H (.bl b) (.bool b)
  | int (i : Int) : Rp ι H (.int i) (.int i)
  | str (x : Str) : Rp ι H (.str x) (.str x)
  | lst {a : Addr} {xs : List V} {ds : List D} : Rd H a (.lst xs) → ¬ Live ι a → RpAll ι H xs ds → Rp ι H (.ref a) (.list ds)
  | tup {a : Addr} {xs : List V} {ds : List D} : Rd H a (.tup xs) → ¬ Live ι a → RpAll ι H xs ds → Rp ι H (.ref a) (.tuple ds)
  | dct {a : Addr} {kvs : List (Key × V)} {ds : List (D × D)} : Rd H a (.dK kvs) → ¬ Live ι a → RpKV ι H kvs ds → Rp ι H (.ref a) (.dict ds)
inductive RpAll (ι : Io) (H : Hp) : List V → List D → Prop
  | nil : RpAll ι H [] []
  | cons {v : V} {vs : List V} {d : D} {ds : List D} : Rp ι H v d → RpAll ι H vs ds → RpAll ι H (v :: vs) (d :: ds)
inductive RpKV (ι : Io) (H : Hp) : List (Key × V) → List (D × D) → Prop
  | nil : RpKV ι H [] []
  | cons {k : Key} {v : V} {vs : List (Key × V)} {d : D} {ds : List (D × D)} : Rp ι H v d → RpKV ι H vs ds → RpKV ι H ((k, v) :: vs) ((kD k, d) :: ds)
end
/-- a tuple whose object is known -/
def Kn (H : Hp) (v : V) : Prop := ∃ a o xs, v = .ref a ∧ H a = some (.frz o (.tup xs)) ∧ o.cls = .type "tuple" ∧ o.dict = none
def RelPV (ι : Io) (H : Hp) (v : V) : PV → Prop
  | .d x => Rp ι H v x
  | .k x => Rp ι H v x ∧ Kn H v ∧ ∃ ds, x = .tuple ds
  | .cell n => n < ι.cs.length ∧ ∃ a, v = .ref a ∧ ∀ b, ι.cs[n]? = some (some b) → b = a
/-- what stood before stands (but for live things) -/
structure Mn (ι : Io) (H : Hp) (ι' : Io) (H' : Hp) : Prop where
  len : ι.cs.length ≤ ι'.cs.length
  pos : ∀ n : Nat, n < ι.cs.length → ι'.cs[n]? = some none ∨ ι'.cs[n]? = ι.cs[n]?
  keep : ∀ a o, H a = some o → ¬ Live ι a → H' a = some o
  new : ∀ a, Live ι' a → ¬ Live ι a → H a = none
  trk : ∀ a o, H a = some o → ∃ o', H' a = some o'
structure Ext (ι : Io) (H : Hp) (ι' : Io) (H' : Hp) : Prop extends Mn ι H ι' H' where
  exe : ι'.ex = ι.ex
  exk : ∀ a ∈ ι.ex, H' a = H a
def CellOk (ι : Io) (H : Hp) : Option Addr → Cl → Prop
  | some a, .lst ds => ∃ xs, H a = some (.lst xs) ∧ RpAll ι H xs ds
  | none, .dead => True
  | _, _ => False
structure HpOk (ι : Io) (H : Hp) (h : PH) : Prop where
  len : ι.cs.length = h.length
  cell : ∀ (n : Nat) a c, ι.cs[n]? = some a → h[n]? = some c → CellOk ι H a c
  nd : ∀ (n m : Nat) a, ι.cs[n]? = some (some a) → ι.cs[m]? = some (some a) → n = m
  exl : ∀ a ∈ ι.ex, ∃ o, H a = some o
  exd : ∀ a ∈ ι.ex, some a ∉ ι.cs
structure SOk (ι : Io) (H : Hp) (σp : PEnv) (σ : L2.St) : Prop where
  len : σp.length = σ.length
  get : ∀ (i : Nat) pv, σp[i]? = some (some pv) → ∃ v, σ[i]? = some (some v) ∧ RelPV ι H v pv
section
variable {ι ι' ι1 ι2 : Io} {H H' H1 H2 : Hp} {h h' : PH} {σp : PEnv} {σ : L2.St}
theorem Mn.refl : Mn ι H ι H := ⟨Nat.le_refl _, fun _ _ => .inr rfl, fun _ _ e _ => e, fun _ l n => absurd l n, fun _ o e => ⟨o, e⟩⟩
theorem Mn.trans (a : Mn ι H ι1 H1) (b : Mn ι1 H1 ι2 H2) : Mn ι H ι2 H2 where
  len := Nat.le_trans a.len b.len
  pos := fun n hn => by
    rcases b.pos n (Nat.lt_of_lt_of_le hn a.len) with e | e
    · exact .inl e
    · rw [e]; exact a.pos n hn
  keep := fun x o e n => b.keep x o (a.keep x o e n) fun l => by have z := a.new x l n; rw [z] at e; cases e
  new := fun x l n => by
    by_cases l1 : Live ι1 x
    · exact a.new x l1 n
    · cases q : H x with
      | none => rfl
      | some o =>
        have z := a.keep x o q n
        rw [b.new x l l1] at z; cases z
  trk := fun x o e => by
    obtain ⟨o1, e1⟩ := a.trk x o e
    exact b.trk x o1 e1
theorem Ext.refl : Ext ι H ι H := ⟨.refl, rfl, fun _ _ => rfl⟩
theorem Ext.trans (a : Ext ι H ι1 H1) (b : Ext ι1 H1 ι2 H2) : Ext ι H ι2 H2 := ⟨a.toMn.trans b.toMn, b.exe.trans a.exe, fun x hx => (b.exk x (by rw [a.exe]; exact hx)).trans (a.exk x hx)⟩
/-- nothing is changed, something may come -/
theorem Mn.grow (g : ∀ a o, H a = some o → H' a = some o) : Mn ι H ι H' := ⟨Nat.le_refl _, fun _ _ => .inr rfl, fun a o e _ => g a o e, fun _ l n => absurd l n, fun a o e => ⟨o, g a o e⟩⟩
theorem Ext.grow (O : HpOk ι H h) (g : ∀ a o, H a = some o → H' a = some o) : Ext ι H ι H' := ⟨.grow g, rfl, fun a ha => by
  obtain ⟨o, e⟩ := O.exl a ha
  rw [g a o e, e]⟩
theorem Mn.rd (E : Mn ι H ι' H') {a : Addr} {u : HO} (r : Rd H a u) (n : ¬ Live ι a) : Rd H' a u ∧ ¬ Live ι' a := by
  rcases r with r | ⟨o, r⟩
  · exact ⟨.inl (E.keep _ _ r n), fun l => by have z := E.new _ l n; rw [z] at r; cases r⟩
  · exact ⟨.inr ⟨o, E.keep _ _ r n⟩, fun l => by have z := E.new _ l n; rw [z] at r; cases r⟩
mutual
theorem Rp.mono (E : Mn ι H ι' H') : ∀ (d : D) (v : V), Rp ι H v d → Rp ι' H' v d
  | .none, _, .non => .non
  | .bool b, _, .bl _ => .bl b
  | .int i, _, .int _ => .int i
  | .str x, _, .str _ => .str x
  | .list ds, _, .lst e n r => .lst (E.rd e n).1 (E.rd e n).2 (Rp.monoAll E ds _ r)
  | .tuple ds, _, .tup e n r => .tup (E.rd e n).1 (E.rd e n).2 (Rp.monoAll E ds _ r)
  | .dict ds, _, .dct e n r => .dct (E.rd e n).1 (E.rd e n).2 (Rp.monoKV E ds _ r)
theorem Rp.monoAll (E : Mn ι H ι' H') : ∀ (ds : List D) (vs : List V), RpAll ι H vs ds → RpAll ι' H' vs ds
  | [], _, .nil => .nil
  | d :: ds, _, .cons r rr => .cons (Rp.mono E d _ r) (Rp.monoAll E ds _ rr)
theorem Rp.monoKV (E : Mn ι H ι' H') : ∀ (ds : List (D × D)) (vs : List (Key × V)), RpKV ι H vs ds → RpKV ι' H' vs ds
  | [], _, .nil => .nil
  | (_, d) :: ds, _, .cons r rr => .cons (Rp.mono E d _ r) (Rp.monoKV E ds _ rr)
end
theorem Kn.mono (E : Mn ι H ι' H') {v : V} {ds : List D} (r : Rp ι H v (.tuple ds)) (k : Kn H v) : Kn H' v := by
  obtain ⟨a, o, xs, rfl, e, c, d⟩ := k
  cases r with
  | tup _ n _ => exact ⟨a, o, xs, rfl, E.keep _ _ e n, c, d⟩
theorem RelPV.mono (E : Mn ι H ι' H') {v : V} {pv : PV} (r : RelPV ι H v pv) : RelPV ι' H' v pv := by
  cases pv with
  | d x => exact Rp.mono E x v r
  | k x =>
    obtain ⟨r, q, ds, rfl⟩ := r
    exact ⟨Rp.mono E _ v r, q.mono E r, ds, rfl⟩
  | cell n =>
    obtain ⟨l, a, e, hb⟩ := r
    refine ⟨Nat.lt_of_lt_of_le l E.len, a, e, fun b q => ?_⟩
    rcases E.pos n l with z | z
    · rw [z] at q; cases q
    · rw [z] at q; exact hb b q
theorem SOk.mono (E : Mn ι H ι' H') (s : SOk ι H σp σ) : SOk ι' H' σp σ := ⟨s.len, fun i pv e => by
  obtain ⟨v, e', r⟩ := s.get i pv e
  exact ⟨v, e', r.mono E⟩⟩
theorem HpOk.grow (g : ∀ a o, H a = some o → H' a = some o) (x : HpOk ι H h) : HpOk ι H' h := ⟨x.len, fun n a c e1 e2 => by
  have z := x.cell n a c e1 e2
  cases a with
  | none => cases c <;> exact z
  | some a =>
    cases c with
    | dead => exact z
    | lst ds => obtain ⟨xs, q, r⟩ := z; exact ⟨xs, g _ _ q, Rp.monoAll (Mn.grow g) _ _ r⟩, x.nd, fun a ha => by
  obtain ⟨o, e⟩ := x.exl a ha
  exact ⟨o, g a o e⟩, x.exd⟩
theorem mem_of_get {α : Type} {l : List α} {n : Nat} {a : α} (h : l[n]? = some a) : a ∈ l := List.mem_of_getElem? h
theorem get_of_mem {α : Type} {l : List α} {a : α} (h : a ∈ l) : ∃ n : Nat, l[n]? = some a := List.getElem?_of_mem h
/-- a live cell's address is tracked -/
theorem HpOk.live (x : HpOk ι H h) {a : Addr} (l : Live ι a) : ∃ o, H a = some o := by
  rcases l with l | l
  case inr => exact x.exl a l
  obtain ⟨n, e⟩ := get_of_mem l
  have hn : n < h.length := by rw [← x.len]; exact (List.getElem?_eq_some_iff.mp e).1
  have z := x.cell n (some a) h[n] e (List.getElem?_eq_getElem hn)
  cases c : h[n] with
  | dead => rw [c] at z; exact z.elim
  | lst ds => rw [c] at z; obtain ⟨xs, q, _⟩ := z; exact ⟨_, q⟩
theorem HpOk.fresh (x : HpOk ι H h) {p : Addr} (np : H p = none) : ¬ Live ι p := fun l => by
  obtain ⟨o, e⟩ := x.live l
  rw [np] at e; cases e
theorem grow_upd {p : Addr} {o : HO} (np : H p = none) : ∀ a u, H a = some u → upd H p o a = some u := fun a u e => by rw [upd_ne (ne_of_none e np)]; exact e
/-! ### reading a value -/
def Rr (ι : Io) (H : Hp) (v : V) (x : D) : Prop := Rp ι H v x ∨ ∃ a xs ds, v = .ref a ∧ x = .list ds ∧ Rd H a (.lst xs) ∧ RpAll ι H xs ds
theorem HpOk.at_lst (x : HpOk ι H h) {n : Nat} {ds : List D} (e : h[n]? = some (.lst ds)) : ∃ a xs, ι.cs[n]? = some (some a) ∧ H a = some (.lst xs) ∧ RpAll ι H xs ds := by
  have hn : n < ι.cs.length := by rw [x.len]; exact (List.getElem?_eq_some_iff.mp e).1
  have q := List.getElem?_eq_getElem hn
  have z := x.cell n _ _ q e
  cases c : ι.cs[n] with
  | none => rw [c] at z; exact z.elim
  | some a => rw [c] at z q; obtain ⟨xs, q1, r⟩ := z; exact ⟨a, xs, q, q1, r⟩
theorem val_ok (O : HpOk ι H h) {v : V} {pv : PV} {x : D} (r : RelPV ι H v pv) (e : val h pv = some x) : Rr ι H v x := by
  cases pv with
  | d y => simp only [val, Option.some.injEq] at e; subst e; exact .inl r
  | k y => simp only [val, Option.some.injEq] at e; subst e; exact .inl r.1
  | cell n =>
    obtain ⟨l, a, ev, hb⟩ := r
    simp only [val] at e
    split at e
    · rename_i xs q
      cases e
      obtain ⟨b, ys, i, hy, rr⟩ := O.at_lst q
      have z := hb b i; subst z
      exact .inr ⟨b, ys, xs, ev, rfl, .inl hy, rr⟩
    · cases e
theorem Rr.list {v : V} {ds : List D} (r : Rr ι H v (.list ds)) : ∃ a xs, v = .ref a ∧ Rd H a (.lst xs) ∧ RpAll ι H xs ds := by
  rcases r with r | ⟨a, xs, ds', e, q, hx, rr⟩
  · cases r with | lst e n rr => exact ⟨_, _, rfl, e, rr⟩
  · cases q; exact ⟨a, xs, e, hx, rr⟩
theorem Rr.tuple {v : V} {ds : List D} (r : Rr ι H v (.tuple ds)) : ∃ a xs, v = .ref a ∧ Rd H a (.tup xs) ∧ RpAll ι H xs ds ∧ ¬ Live ι a := by
  rcases r with r | ⟨a, xs, ds', e, q, hx, rr⟩
  · cases r with | tup e n rr => exact ⟨_, _, rfl, e, rr, n⟩
  · cases q
theorem Rr.int {v : V} {i : Int} (r : Rr ι H v (.int i)) : v = .int i := by
  rcases r with r | ⟨a, xs, ds', e, q, hx, rr⟩
  · cases r; rfl
  · cases q
theorem Rr.bool {v : V} {i : Bool} (r : Rr ι H v (.bool i)) : v = .bl i := by
  rcases r with r | ⟨a, xs, ds', e, q, hx, rr⟩
  · cases r; rfl
  · cases q
theorem Rr.str {v : V} {i : Str} (r : Rr ι H v (.str i)) : v = .str i := by
  rcases r with r | ⟨a, xs, ds', e, q, hx, rr⟩
  · cases r; rfl
  · cases q
theorem Rr.none {v : V} (r : Rr ι H v .none) : v = .non := by
  rcases r with r | ⟨a, xs, ds', e, q, hx, rr⟩
  · cases r; rfl
  · cases q
theorem Rr.dict {v : V} {k : List (D × D)} (r : Rr ι H v (.dict k)) : ∃ a kvs, v = .ref a ∧ Rd H a (.dK kvs) ∧ RpKV ι H kvs k ∧ ¬ Live ι a := by
  rcases r with r | ⟨a, xs, ds', e, q, hx, rr⟩
  · cases r with | dct e n rr => exact ⟨_, _, rfl, e, rr, n⟩
  · cases q
theorem RpAll.length : ∀ {vs : List V} {ds : List D}, RpAll ι H vs ds → vs.length = ds.length
  | _, _, .nil => rfl
  | _, _, .cons _ r => by simp only [List.length_cons, RpAll.length r]
theorem RpAll.get : ∀ {vs : List V} {ds : List D} {i : Nat} {d : D}, RpAll ι H vs ds → ds[i]? = some d → ∃ v, vs[i]? = some v ∧ Rp ι H v d
  | _, _, _, _, .nil, e => by simp at e
  | _, _, 0, _, .cons r _, e => by simp at e; subst e; exact ⟨_, rfl, r⟩
  | _, _, i + 1, d, .cons _ t, e => by
    obtain ⟨u, h1, h2⟩ := RpAll.get (i := i) (d := d) t (by simpa using e)
    exact ⟨u, by simpa using h1, h2⟩
theorem RpAll.getV : ∀ {vs : List V} {ds : List D} {i : Nat} {v : V}, RpAll ι H vs ds → vs[i]? = some v → ∃ d, ds[i]? = some d ∧ Rp ι H v d
  | _, _, _, _, .nil, e => by simp at e
  | _, _, 0, _, .cons r _, e => by simp at e; subst e; exact ⟨_, rfl, r⟩
  | _, _, i + 1, v, .cons _ t, e => by
    obtain ⟨u, h1, h2⟩ := RpAll.getV (i := i) (v := v) t (by simpa using e)
    exact ⟨u, by simpa using h1, h2⟩
theorem RpAll.append : ∀ {vs us : List V} {ds es : List D}, RpAll ι H vs ds → RpAll ι H us es → RpAll ι H (vs ++ us) (ds ++ es)
  | _, _, _, _, .nil, s => s
  | _, _, _, _, .cons r t, s => .cons r (RpAll.append t s)
theorem RpAll.take : ∀ {vs : List V} {ds : List D} (n : Nat), RpAll ι H vs ds → RpAll ι H (vs.take n) (ds.take n)
  | _, _, 0, _ => .nil
  | _, _, _ + 1, .nil => .nil
  | _, _, n + 1, .cons r t => .cons r (RpAll.take n t)
theorem RpAll.drop : ∀ {vs : List V} {ds : List D} (n : Nat), RpAll ι H vs ds → RpAll ι H (vs.drop n) (ds.drop n)
  | _, _, 0, r => r
  | _, _, _ + 1, .nil => .nil
  | _, _, n + 1, .cons _ t => RpAll.drop n t
theorem RpAll.set {v : V} {d : D} (r : Rp ι H v d) : ∀ {vs : List V} {ds : List D} (i : Nat), RpAll ι H vs ds → RpAll ι H (vs.set i v) (ds.set i d)
  | _, _, _, .nil => .nil
  | _, _, 0, .cons _ t => .cons r t
  | _, _, i + 1, .cons q t => .cons q (RpAll.set r i t)
theorem RpAll.eraseIdx : ∀ {vs : List V} {ds : List D} (i : Nat), RpAll ι H vs ds → RpAll ι H (vs.eraseIdx i) (ds.eraseIdx i)
  | _, _, _, .nil => by simpa using RpAll.nil
  | _, _, 0, .cons _ t => t
  | _, _, i + 1, .cons q t => .cons q (RpAll.eraseIdx i t)
theorem RpAll.reverse {vs : List V} {ds : List D} (r : RpAll ι H vs ds) : RpAll ι H vs.reverse ds.reverse := by
  induction vs generalizing ds with
  | nil => cases r; exact .nil
  | cons v vs ih =>
    cases r with
    | cons r rr =>
      rw [List.reverse_cons, List.reverse_cons]
      exact RpAll.append (ih rr) (.cons r .nil)
theorem RpAll.rep {vs : List V} {ds : List D} (r : RpAll ι H vs ds) : ∀ k : Nat, RpAll ι H (List.replicate k vs).flatten (List.replicate k ds).flatten
  | 0 => .nil
  | k + 1 => by
    rw [List.replicate_succ, List.replicate_succ, List.flatten_cons, List.flatten_cons]
    exact RpAll.append r (RpAll.rep r k)
mutual
theorem Rp.dp {K : PySem.W.Frag} : ∀ (d : D) (v : V), d.canLay0 = true → Rp ι H v d → Dp K H v d
  | .none, _, _, .non => .non
  | .bool b, _, _, .bl _ => .bl b
  | .int i, _, _, .int _ => .int i
  | .str x, _, _, .str _ => .str x
  | .list ds, _, c, .lst e _ r => .lst (.inl e) (Rp.dpAll ds _ (by simpa only [PyData.canLay0] using c) r)
  | .tuple ds, _, c, .tup e _ r => .tup (.inl e) (Rp.dpAll ds _ (by simpa only [PyData.canLay0] using c) r)
  | .dict ds, _, c, _ => by simp [PyData.canLay0] at c
theorem Rp.dpAll {K : PySem.W.Frag} : ∀ (ds : List D) (vs : List V), PyData.canLayAll0 ds = true → RpAll ι H vs ds → DpAll K H vs ds
  | [], _, _, .nil => .nil
  | d :: ds, _, c, .cons r rr => by
    simp only [PyData.canLayAll0, Bool.and_eq_true] at c
    exact .cons (Rp.dp d _ c.1 r) (Rp.dpAll ds _ c.2 rr)
end
theorem Rr.dp {K : PySem.W.Frag} {v : V} {x : D} (c : SeqAt.shaped x = true) (r : Rr ι H v x) : Dp K H v x := by
  have c := SeqAt.canLay_of_shaped c
  rcases r with r | ⟨a, xs, ds', e, q, hx, rr⟩
  · exact Rp.dp _ _ c r
  · subst e q; exact .lst (.inl hx) (Rp.dpAll _ _ (by simpa only [PyData.canLay0] using c) rr)
/-- a value of the result's kind -/
theorem rp_newT {p : Addr} {xs : List V} {ds : List D} (O : HpOk ι H h) (np : H p = none) (r : RpAll ι H xs ds) : Rp ι (upd H p (.tup xs)) (.ref p) (.tuple ds) :=
  .tup (.inl upd_same) (O.fresh np) (Rp.monoAll (Mn.grow (grow_upd np)) _ _ r)
theorem rp_newD {p : Addr} {xs : List (Key × V)} {ds : List (D × D)} (O : HpOk ι H h) (np : H p = none) (r : RpKV ι H xs ds) : Rp ι (upd H p (.dK xs)) (.ref p) (.dict ds) :=
  .dct (.inl upd_same) (O.fresh np) (Rp.monoKV (Mn.grow (grow_upd np)) _ _ r)
theorem rp_newL {p : Addr} {xs : List V} {ds : List D} (O : HpOk ι H h) (np : H p = none) (r : RpAll ι H xs ds) : Rp ι (upd H p (.lst xs)) (.ref p) (.list ds) :=
  .lst (.inl upd_same) (O.fresh np) (Rp.monoAll (Mn.grow (grow_upd np)) _ _ r)
end
/-! ### what is to be reached -/
def Fin {α : Type} (W : WX) (K : PySem.W.Frag) (ι : Io) (H : Hp) (σ : L2.St) (r : Rs α) (P : α → PH → Io → Hp → Prop) : Prop := match r with
  | .ok a h' => ∀ ι' H', Ext ι H ι' H' → HpOk ι' H' h' → P a h' ι' H'
  | .exc c h' => ∀ ι' H', Ext ι H ι' H' → HpOk ι' H' h' → W (.ref (He.ga K (Str.ofString c))) none σ H'
  | .stuck => False
section
variable {α β : Type} {W : WX} {K : PySem.W.Frag} {ι ι1 : Io} {H H1 : Hp} {σ : L2.St} {r : Rs α} {h : PH}
theorem Fin.imp {P P' : α → PH → Io → Hp → Prop} (f : Fin W K ι H σ r P) (i : ∀ a h' ι' H', Ext ι H ι' H' → HpOk ι' H' h' → P a h' ι' H' → P' a h' ι' H') : Fin W K ι H σ r P' := by
  cases r with
  | ok a h' => exact fun ι' H' E O => i a h' ι' H' E O (f ι' H' E O)
  | exc c h' => exact f
  | stuck => exact f
theorem Fin.bind {f : α → PH → Rs β} {P : β → PH → Io → Hp → Prop} (F : Fin W K ι H σ (r.bind f) P) : Fin W K ι H σ r (fun a h1 ι1 H1 => Fin W K ι1 H1 σ (f a h1) P) := by
  cases r with
  | ok a h1 =>
    intro ι1 H1 E1 O1
    have F' : Fin W K ι H σ (f a h1) P := F
    show Fin W K ι1 H1 σ (f a h1) P
    cases q : f a h1 with
    | ok b h2 => rw [q] at F'; exact fun ι2 H2 E2 O2 => F' ι2 H2 (E1.trans E2) O2
    | exc c h2 => rw [q] at F'; exact fun ι2 H2 E2 O2 => F' ι2 H2 (E1.trans E2) O2
    | stuck => rw [q] at F'; exact F'
  | exc c h1 => exact F
  | stuck => exact F
theorem Fin.ofO {o : Option α} {P : α → PH → Io → Hp → Prop} (F : Fin W K ι H σ (J.ofO o h) P) (O : HpOk ι H h) : ∃ a, o = some a ∧ ∀ H', (∀ x u, H x = some u → H' x = some u) → P a h ι H' := by
  cases o with
  | none => exact F.elim
  | some a => exact ⟨a, rfl, fun H' g => F ι H' (Ext.grow O g) (O.grow g)⟩
theorem Fin.calm {W' : WX} {P : α → PH → Io → Hp → Prop} (F : Fin W K ι H σ r.calm P) : Fin W' K ι H σ r P := by
  cases r with
  | ok a h1 => exact F
  | exc c h1 => exact F.elim
  | stuck => exact F
theorem Fin.okE {a : α} {P : α → PH → Io → Hp → Prop} (F : Fin W K ι H σ (.ok a h) P) (O : HpOk ι H h) {H' : Hp} (g : ∀ x u, H x = some u → H' x = some u) : P a h ι H' := F ι H' (Ext.grow O g) (O.grow g)
end
/-- the value is a new list that nothing else knows, if it is a list -/
def NewL (H : Hp) (ι' : Io) (H' : Hp) (h' : PH) (v : V) (pv : PV) : Prop := ∀ ds, pv = .d (.list ds) → ∃ a xs, v = .ref a ∧ H a = none ∧ H' a = some (.lst xs) ∧ HpOk ⟨ι'.cs, a :: ι'.ex⟩ H' h' ∧ RpAll ⟨ι'.cs, a :: ι'.ex⟩ H' xs ds
def PostV (H : Hp) (fr : Bool) (Q : VK) : PV → PH → Io → Hp → Prop := fun pv h' ι' H' => ∀ v, RelPV ι' H' v pv → (fr = true → NewL H ι' H' h' v pv) → Q v H'
theorem none_of {H H1 : Hp} {p : Addr} (T : ∀ a o, H a = some o → ∃ o', H1 a = some o') (np : H1 p = none) : H p = none := by
  cases q : H p with
  | none => rfl
  | some o => obtain ⟨o', z⟩ := T p o q; rw [np] at z; cases z
theorem mn_in {ι1 ι2 : Io} {H1 H : Hp} {D : Addr} (E : Mn ι1 H1 ι2 H) (nD : H1 D = none) : Mn ι1 H1 ⟨ι2.cs, D :: ι2.ex⟩ H :=
  ⟨E.len, E.pos, E.keep, fun a l n => by
    rcases l with l | l
    · exact E.new a (.inl l) n
    · rcases List.mem_cons.mp l with l | l
      · subst l; exact nD
      · exact E.new a (.inr l) n, E.trk⟩
/-- a new list is laid, for itself -/
theorem HpOk.lay {ι : Io} {H : Hp} {h : PH} {p : Addr} {xs : List V} (O : HpOk ι H h) (np : H p = none) : HpOk ⟨ι.cs, p :: ι.ex⟩ (upd H p (.lst xs)) h := by
  have mn : Mn ι H ⟨ι.cs, p :: ι.ex⟩ (upd H p (.lst xs)) := mn_in (Mn.grow (grow_upd np)) np
  refine ⟨O.len, fun n a c e1 e2 => ?_, O.nd, fun a ha => ?_, fun a ha => ?_⟩
  · have z := O.cell n a c e1 e2
    cases a with
    | none => cases c <;> exact z
    | some a => cases c with
      | dead => exact z
      | lst ds => obtain ⟨vs, q, r⟩ := z; exact ⟨vs, grow_upd np _ _ q, Rp.monoAll mn _ _ r⟩
  · rcases List.mem_cons.mp ha with e | e
    · subst e; exact ⟨_, upd_same⟩
    · obtain ⟨o, z⟩ := O.exl a e; exact ⟨o, grow_upd np _ _ z⟩
  · rcases List.mem_cons.mp ha with e | e
    · subst e; exact fun l => O.fresh np (.inl l)
    · exact O.exd a e
theorem newL_of {ι1 : Io} {H H1 : Hp} {h1 : PH} {p : Addr} {xs : List V} {ds : List D} {pv : PV} (e : pv = .d (.list ds)) (O : HpOk ι1 H1 h1) (T : ∀ a o, H a = some o → ∃ o', H1 a = some o') (np : H1 p = none) (r : RpAll ι1 H1 xs ds) : NewL H ι1 (upd H1 p (.lst xs)) h1 (.ref p) pv := fun es q => by
  rw [e] at q
  cases q
  exact ⟨p, xs, rfl, none_of T np, upd_same, O.lay np, Rp.monoAll (mn_in (Mn.grow (grow_upd np)) np) _ _ r⟩
/-- an expression's reading -/
def TD (W : WX) (K : PySem.W.Frag) (fr : Bool) (m : PEnv → PH → Rs PV) : TE := fun σ H Q => ∃ ι σp h, SOk ι H σp σ ∧ HpOk ι H h ∧ Fin W K ι H σ (m σp h) (PostV H fr Q)
theorem PE.imp {X : Cx} {e : Expr} {t t' : TE} (h : PE X e t) (i : ∀ σ H Q, t' σ H Q → t σ H Q) : PE X e t' := ⟨fun pins s σ H Q I q => h.run pins s σ H Q I (i σ H Q q)⟩
theorem PT.imp {X : Cx} {e : Expr} {t t' : TT} (h : PT X e t) (i : ∀ σ H Q, t' σ H Q → t σ H Q) : PT X e t' := ⟨fun pins s σ H Q I q => h.run pins s σ H Q I (i σ H Q q)⟩
theorem PA.imp {X : Cx} {e : List Expr} {t t' : TA} (h : PA X e t) (i : ∀ σ H Q, t' σ H Q → t σ H Q) : PA X e t' := ⟨fun pos pins s σ H Q I q => h.run pos pins s σ H Q I (i σ H Q q)⟩
theorem PI.imp {X : Cx} {tg e : Expr} {t t' : TI} (h : PI X tg e t) (i : ∀ σ H Q, t' σ H Q → t σ H Q) : PI X tg e t' := ⟨fun pins s σ H Q I q => h.run pins s σ H Q I (i σ H Q q)⟩
theorem PS.imp {X : Cx} {e : Stmt} {t t' : TS} (h : PS X e t) (i : ∀ D σ H, t' D σ H → t D σ H) : PS X e t' := ⟨fun pins s σ H D I q => h.run pins s σ H D I (i D σ H q)⟩
theorem PSs.imp {X : Cx} {e : List Stmt} {t t' : TS} (h : PSs X e t) (i : ∀ D σ H, t' D σ H → t D σ H) : PSs X e t' := ⟨fun pins s σ H D I q => h.run pins s σ H D I (i D σ H q)⟩
end J
end JRel

section JSort
set_option Elab.async false
set_option linter.all false
set_option maxRecDepth 100000
set_option autoImplicit false
/-! J.Sort: texts sorted, one way only. -/
namespace J
open PySem
theorem perm_once {α : Type} {r : α → α → Prop} (anti : ∀ a b, r a b → r b a → a = b) : ∀ {l m : List α}, l.Perm m → l.Pairwise r → m.Pairwise r → l = m
  | [], m, p, _, _ => (List.Perm.nil_eq p)
  | a :: l, [], p, _, _ => absurd p.symm (fun q => by cases (List.Perm.nil_eq q))
  | a :: l, b :: m, p, hl, hm => by
    obtain ⟨hl1, hl2⟩ := List.pairwise_cons.mp hl
    obtain ⟨hm1, hm2⟩ := List.pairwise_cons.mp hm
    have e : a = b := by
      have ia : a ∈ b :: m := p.mem_iff.mp List.mem_cons_self
      have ib : b ∈ a :: l := p.mem_iff.mpr List.mem_cons_self
      rcases List.mem_cons.mp ia with z | z
      · exact z
      · rcases List.mem_cons.mp ib with y | y
        · exact y.symm
        · exact anti a b (hl1 b y) (hm1 a z)
    subst e
    rw [perm_once anti (List.Perm.cons_inv p) hl2 hm2]
def leS (a b : Str) : Prop := strLt b a = false
theorem leS_iff (a b : Str) : leS a b ↔ a.cps.toList ≤ b.cps.toList := by
  unfold leS strLt
  simp only [decide_eq_false_iff_not]
  exact Iff.rfl
theorem leS_trans {a b c : Str} (h1 : leS a b) (h2 : leS b c) : leS a c := by
  rw [leS_iff] at *
  exact List.le_trans h1 h2
theorem str_ext {a b : Str} (h : a.cps.toList = b.cps.toList) : a = b := by
  cases a with
  | mk x =>
    cases b with
    | mk y => exact congrArg Str.mk (Array.ext' h)
theorem leS_anti (a b : Str) (h1 : leS a b) (h2 : leS b a) : a = b := by
  rw [leS_iff] at *
  exact str_ext (List.le_antisymm h1 h2)
theorem leS_total (a b : Str) : leS a b ∨ leS b a := by
  rw [leS_iff, leS_iff]
  exact List.le_total _ _
theorem insS_perm (x : Str) : ∀ l : List Str, (insS x l).Perm (x :: l)
  | [] => .refl _
  | y :: r => by
    unfold insS
    split
    · exact ((insS_perm x r).cons y).trans (List.Perm.swap x y r)
    · exact .refl _
theorem sortS_perm : ∀ l : List Str, (sortS l).Perm l
  | [] => .refl _
  | x :: r => (insS_perm x (sortS r)).trans ((sortS_perm r).cons x)
theorem insS_pw (x : Str) : ∀ l : List Str, l.Pairwise leS → (insS x l).Pairwise leS
  | [], _ => List.pairwise_singleton leS x
  | y :: r, h => by
    obtain ⟨h1, h2⟩ := List.pairwise_cons.mp h
    unfold insS
    split
    · rename_i hlt
      refine List.pairwise_cons.mpr ⟨fun z hz => ?_, insS_pw x r h2⟩
      have := (insS_perm x r).mem_iff.mp hz
      rcases List.mem_cons.mp this with e | e
      · subst e
        rcases leS_total y z with q | q
        · exact q
        · unfold leS at q
          rw [hlt] at q
          cases q
      · exact h1 z e
    · rename_i hlt
      have hxy : leS x y := by
        unfold leS
        simpa using hlt
      exact List.pairwise_cons.mpr ⟨fun z hz => by
        rcases List.mem_cons.mp hz with e | e
        · subst e; exact hxy
        · exact leS_trans hxy (h1 z e), h⟩
theorem sortS_pw : ∀ l : List Str, (sortS l).Pairwise leS
  | [] => List.Pairwise.nil
  | x :: r => insS_pw x _ (sortS_pw r)
theorem rising_pw : ∀ (l : List Str) (p : Str), PyProof.Rows.risingS p l = true → (p :: l).Pairwise leS
  | [], p, _ => List.pairwise_singleton leS p
  | x :: r, p, h => by
    simp only [PyProof.Rows.risingS, Bool.and_eq_true] at h
    have hx := rising_pw r x h.2
    have hpx : leS p x := by
      have := h.1
      rw [PyProof.Rows.ltCps_eq] at this
      unfold leS strLt
      simpa using this
    refine List.pairwise_cons.mpr ⟨fun z hz => ?_, hx⟩
    rcases List.mem_cons.mp hz with e | e
    · subst e; exact hpx
    · exact leS_trans hpx ((List.pairwise_cons.mp hx).1 z e)
theorem sorted_once {xs ys : List Str} (p : ys.Perm xs) (h : PyProof.Rows.sortedS ys = true) : ys = sortS xs := by
  refine perm_once leS_anti (p.trans (sortS_perm xs).symm) ?_ (sortS_pw xs)
  cases ys with
  | nil => exact List.Pairwise.nil
  | cons y r => exact rising_pw r y h
end J
end JSort

section JSet
set_option Elab.async false
set_option linter.all false
set_option maxRecDepth 100000
set_option autoImplicit false
set_option maxHeartbeats 8000000
/-! J.Set: a set made of a tuple, for keys of any kind. -/
namespace J
open PySem PySem.Spec PyProof.Rows
section
variable {κ : Type} [DecidableEq κ]
theorem addU_mem (acc : List κ) (k j : κ) : j ∈ addU acc k ↔ j ∈ acc ∨ j = k := by
  unfold addU
  split
  · rename_i h
    exact ⟨.inl, fun z => z.elim id fun e => e ▸ h⟩
  · simp [List.mem_append]
theorem addU_len (acc : List κ) (k : κ) : (addU acc k).length = if decide (k ∈ acc) = true then acc.length else acc.length + 1 := by
  unfold addU
  by_cases h : k ∈ acc <;> simp [h]
theorem uniq_snoc (ks : List κ) (k : κ) : uniq (ks ++ [k]) = addU (uniq ks) k := by
  unfold uniq
  rw [List.foldl_append]
  rfl
theorem uniq_le (ks : List κ) : (uniq ks).length ≤ ks.length := by
  have key : ∀ (ks acc : List κ), (ks.foldl addU acc).length ≤ acc.length + ks.length := by
    intro ks
    induction ks with
    | nil => intro acc; simp
    | cons k ks ih =>
      intro acc
      have h1 := ih (addU acc k)
      have h2 : (addU acc k).length ≤ acc.length + 1 := by rw [addU_len]; split <;> omega
      simp only [List.foldl_cons, List.length_cons]
      omega
  have := key ks []
  simpa [uniq] using this
end
section
variable {pg : Program} {w : World} {κ : Type} [DecidableEq κ] {knd : KeyKind pg w κ}
theorem setOf_same {hp : Heap} {a : Addr} {f g : κ → Bool} {n m : Nat} (q : hp.SetOf knd a f n) (e : ∀ k, f k = g k) (en : n = m) : hp.SetOf knd a g m := by
  obtain rfl : f = g := funext e
  exact en ▸ q
variable {Ar : Around} {Rt : Result → Shared → Prop} {It : Addr} {foot writ : List Addr} {Gn : Array GenState → Array GenState → Prop} {len : Nat} {Itm : Nat → Value → Prop} {At : Nat → Shared → Prop}
/-- the loop that fills a set -/
theorem fill_loop (Wk : WalksS pg w Ar.in1 It foot writ Gn len Itm At) (tgt : Addr) (off : tgt ∉ foot) (ks : List κ) (hlen : ks.length = len) (few : len + 1 < scanBound)
    (keyAt : ∀ i v, Itm i v → ∃ k, ks[i]? = some k ∧ knd.is k v = true ∧ v.scannable = true) :
    ∀ (left i : Nat) (st : Shared), len - i = left → i ≤ len → At i st → st.heap.SetOf knd tgt (fun j => decide (j ∈ uniq (ks.take i))) (uniq (ks.take i)).length →
      (∀ st', Moved (tgt :: writ) Gn st st' → st'.heap.SetOf knd tgt (fun j => decide (j ∈ uniq ks)) (uniq ks).length → Rt (.ok (.ret .none)) st') →
      codeAny (model pg w) Ar (.builtin "set.update.loop" ⟨[.ref tgt, .ref It], []⟩) Rt st := by
  have offW : tgt ∉ writ := fun z => off (Wk.sub _ z)
  have wide : ∀ b ∈ writ, b ∈ tgt :: writ := fun b hb => List.mem_cons_of_mem _ hb
  have carry : ∀ {st st' : Shared} {f : κ → Bool} {m : Nat}, Moved writ Gn st st' → st.heap.SetOf knd tgt f m → st'.heap.SetOf knd tgt f m := fun mv q => by
    obtain ⟨o, es, ep, tb, ho, more⟩ := q
    exact ⟨o, es, ep, tb, mv.heap tgt _ offW ho, more⟩
  intro left
  induction left with
  | zero =>
    intro i st hl hi hat q done
    obtain rfl : i = len := by omega
    rw [List.take_of_length_le (by omega)] at q
    refine codeAny_builtin PyProof.Rows.F.entry_set_update_loop ?_
    rw [Around.under_plainId PyProof.Rows.F.plain_set_update_loop _]
    exact wpAny_bind (Wk.done st _ _ hat fun st' mv => wpAny_pure (done st' (mv.mono wide) (carry mv q)))
  | succ left ih =>
    intro i st hl hi hat q done
    have lt : i < len := by omega
    refine codeAny_builtin PyProof.Rows.F.entry_set_update_loop ?_
    rw [Around.under_plainId PyProof.Rows.F.plain_set_update_loop _]
    refine wpAny_bind (Wk.item i st _ _ lt hat fun v st' hv hat' mv => ?_)
    obtain ⟨k, ek, kis, ksc⟩ := keyAt i v hv
    show wpAny _ Ar.in1 (holding [v] (setAdd tgt v) >>= _) _ _ st'
    refine wpAny_bind (wpAny_holding ?_)
    unfold setAdd
    refine wpAny_holding (wpAny_bind (knd.pyHash kis ?_))
    have room : (uniq (ks.take i)).length + 1 < scanBound := by
      have h1 := uniq_le (ks.take i)
      have h2 := List.length_take_le i ks
      omega
    have qc := carry mv q
    refine wpAny_setAddHashed_of (s := { st' with toks := st'.toks + 1 }) kis ksc qc room fun hp' same q2 => ?_
    have tk : ks.take (i + 1) = ks.take i ++ [k] := by rw [List.take_add_one, ek]; rfl
    have q3 : hp'.SetOf knd tgt (fun j => decide (j ∈ uniq (ks.take (i + 1)))) (uniq (ks.take (i + 1))).length := by
      rw [tk, uniq_snoc]
      refine setOf_same q2 (fun j => ?_) (addU_len _ _).symm
      have := addU_mem (uniq (ks.take i)) k j
      by_cases e1 : j ∈ uniq (ks.take i) <;> by_cases e2 : j = k <;> simp_all
    refine wpAny_pure ⟨plainId_quiet PyProof.Rows.F.plain_set_update_loop _, ih (i + 1) _ (by omega) lt (Wk.frame _ st' _ _ hat' (Nat.le_succ _) fun b hb o eo => ?_) q3 fun st'' mv2 q4 => ?_⟩
    · rw [same.2 b fun z => off (z ▸ hb)]
      exact eo
    · refine done st'' (Moved.trans Wk.gtrans ((mv.mono wide).then_heap (Nat.le_succ _) fun b o hb eo => ?_) mv2) q4
      rw [same.2 b fun z => hb (z ▸ List.mem_cons_self)]
      exact eo
variable {E : Value → Shared → Prop} {st : Shared}
abbrev newS (led : Bool) : Obj := { cls := .type "set", dict := none, data := .set #[] 0 (.fresh 0 0 led) }
/-- set(t), t a tuple of keys -/
theorem set_tuple {l : Addr} {items : Array Value} {Q : Value → Shared → Prop} (calm : Ar.handled = none) (tup : st.heap.IsTuple l items) (ks : List κ) (hlen : items.size = ks.length) (few : ks.length + 1 < scanBound)
    (keyAt : ∀ (i : Nat) (v : Value), items[i]? = some v → ∃ k, ks[i]? = some k ∧ knd.is k v = true ∧ v.scannable = true)
    (k : ∀ (hp : Heap) (tk : Nat), hp.SetOf knd st.heap.objs.size (fun j => decide (j ∈ uniq ks)) (uniq ks).length → (∀ b o, st.heap.get? b = some o → hp.get? b = some o) → Q (.ref st.heap.objs.size) { st with heap := hp, toks := tk }) :
    wpAny (model pg w) Ar (call (.type "set") [.ref l]) Q E st := by
  obtain ⟨cc, rest, order⟩ := PySem.F.called_set.mro
  have w1 := PySem.F.called_set.made
  have w2 := PySem.F.called_set.sub
  refine wpAny_call (codeAny_of_tree ?_)
  show wpAny _ _ (callAny (.type "set") _) _ _ _
  refine wpAny_pure ⟨Code.quiet_builtin _ (by decide +kernel), codeAny_builtin PySem.F.entry_type_call ?_⟩
  rw [Around.under_plain (weight_type_call_type "set" [.ref l] []) rfl]
  have w3 := PySem.F.called_set.notType
  have w4 := PySem.F.called_set.canCreate
  have w5 := PySem.F.typeCall_set_1 (.ref l)
  repeat (any_goals (first | assumption | wp_step))
  refine codeAny_mono (code_set_new_1 (.ref l) (E := E) (Q₁ := fun obj s1 => ∃ led, obj = .ref st.heap.objs.size ∧ s1 = { st with heap := st.heap.push (newS led) }) fun led => ⟨led, rfl, rfl⟩) fun r s1 hr => ?_
  match r, hr with
  | .error e, hr => exact hr
  | .ok (.ret obj), hr =>
    obtain ⟨led, rfl, rfl⟩ := hr
    have at0 : (st.heap.push (newS led)).get? st.heap.objs.size = some (newS led) := Heap.get?_push_size _ rfl
    have isS : Shared.TypeIs { st with heap := st.heap.push (newS led) } (.ref st.heap.objs.size) "set" := ⟨_, at0, rfl⟩
    have w6 := PySem.F.called_set.init.lookup
    have w7 := PySem.F.called_set.init.bind (.ref st.heap.objs.size)
    repeat (any_goals (first | assumption | wp_step))
    refine codeAny_mono (codeAny_call_builtin (R := wants (fun r s2 => r = .none ∧ ∃ hp tk, s2 = { st with heap := hp, toks := tk } ∧ hp.SetOf knd st.heap.objs.size (fun j => decide (j ∈ uniq ks)) (uniq ks).length ∧ ∀ b o, st.heap.get? b = some o → hp.get? b = some o) E)
      PySem.F.called_set.init.plain PySem.F.entry_set_init (check_set_init_1 isS ?_)) fun r2 s2 hr2 => ?_
    · obtain ⟨ot, hot, hcl, nt, hdt⟩ := tup
      obtain ⟨oc, od, odt, osl⟩ := ot
      simp only at hcl hdt
      subst hcl hdt
      have hot1 : (st.heap.push (newS led)).get? l = some { cls := .type "tuple", dict := od, data := .seq items nt, slots := osl } := Heap.get?_push_of_some _ hot
      have n1 := PySem.F.sub_tuple_set
      have n2 := PySem.F.sub_tuple_frozenset
      have n3 : (Value.type "tuple" == Value.type "dict") = false := by decide
      have tup1 : (st.heap.push (newS led)).IsTuple l items := ⟨_, hot1, rfl, nt, rfl⟩
      unfold Builtin.«set.__init__» noKeywords Builtin.Frozenset.updateFrom
      generalize hIt : pyIter = iter
      wp_walk
      subst hIt
      refine wpAny_pyIter_tuple tup1 (wpAny_bind (wpAny_runValue ?_))
      have ll : l < st.heap.objs.size := Heap.lt_size hot
      have calm3 : Ar.in1.in1.in1.handled = none := by simp [calm]
      have apart : l ≠ (st.heap.push (newS led)).objs.size := by
        rw [Heap.size_push]
        exact Nat.ne_of_lt (Nat.lt_succ_of_lt ll)
      have off : st.heap.objs.size ∉ [(st.heap.push (newS led)).objs.size, l] := by
        rw [Heap.size_push]
        intro z
        simp only [List.mem_cons, List.not_mem_nil, or_false] at z
        rcases z with z | z
        · exact absurd z (Nat.ne_of_lt (Nat.lt_succ_self _))
        · exact absurd z (Nat.ne_of_gt ll)
      refine fill_loop (knd := knd) ((Walks.tuple calm3 _ l apart items).toS) st.heap.objs.size off ks hlen.symm (by omega) keyAt (items.size - 0) 0 _ (by omega) (Nat.zero_le _) ⟨⟨_, Heap.get?_push_size _ rfl, rfl, rfl⟩, tup1.push _⟩ ?start ?stop
      case start =>
        have at1 := Heap.get?_push_of_some { cls := .type "tuple_iterator", data := .fields #[.ref l, .int 0 0] } at0
        exact setOf_same ((PyProof.Rows.setObjOf_fresh (knd := knd) led).setOf at1 (by unfold scanBound; omega)) (fun j => by simp [uniq]) rfl
      case stop =>
        intro st' mv q
        obtain ⟨hp, gs, dr, tk, os⟩ := st'
        obtain rfl : gs = st.gens := mv.gens
        obtain rfl : dr = st.drawn := mv.drawn
        obtain rfl : os = st.os := mv.os
        refine wpAny_pure (wpAny_pure ⟨rfl, hp, tk, rfl, q, fun b o eb => ?_⟩)
        have lb := Heap.lt_size eb
        refine mv.heap b o (fun z => ?_) (Heap.get?_push_of_some _ (Heap.get?_push_of_some _ eb))
        rw [Heap.size_push] at z
        simp only [List.mem_cons, List.not_mem_nil, or_false] at z
        rcases z with z | z
        · exact absurd z (Nat.ne_of_lt lb)
        · exact absurd z (Nat.ne_of_lt (Nat.lt_succ_of_lt lb))
    · match r2, hr2 with
      | .error e, hr2 => exact hr2
      | .ok (.ret r), hr2 =>
        obtain ⟨rfl, hp, tk, rfl, q, kp⟩ := hr2
        repeat (any_goals (first | assumption | wp_step))
        exact k hp tk q kp
      | .ok (.next ..), hr2 => exact hr2.elim
  | .ok (.next ..), hr => exact hr.elim
end
end J
end JSet

section JOps
set_option Elab.async false
set_option linter.all false
set_option maxRecDepth 100000
set_option autoImplicit false
set_option maxHeartbeats 4000000
/-! J.Ops: the operations on values. -/
namespace J
open PySem PySem.Spec PyProof.Rows L2
/-- nothing that stood is changed -/
abbrev Gr (H H' : Hp) : Prop := ∀ a u, H a = some u → H' a = some u
/-! ### keys -/
section
variable {ι : Io} {H : Hp} {v : V} {b : D}
theorem key_rr (r : Rr ι H v b) (h : isKey b = true) : ∃ k : Key, v = kV k ∧ b = kD k := by
  cases b with
  | int i => exact ⟨.inl i, r.int, rfl⟩
  | str x => exact ⟨.inr x, r.str, rfl⟩
  | _ => cases h
theorem keyEq_kD (a b : Key) : keyEq (kD a) (kD b) = decide (a = b) := by
  cases a <;> cases b <;> simp [kD, keyEq]
theorem isKey_kD (a : Key) : isKey (kD a) = true := by cases a <;> rfl
theorem dget_kv {k : Key} {d : D} : ∀ {ks : List (Key × V)} {ds : List (D × D)}, RpKV ι H ks ds → dget ds (kD k) = some d → ∃ v, valV ks k = some v ∧ Rp ι H v d
  | _, _, .nil, e => by cases e
  | _, _, .cons (k := j) (v := w) r rr, e => by
    unfold dget at e
    rw [List.find?_cons] at e
    simp only [keyEq_kD] at e
    by_cases q : j = k
    · rw [decide_eq_true q] at e
      cases e
      exact ⟨w, valV_pos q, r⟩
    · rw [decide_eq_false q] at e
      obtain ⟨u, e1, r1⟩ := dget_kv rr e
      exact ⟨u, by rw [valV_neg q]; exact e1, r1⟩
theorem dgetS_kv {k : Key} : ∀ {ks : List (Key × V)} {ds : List (D × D)}, RpKV ι H ks ds → (dget ds (kD k)).isSome = (valV ks k).isSome
  | _, _, .nil => rfl
  | _, _, .cons (k := j) (v := w) r rr => by
    unfold dget
    rw [List.find?_cons]
    simp only [keyEq_kD]
    by_cases q : j = k
    · rw [decide_eq_true q, valV_pos q]; rfl
    · rw [decide_eq_false q, valV_neg q]; exact dgetS_kv rr
theorem RpKV.length : ∀ {ks : List (Key × V)} {ds : List (D × D)}, RpKV ι H ks ds → ks.length = ds.length
  | _, _, .nil => rfl
  | _, _, .cons _ r => by simp only [List.length_cons, RpKV.length r]
theorem any_kv {k : Key} : ∀ {ks : List (Key × V)} {ds : List (D × D)}, RpKV ι H ks ds → (ds.any fun p => keyEq p.1 (kD k)) = ks.any fun p => decide (p.1 = k)
  | _, _, .nil => rfl
  | _, _, .cons _ r => by simp only [List.any_cons, keyEq_kD, any_kv r]
theorem repl_kv {k : Key} {d : D} (q : Rp ι H v d) : ∀ {ks : List (Key × V)} {ds : List (D × D)}, RpKV ι H ks ds → RpKV ι H (ks.map fun p => if p.1 = k then (p.1, v) else p) (ds.map fun p => if keyEq p.1 (kD k) = true then (p.1, d) else p)
  | _, _, .nil => .nil
  | _, _, .cons (k := j) r rr => by
    simp only [List.map_cons, keyEq_kD, decide_eq_true_eq]
    by_cases z : j = k
    · rw [if_pos z, if_pos z]; exact .cons q (repl_kv q rr)
    · rw [if_neg z, if_neg z]; exact .cons r (repl_kv q rr)
theorem snoc_kv {k : Key} {d : D} (q : Rp ι H v d) : ∀ {ks : List (Key × V)} {ds : List (D × D)}, RpKV ι H ks ds → RpKV ι H (ks ++ [(k, v)]) (ds ++ [(kD k, d)])
  | _, _, .nil => .cons q .nil
  | _, _, .cons r rr => .cons r (snoc_kv q rr)
theorem dput_kv {k : Key} {d : D} {ks : List (Key × V)} {ds : List (D × D)} (r : RpKV ι H ks ds) (q : Rp ι H v d) : RpKV ι H (putK ks k v) (dput ds (kD k) d) := by
  unfold putK dput
  rw [any_kv r]
  by_cases z : (ks.any fun p => decide (p.1 = k)) = true
  · rw [if_pos z, if_pos z]; exact repl_kv q r
  · rw [if_neg z, if_neg z]; exact snoc_kv q r
theorem fold_kv : ∀ {ks : List (Key × V)} {ds : List (D × D)}, RpKV ι H ks ds → ∀ {as : List (Key × V)} {bs : List (D × D)}, RpKV ι H as bs → RpKV ι H (mergeK as ks) (ds.foldl (fun acc p => dput acc p.1 p.2) bs)
  | _, _, .nil, _, _, r => r
  | _, _, .cons q rr, _, _, r => fold_kv rr (dput_kv r q)
theorem dictOf_kv {ks : List (Key × V)} {ds : List (D × D)} (r : RpKV ι H ks ds) : RpKV ι H (mergeK [] ks) (dictOf ds) := fold_kv r .nil
end
/-- what follows a value's making -/
def NewN (ι : Io) (H H' : Hp) (v : V) (d : D) : Prop := ∀ ds, d = .list ds → ∃ p xs, v = .ref p ∧ H p = none ∧ H' = upd H p (.lst xs) ∧ RpAll ι H xs ds
def Nw (ι : Io) (H : Hp) (Q : VK) (d : D) : Prop := ∀ v H', Gr H H' → Rp ι H' v d → NewN ι H H' v d → Q v H'
section
variable {ι : Io} {H : Hp} {h : PH} {Q : VK} {d : D}
theorem nl_int {H' : Hp} {v : V} {i : Int} : NewN ι H H' v (.int i) := fun _ q => nomatch q
theorem nl_bool {H' : Hp} {v : V} {i : Bool} : NewN ι H H' v (.bool i) := fun _ q => nomatch q
theorem nl_str {H' : Hp} {v : V} {i : Str} : NewN ι H H' v (.str i) := fun _ q => nomatch q
theorem nl_tup {H' : Hp} {v : V} {i : List D} : NewN ι H H' v (.tuple i) := fun _ q => nomatch q
theorem Nw.int {i : Int} (k : Nw ι H Q (.int i)) : Q (.int i) H := k _ _ (fun _ _ e => e) (.int i) nl_int
theorem Nw.bool {i : Bool} (k : Nw ι H Q (.bool i)) : Q (.bl i) H := k _ _ (fun _ _ e => e) (.bl i) nl_bool
theorem Nw.str {i : Str} (k : Nw ι H Q (.str i)) : Q (.str i) H := k _ _ (fun _ _ e => e) (.str i) nl_str
theorem nl_dct {H' : Hp} {v : V} {i : List (D × D)} : NewN ι H H' v (.dict i) := fun _ q => nomatch q
theorem Nw.dct {ds : List (D × D)} {xs : List (Key × V)} {p : Addr} (k : Nw ι H Q (.dict ds)) (O : HpOk ι H h) (np : H p = none) (r : RpKV ι H xs ds) : Q (.ref p) (upd H p (.dK xs)) :=
  k _ _ (grow_upd np) (rp_newD O np r) nl_dct
theorem Nw.tup {ds : List D} {xs : List V} {p : Addr} (k : Nw ι H Q (.tuple ds)) (O : HpOk ι H h) (np : H p = none) (r : RpAll ι H xs ds) : Q (.ref p) (upd H p (.tup xs)) :=
  k _ _ (grow_upd np) (rp_newT O np r) nl_tup
theorem Nw.lst {ds : List D} {xs : List V} {p : Addr} (k : Nw ι H Q (.list ds)) (O : HpOk ι H h) (np : H p = none) (r : RpAll ι H xs ds) : Q (.ref p) (upd H p (.lst xs)) :=
  k _ _ (grow_upd np) (rp_newL O np r) fun es q => by cases q; exact ⟨p, xs, rfl, np, rfl, r⟩
theorem Nw.same {v : V} (k : Nw ι H Q d) (r : Rp ι H v d) (n : NewN ι H H v d) : Q v H := k _ _ (fun _ _ e => e) r n
theorem lineN_eq : lineN = sizeLine := by rw [sizeLine_eq]; rfl
end
/-! ### two places -/
def opB : Bin → Operator
  | .add => .Add | .sub => .Sub | .mul => .Mult | .fdiv => .FloorDiv | .mod => .Mod
def rBin (o : Bin) : R2 := fun x y H Q => ∃ ι h a b d, HpOk ι H h ∧ Rr ι H x a ∧ Rr ι H y b ∧ binD o a b = some d ∧ Nw ι H Q d
section
variable {X : Cx}
/-- t * 1 is t itself -/
theorem tuple_mul1 (l : Addr) (items : Array Value) (n : Nat) (dd : Option Addr) (sl : Array (Option Value)) (u : Tok) :
    Meets (Builtin.«tuple.__mul__» ⟨[.ref l, .int 1 u], []⟩) (fun _ R s => s.heap.get? l = some { cls := .type "tuple", dict := dd, data := .seq items n, slots := sl } ∧ R (.ok (.ret (Value.ref l))) s) :=
  .of_wp fun prog w A R s h => by
    obtain ⟨hp, g, d, tk, os⟩ := s
    obtain ⟨hl, h⟩ := h
    have f1 := AutoSeq1.idx_int
    have c0 : (decide ((1 : Int) < -(2 ^ 63)) || decide ((1 : Int) ≥ 2 ^ 63)) = false := by decide
    have c1 : (items.isEmpty || (1 : Int) == 1) = true := by simp
    wp_walk using AutoSeq1.wpAny_loadPart' hl
    repeat (first
      | (refine wpAny_ite_false (decide_eq_false (by rw [c0]; exact Bool.false_ne_true)) ?_; wp_walk using AutoSeq1.wpAny_loadPart' hl)
      | (refine wpAny_ite_true (decide_eq_true c1) ?_; wp_walk using AutoSeq1.wpAny_loadPart' hl))
    exact ⟨_, rfl, h⟩
def rRep1 (K : PySem.W.Frag) : R2 := fun x y H Q => ∃ l xs, x = .ref l ∧ y = .int 1 ∧ SqT K H l xs ∧ Q (.ref l) H
theorem op_rep1 : OpR X (binaryOp .Mult) (rRep1 X.K) := by
  intro pins s σ H x y v u Q I rx ry h
  obtain ⟨l, xs, rfl, rfl, hT, q⟩ := h
  cases rx
  obtain ⟨t, rfl⟩ := ry
  obtain ⟨its, r, ⟨⟨cls, dd, data, sl⟩, ho, hc, n, hd⟩, hs⟩ := I.tuple hT
  simp only at hc hd
  subst hc hd
  refine wpAny_binaryOp_repeat_ref (T := "tuple") (U := "int") (by decide) ⟨_, ho, rfl⟩ (fun s' => typeIs_int s' 1 t) noFill_tuple_mul F.fills_int_mul F.slot_int_rmul repeat_tuple F.slot_int_index.lookup
    (call_meets F.slot_int_rmul (typeIs_int s 1 t) F.entry_int_rmul (F.args_int_rmul_2 _ _) (int_rmul_tuple 1 t l its.toArray n dd sl)
      ⟨ho, rfl, ⟨_, ho, rfl⟩, call_meets F.slot_tuple_mul ⟨_, ho, rfl⟩ F.entry_tuple_mul (F.args_tuple_mul_2 _ _) (tuple_mul1 l its.toArray n dd sl t) ⟨ho, ?_⟩⟩)
  exact ⟨.ref l, H, I, rfl, q⟩
theorem rep1 {α : Type} (l : List α) : (List.replicate (1 : Int).toNat l).flatten = l := by simp
theorem lstR {pins : List (Addr × Obj)} {σ : L2.St} {H : Hp} {s : Shared} {l : Addr} {xs : List V} (I : Inv X pins σ H s) (hH : Rd H l (.lst xs)) :
    xs.length ≤ sizeLine ∧ ∃ (its : List Value) (n : Nat), Vals xs its ∧ xs.length = its.length ∧ s.heap.get? l = some { cls := .type "list", data := .seq its.toArray n } := by
  obtain ⟨z, its, n, r, e⟩ := hH.ok I.hok
  exact ⟨z, its, n, r, r.length, e⟩
def rCatR : R2 := fun x y H Q => ∃ l b xs zs, x = .ref l ∧ y = .ref b ∧ Rd H l (.lst xs) ∧ Rd H b (.lst zs) ∧ xs.length + zs.length ≤ sizeLine ∧ ∀ p, H p = none → Q (.ref p) (upd H p (.lst (xs ++ zs)))
theorem op_catR : OpR X (binaryOp .Add) rCatR := by
  rintro pins s σ H x y v u Q I rx ry ⟨l, b, xs, zs, rfl, rfl, hH, hB, hz, q⟩
  cases rx; cases ry
  obtain ⟨z, its, n, r, hl, e⟩ := lstR I hH
  obtain ⟨z2, its2, n2, r2, hl2, e2⟩ := lstR I hB
  refine PySem.P.add_list e e2 ?_ (by simp only [List.size_toArray]; omega)
  rw [show its.toArray ++ its2.toArray = (its ++ its2).toArray by simp]
  exact ⟨.ref _, _, I.lnew (t' := s.toks) (r.append r2) (by simp only [List.length_append]; omega), rfl, q _ I.fresh⟩
def rRepR : R2 := fun x y H Q => ∃ l k xs, x = .ref l ∧ y = .int k ∧ Rd H l (.lst xs) ∧ -(2 ^ 63) ≤ k ∧ k < 2 ^ 63 ∧ xs.length * k.toNat ≤ sizeLine ∧
  ∀ p, H p = none → Q (.ref p) (upd H p (.lst (List.replicate k.toNat xs).flatten))
theorem op_repR : OpR X (binaryOp .Mult) rRepR := by
  rintro pins s σ H x y v u Q I rx ry ⟨l, k, xs, rfl, rfl, hH, h1, h2, hz, q⟩
  cases rx
  obtain ⟨t, rfl⟩ := ry
  obtain ⟨z, its, n, r, hl, e⟩ := lstR I hH
  have hlen : its.toArray.size * k.toNat ≤ sizeLine := by simp only [List.size_toArray, ← hl]; exact hz
  have cap : ¬ its.toArray.size * k.toNat > (2 ^ 63 - 1) / 8 := by
    have q : (sizeLine : Nat) ≤ (2 ^ 63 - 1) / 8 := by decide
    omega
  have fit : ¬ (!Builtin.List.listFitsIndex k) = true := by simp only [fitsIndex_both h1 h2]; decide
  have long : ¬ Builtin.List.listTooLong (its.toArray.size * k.toNat) = true := by simp only [notLongL hlen]; decide
  have f0 : ∀ m : Nat, List.foldl (fun x1 x2 => x1 ++ x2) #[] (List.replicate m its.toArray) = (List.replicate m its).flatten.toArray := fun m => by
    have q := foldl_rep its m []
    simpa using q
  have new : List.foldl (fun x1 x2 => x1 ++ x2) #[] (List.replicate (if its.toArray.isEmpty = true then 0 else k.toNat) its.toArray) = (List.replicate k.toNat its).flatten.toArray := by
    rw [f0]
    cases its with
    | nil => simp
    | cons a r' => simp only [List.isEmpty_toArray, List.isEmpty_cons, if_neg Bool.false_ne_true]
  refine wpAny_binaryOp_repeat_ref (T := "list") (U := "int") (by decide) ⟨_, e, rfl⟩ (fun s' => typeIs_int s' k t) noFill_list_mul F.fills_int_mul F.slot_int_rmul repeat_list F.slot_int_index.lookup
    (call_meets F.slot_int_rmul (typeIs_int s k t) F.entry_int_rmul (F.args_int_rmul_2 _ _) (int___rmul___int_list k t l its.toArray n)
      ⟨e, rfl, ⟨_, e, rfl⟩, call_meets F.slot_list_mul ⟨_, e, rfl⟩ F.entry_list_mul (F.args_list_mul_2 _ _) (AutoListH.list___mul___list_int_3 l its.toArray n k t fit cap long) ⟨e, ?_⟩⟩)
  rw [new]
  exact ⟨.ref _, _, I.lnew (t' := s.toks) (r.rep k.toNat) (by rw [PyProof.Rows.lm_len_rep_flat, Nat.mul_comm]; exact hz), rfl, q _ I.fresh⟩
theorem op_bin (o : Bin) : OpR X (binaryOp (opB o)) (rBin o) := by
  intro pins s σ H x y v u Q I rx ry h
  obtain ⟨ι, hh, a, b, d, O, ra, rb, e, k⟩ := h
  unfold binD at e
  split at e
  · cases e
    exact op_add pins s σ H x y v u Q I rx ry ⟨_, _, ra.int, rb.int, k.int⟩
  · split at e
    · rename_i hl
      cases e
      exact op_add_str pins s σ H x y v u Q I rx ry ⟨_, _, ra.str, rb.str, by rw [← lineN_eq]; exact hl, k.str⟩
    · cases e
  · split at e
    · rename_i as bs hl
      cases e
      obtain ⟨p, xs, e1, hp, r1, n1⟩ := ra.tuple
      obtain ⟨q, ys, e2, hq, r2, n2⟩ := rb.tuple
      refine op_catA pins s σ H x y v u Q I rx ry ⟨p, q, xs, ys, e1, e2, .inl hp, .inl hq, by rw [r1.length, r2.length, ← lineN_eq]; exact hl, fun z => ?_, fun _ z => ?_, fun _ _ w nw => ?_⟩
      · subst z
        cases r1
        exact k.same (.tup hq n2 r2) nl_tup
      · subst z
        cases r2
        rw [List.append_nil] at k
        exact k.same (.tup hp n1 r1) nl_tup
      · exact k.tup O nw (r1.append r2)
    · cases e
  · split at e
    · rename_i as bs hl
      cases e
      obtain ⟨p, xs, e1, hp, r1⟩ := ra.list
      obtain ⟨q, ys, e2, hq, r2⟩ := rb.list
      exact op_catR pins s σ H x y v u Q I rx ry ⟨p, q, xs, ys, e1, e2, hp, hq, by rw [r1.length, r2.length, ← lineN_eq]; exact hl, fun w nw => k.lst O nw (r1.append r2)⟩
    · cases e
  · cases e
    exact op_sub pins s σ H x y v u Q I rx ry ⟨_, _, ra.int, rb.int, k.int⟩
  · split at e
    · rename_i hl
      cases e
      simp only [mulOk, decide_eq_true_eq] at hl
      exact op_mulW pins s σ H x y v u Q I rx ry ⟨_, _, ra.int, rb.int, hl, k.int⟩
    · cases e
  · split at e
    · rename_i ds m hl
      cases e
      obtain ⟨p, xs, e1, hp, r1⟩ := ra.list
      refine op_repR pins s σ H x y v u Q I rx ry ⟨p, _, xs, e1, rb.int, hp, by omega, by omega, ?_, fun w nw => k.lst O nw (r1.rep _)⟩
      rw [r1.length, sizeLine_eq]
      have : ds.length * m.toNat ≤ 1000 * 1000 := Nat.mul_le_mul hl.2.2 (by omega)
      omega
    · cases e
  · split at e
    · rename_i ds m hl
      cases e
      obtain ⟨p, xs, e1, hp, r1, n1⟩ := ra.tuple
      by_cases h1 : m = 1
      · subst h1
        rw [rep1] at k
        exact op_rep1 pins s σ H x y v u Q I rx ry ⟨p, xs, e1, rb.int, .inl hp, by subst e1; exact k.same (.tup hp n1 r1) nl_tup⟩
      · refine op_repT pins s σ H x y v u Q I rx ry ⟨p, _, xs, e1, rb.int, .inl hp, ?_, by omega, by omega, by rw [r1.length]; omega, fun w nw => k.tup O nw (r1.rep _)⟩
        intro z
        subst z
        cases r1
        exact hl.1 rfl
    · cases e
  · split at e
    · rename_i hl
      cases e
      unfold divOk at hl
      rw [Bool.and_eq_true] at hl
      exact op_fdivW pins s σ H x y v u Q I rx ry ⟨_, _, ra.int, rb.int, ⟨of_decide_eq_true hl.1, of_decide_eq_true hl.2⟩, k.int⟩
    · cases e
  · split at e
    · rename_i hl
      cases e
      exact op_mod pins s σ H x y v u Q I rx ry ⟨_, _, ra.int, rb.int, hl, k.int⟩
    · cases e
  · cases e
    have r1 := ra.bool
    have r2 := rb.int
    subst r1 r2
    cases rx
    obtain ⟨t, rfl⟩ := ry
    exact PySem.IntBool.add_bool_int ⟨.int _, H, I.tok _, ⟨_, rfl⟩, k.int⟩
  · cases e
    have r1 := ra.bool
    have r2 := rb.int
    subst r1 r2
    cases rx
    obtain ⟨t, rfl⟩ := ry
    exact PySem.IntBool.sub_bool_int ⟨.int _, H, I.tok _, ⟨_, rfl⟩, k.int⟩
  · cases e
/-! ### comparisons -/
def opC : Cmp → CmpOp
  | .eq => .Eq | .ne => .NotEq | .lt => .Lt | .le => .LtE | .gt => .Gt | .ge => .GtE | .in_ => .In | .nin => .NotIn
def rCmp (o : Cmp) : R2 := fun x y H Q => ∃ ι h a b d, HpOk ι H h ∧ Rr ι H x a ∧ Rr ι H y b ∧ cmpD o a b = some d ∧ Q (.bl d) H
theorem flat_rp {ι : Io} {H : Hp} {v : V} {d : D} (r : Rr ι H v d) (f : flatD d = true) : flatV v = true := by
  cases d with
  | none => rw [r.none]; rfl
  | bool b => rw [r.bool]; rfl
  | int i => rw [r.int]; rfl
  | str x => rw [r.str]; rfl
  | list ds => cases f
  | tuple ds => cases f
  | dict k => cases f
theorem flat_eq {ι : Io} {H : Hp} {v u : V} {d e : D} (r : Rr ι H v d) (q : Rr ι H u e) (f : flatD d = true) (g : flatD e = true) : eqV v u = PyData.eqv d e := by
  cases d with
  | none => rw [r.none]; cases e with
    | none => rw [q.none]; rfl
    | bool b => rw [q.bool]; rfl
    | int i => rw [q.int]; rfl
    | str x => rw [q.str]; rfl
    | list ds => cases g
    | tuple ds => cases g
    | dict k => cases g
  | bool b => rw [r.bool]; cases e with
    | none => rw [q.none]; rfl
    | bool b => rw [q.bool]; rfl
    | int i => rw [q.int]; rfl
    | str x => rw [q.str]; rfl
    | list ds => cases g
    | tuple ds => cases g
    | dict k => cases g
  | int i => rw [r.int]; cases e with
    | none => rw [q.none]; rfl
    | bool b => rw [q.bool]; rfl
    | int i => rw [q.int]; rfl
    | str x => rw [q.str]; rfl
    | list ds => cases g
    | tuple ds => cases g
    | dict k => cases g
  | str x => rw [r.str]; cases e with
    | none => rw [q.none]; rfl
    | bool b => rw [q.bool]; rfl
    | int i => rw [q.int]; rfl
    | str x => rw [q.str]; rfl
    | list ds => cases g
    | tuple ds => cases g
    | dict k => cases g
  | list ds => cases f
  | tuple ds => cases f
  | dict k => cases f
theorem flats {ι : Io} {H : Hp} {u : V} {e : D} (q : Rr ι H u e) (g : flatD e = true) : ∀ {vs : List V} {ds : List D}, RpAll ι H vs ds → ds.all flatD = true → vs.all flatV = true ∧ inV u vs = ds.any fun z => PyData.eqv z e
  | _, _, .nil, _ => ⟨rfl, rfl⟩
  | _, _, .cons (v := v) (vs := vs) (d := d) (ds := ds) r rr, f => by
    rw [List.all_cons, Bool.and_eq_true] at f
    obtain ⟨i1, i2⟩ := flats q g rr f.2
    refine ⟨?_, ?_⟩
    · rw [List.all_cons, Bool.and_eq_true]
      exact ⟨flat_rp (.inl r) f.1, i1⟩
    · unfold inV at i2 ⊢
      rw [List.any_cons, List.any_cons, i2, flat_eq (.inl r) q f.1 g]
theorem op_cmp (hu : X.A.units + 65 < cLine) (o : Cmp) : OpR X (compareOp (opC o)) (rCmp o) := by
  intro pins s σ H x y v u Q I rx ry h
  obtain ⟨ι, hh, a, b, d, O, ra, rb, e, k⟩ := h
  unfold cmpD at e
  split at e
  · split at e
    · rename_i hs
      cases e
      rw [Bool.and_eq_true] at hs
      exact op_eqD (by omega) pins s σ H x y v u Q I rx ry ⟨_, _, ra.dp hs.1, rb.dp hs.2, hs.1, hs.2, k⟩
    · cases e
  · split at e
    · rename_i hs
      cases e
      rw [Bool.and_eq_true] at hs
      exact op_neD (by omega) pins s σ H x y v u Q I rx ry ⟨_, _, ra.dp hs.1, rb.dp hs.2, hs.1, hs.2, k⟩
    · cases e
  · cases e; exact op_lt pins s σ H x y v u Q I rx ry ⟨_, _, ra.int, rb.int, k⟩
  · cases e; exact op_lt_str pins s σ H x y v u Q I rx ry ⟨_, _, ra.str, rb.str, k⟩
  · cases e; exact op_le pins s σ H x y v u Q I rx ry ⟨_, _, ra.int, rb.int, k⟩
  · cases e; exact op_le_str pins s σ H x y v u Q I rx ry ⟨_, _, ra.str, rb.str, k⟩
  · cases e; exact op_gt pins s σ H x y v u Q I rx ry ⟨_, _, ra.int, rb.int, k⟩
  · cases e; exact op_gt_str pins s σ H x y v u Q I rx ry ⟨_, _, ra.str, rb.str, k⟩
  · cases e; exact op_ge pins s σ H x y v u Q I rx ry ⟨_, _, ra.int, rb.int, k⟩
  · cases e; exact op_ge_str pins s σ H x y v u Q I rx ry ⟨_, _, ra.str, rb.str, k⟩
  · split at e
    · rename_i hs
      cases e
      rw [Bool.and_eq_true] at hs
      exact op_inD hu pins s σ H x y v u Q I rx ry ⟨_, _, ra.dp hs.1, rb.dp hs.2, hs.1, hs.2, k⟩
    · cases e
  · split at e
    · rename_i hs
      cases e
      rw [Bool.and_eq_true] at hs
      obtain ⟨q, ys, e2, hq, r2, n2⟩ := rb.tuple
      obtain ⟨f1, f2⟩ := flats ra hs.1 r2 hs.2
      rw [← f2] at k
      exact op_in_seq pins s σ H x y v u Q I rx ry ⟨q, ys, e2, .inr (.inl hq), flat_rp ra hs.1, f1, k⟩
    · cases e
  · split at e
    · rename_i hs
      cases e
      rw [Bool.and_eq_true] at hs
      exact op_notInD hu pins s σ H x y v u Q I rx ry ⟨_, _, ra.dp hs.1, rb.dp hs.2, hs.1, hs.2, k⟩
    · cases e
  · split at e
    · rename_i hs
      cases e
      rw [Bool.and_eq_true] at hs
      obtain ⟨q, ys, e2, hq, r2, n2⟩ := rb.tuple
      obtain ⟨f1, f2⟩ := flats ra hs.1 r2 hs.2
      rw [← f2] at k
      exact op_notIn_seq pins s σ H x y v u Q I rx ry ⟨q, ys, e2, .inr (.inl hq), flat_rp ra hs.1, f1, k⟩
    · cases e
  · rename_i kvs
    split at e
    · rename_i hk
      cases e
      obtain ⟨p, ks, rfl, hp, rk, _⟩ := rb.dict
      obtain rfl : u = Value.ref p := ry
      obtain ⟨k', rfl, eb⟩ := key_rr ra hk
      subst eb
      have G : DGet H p (kV k') (valV ks k') := .inl ⟨ks, k', hp, rfl, rfl⟩
      rw [dgetS_kv rk] at k
      exact d_in (by omega) I G rx fun s3 I3 => ⟨.bl _, H, I3, rfl, k⟩
    · cases e
  · rename_i kvs
    split at e
    · rename_i hk
      cases e
      obtain ⟨p, ks, rfl, hp, rk, _⟩ := rb.dict
      obtain rfl : u = Value.ref p := ry
      obtain ⟨k', rfl, eb⟩ := key_rr ra hk
      subst eb
      have G : DGet H p (kV k') (valV ks k') := .inl ⟨ks, k', hp, rfl, rfl⟩
      rw [dgetS_kv rk] at k
      exact d_notIn (by omega) I G rx fun s3 I3 => ⟨.bl _, H, I3, rfl, k⟩
    · cases e
  · cases e
/-! ### truth -/
theorem isEmpty_rp {ι : Io} {H : Hp} {vs : List V} {ds : List D} (r : RpAll ι H vs ds) : ds.isEmpty = vs.isEmpty := by cases r <;> rfl
theorem tru_rr {K : PySem.W.Frag} {ι : Io} {H : Hp} {v : V} {d : D} {b : Bool} (r : Rr ι H v d) (e : truD d = some b) : TruV K v H b := by
  cases d with
  | none => rw [r.none]; cases e; rfl
  | bool b => rw [r.bool]; cases e; rfl
  | int i => rw [r.int]; cases e; rfl
  | str x =>
    rw [r.str]
    simp only [truD] at e
    split at e
    · rename_i hl
      cases e
      refine ⟨by rw [← lineN_eq]; exact hl, ?_⟩
      cases x.length <;> rfl
    · cases e
  | list ds =>
    obtain ⟨a, xs, e1, hx, rr⟩ := r.list
    subst e1
    cases e
    exact .inl ⟨xs, .inl hx, by rw [isEmpty_rp rr]⟩
  | tuple ds =>
    obtain ⟨a, xs, e1, hx, rr, _⟩ := r.tuple
    subst e1
    cases e
    exact .inr (.inl ⟨xs, .inl hx, by rw [isEmpty_rp rr]⟩)
  | dict k => cases e
/-! ### isinstance -/
def tyN : Ty → String
  | .int => "int" | .bool => "bool" | .str => "str" | .tuple => "tuple" | .list => "list"
def clN : D → String
  | .none => "NoneType" | .bool _ => "bool" | .int _ => "int" | .str _ => "str" | .list _ => "list" | .tuple _ => "tuple" | .dict _ => "dict"
theorem ty_rr {K : PySem.W.Frag} {ι : Io} {H : Hp} {v : V} {d : D} (r : Rr ι H v d) : TyX K H v (.type (clN d)) := by
  cases d with
  | none => rw [r.none]; exact .base .non
  | bool b => rw [r.bool]; exact .base (.bl b)
  | int i => rw [r.int]; exact .base (.int i)
  | str x => rw [r.str]; exact .base (.str x)
  | list ds =>
    obtain ⟨a, xs, e1, hx, rr⟩ := r.list
    subst e1
    rcases hx with hx | ⟨o, hx⟩
    · exact .base (.lst hx)
    · exact .base (.frz hx)
  | tuple ds =>
    obtain ⟨a, xs, e1, hx, rr, _⟩ := r.tuple
    subst e1
    rcases hx with hx | ⟨o, hx⟩
    · exact .base (.tup hx)
    · exact .fTuple hx
  | dict k =>
    obtain ⟨a, xs, e1, hx, rr, _⟩ := r.dict
    subst e1
    rcases hx with hx | ⟨o, hx⟩
    · exact .base (.dK hx)
    · exact .fDict hx
theorem kit_all (d : D) (t : Ty) : kitB (clN d) (tyN t) = some (isiD d t) := by
  cases d with
  | _ => cases t <;> simp only [clN, tyN, isiD] <;> decide +kernel
def rIsiD (t : Ty) : List V → Hp → VK → Prop := fun xs H Q => ∃ ι x d, xs = [x, .ty (tyN t)] ∧ Rr ι H x d ∧ Q (.bl (isiD d t)) H
theorem call_isiD (t : Ty) : CallR X (.builtin "isinstance") (rIsiD t) := by
  intro pins s σ H xs us Q I rx h
  obtain ⟨ι, x, d, e, r, q⟩ := h
  exact call_isi pins s σ H xs us Q I rx ⟨x, .ty (tyN t), .type (clN d), .type (tyN t), isiD d t, e, .ty _, ty_rr r, kit_ty (kit_all d t), q⟩
/-! ### items and slices -/
theorem ixN_eq : J.ixN = L2.ixN := rfl
theorem at_rp {ι : Io} {H : Hp} {vs : List V} {ds : List D} {i : Int} {d : D} (r : RpAll ι H vs ds) (e : J.atI ds i = some d) : ∃ v, L2.atI vs i = some v ∧ Rp ι H v d := by
  unfold J.atI at e
  unfold L2.atI
  rw [r.length, ← ixN_eq]
  cases q : J.ixN ds.length i with
  | none => rw [q] at e; cases e
  | some j => rw [q] at e; exact r.get e
def rIxJ : R2 := fun x y H Q => ∃ ι h a b d, HpOk ι H h ∧ Rr ι H x a ∧ Rr ι H y b ∧ ixD a b = some d ∧ ∀ v, Rp ι H v d → Q v H
theorem ix_J (hu : X.A.units + 65 < cLine) : IxR X rIxJ := by
  intro value slice pins s σ H x y v u Q I rx ry h hsub
  obtain ⟨ι, hh, a, b, d, O, ra, rb, e, k⟩ := h
  by_cases hd : ∃ kvs, a = .dict kvs
  case pos =>
    obtain ⟨kvs, rfl⟩ := hd
    have e : (if isKey b then dget kvs b else none) = some d := by cases b <;> exact e
    split at e
    case isFalse => cases e
    rename_i hk
    obtain ⟨p, ks, rfl, hp, rk, _⟩ := ra.dict
    obtain rfl : v = Value.ref p := rx
    obtain ⟨k', rfl, eb⟩ := key_rr rb hk
    subst eb
    obtain ⟨v', g, r'⟩ := dget_kv rk e
    have G : DGet H p (kV k') (some v') := .inl ⟨ks, k', hp, rfl, g.symm⟩
    exact tail_any (dict_typeIs I G) PySem.F.slot_dict_getitem.lookup (d_getItem (by have := hu; omega) I G ry fun w' s3 I3 rw' => ⟨v', H, I3, rw', k _ r'⟩) hsub
  refine ix_seq value slice pins s σ H x y v u Q I rx ry ?_ hsub
  unfold ixD at e
  split at e
  · exact absurd ⟨_, rfl⟩ hd
  · obtain ⟨p, xs, e1, hp, r1⟩ := ra.list
    obtain ⟨w, e2, r2⟩ := at_rp r1 e
    exact .inl ⟨p, xs, _, w, e1, rb.int, .inl hp, e2, k _ r2⟩
  · obtain ⟨p, xs, e1, hp, r1, _⟩ := ra.tuple
    obtain ⟨w, e2, r2⟩ := at_rp r1 e
    exact .inr (.inl ⟨p, xs, _, w, e1, rb.int, .inl hp, e2, k _ r2⟩)
  · split at e
    · rename_i z i hl
      cases q : J.atI z.cps.toList i with
      | none => rw [q] at e; cases e
      | some c =>
        rw [q] at e
        cases e
        exact .inr (.inr ⟨z, i, c, ra.str, rb.int, by rw [← lineN_eq]; exact hl, q, k _ (.str _)⟩)
    · cases e
  · cases e
theorem sIx_eq (n d : Nat) (o : Option Int) : J.sIx n d o = HT.sIx n d o := by cases o <;> rfl
theorem cut_rp {ι : Io} {H : Hp} {vs : List V} {ds : List D} {lo hi : Option Int} (r : RpAll ι H vs ds) : RpAll ι H (cutV vs lo hi) (cut ds lo hi) := by
  unfold cutV cut
  rw [sIx_eq, sIx_eq, r.length]
  exact (r.drop _).take _
theorem cut_whole {α : Type} {xs : List α} {lo hi : Option Int} (h : HT.sIx xs.length 0 lo = 0 ∧ HT.sIx xs.length xs.length hi = xs.length) : cut xs lo hi = xs := by
  unfold cut
  rw [sIx_eq, sIx_eq, h.1, h.2]
  simp
def rSlJ : V → Option Int → Option Int → Hp → VK → Prop := fun x lo hi H Q => ∃ ι h a d, HpOk ι H h ∧ Rr ι H x a ∧ slD a lo hi = some d ∧ Nw ι H Q d
theorem sl_J : SlR X rSlJ := by
  intro pins s σ H x v vl vu lo hi sl Q I rx hs pl pu h
  obtain ⟨ι, hh, a, d, O, ra, e, k⟩ := h
  refine SlR.or (sl_list (X := X)) (sl_tupA (X := X)) pins s σ H x v vl vu lo hi sl Q I rx hs pl pu ?_
  unfold slD at e
  split at e
  · cases e
    obtain ⟨p, xs, e1, hp, r1⟩ := ra.list
    exact .inl ⟨p, xs, e1, .inl hp, fun w nw => k.lst O nw (cut_rp r1)⟩
  · cases e
    obtain ⟨p, xs, e1, hp, r1, n1⟩ := ra.tuple
    refine .inr ⟨p, xs, e1, .inl hp, fun z => ?_, fun _ w nw => k.tup O nw (cut_rp r1)⟩
    rw [r1.length] at z
    rw [cut_whole z] at k
    exact k.same (.tup hp n1 r1) nl_tup
  · cases e
/-! ### built-ins of one argument -/
theorem bools_rp {ι : Io} {H : Hp} : ∀ {vs : List V} {ds : List D} {bs : List Bool}, RpAll ι H vs ds → boolsOf ds = some bs → vs = bs.map V.bl
  | _, _, _, .nil, e => by cases e; rfl
  | _, _, bs, .cons (d := d) (ds := ds) r rr, e => by
    cases r with
    | bl b =>
      simp only [boolsOf] at e
      cases q : boolsOf ds with
      | none => rw [q] at e; cases e
      | some cs => rw [q] at e; cases e; rw [bools_rp rr q]; rfl
    | _ => cases e
theorem ints_rp {ι : Io} {H : Hp} : ∀ {vs : List V} {ds : List D} {bs : List Int}, RpAll ι H vs ds → intsOf ds = some bs → vs = bs.map V.int
  | _, _, _, .nil, e => by cases e; rfl
  | _, _, bs, .cons (d := d) (ds := ds) r rr, e => by
    cases r with
    | int b =>
      simp only [intsOf] at e
      cases q : intsOf ds with
      | none => rw [q] at e; cases e
      | some cs => rw [q] at e; cases e; rw [ints_rp rr q]; rfl
    | _ => cases e
theorem strs_rp {ι : Io} {H : Hp} : ∀ {vs : List V} {ds : List D} {bs : List Str}, RpAll ι H vs ds → strsOf ds = some bs → vs = bs.map V.str
  | _, _, _, .nil, e => by cases e; rfl
  | _, _, bs, .cons (d := d) (ds := ds) r rr, e => by
    cases r with
    | str b =>
      simp only [strsOf] at e
      cases q : strsOf ds with
      | none => rw [q] at e; cases e
      | some cs => rw [q] at e; cases e; rw [strs_rp rr q]; rfl
    | _ => cases e
theorem rp_strs {ι : Io} {H : Hp} : ∀ ss : List Str, RpAll ι H (ss.map V.str) (ss.map PyData.str)
  | [] => .nil
  | _ :: r => .cons (.str _) (rp_strs r)
theorem maxI_spec : ∀ {ns : List Int} {m : Int}, maxI ns = some m → 0 < ns.length ∧ m ∈ ns ∧ ∀ y ∈ ns, y ≤ m
  | [], _, e => by cases e
  | [a], m, e => by cases e; exact ⟨by simp, by simp, by simp⟩
  | a :: b :: r, m, e => by
    simp only [maxI] at e
    cases q : maxI (b :: r) with
    | none => rw [q] at e; cases e
    | some k =>
      obtain ⟨_, h1, h2⟩ := maxI_spec q
      rw [q] at e
      simp only [Option.map_some, Option.some.injEq] at e
      refine ⟨by simp, ?_, fun y hy => ?_⟩
      · subst e
        split
        · exact List.mem_cons_self
        · exact List.mem_cons_of_mem _ h1
      · have : y = a ∨ y ≤ k := (List.mem_cons.mp hy).imp id (h2 y)
        subst e
        split <;> omega
theorem minI_spec : ∀ {ns : List Int} {m : Int}, minI ns = some m → 0 < ns.length ∧ m ∈ ns ∧ ∀ y ∈ ns, m ≤ y
  | [], _, e => by cases e
  | [a], m, e => by cases e; exact ⟨by simp, by simp, by simp⟩
  | a :: b :: r, m, e => by
    simp only [minI] at e
    cases q : minI (b :: r) with
    | none => rw [q] at e; cases e
    | some k =>
      obtain ⟨_, h1, h2⟩ := minI_spec q
      rw [q] at e
      simp only [Option.map_some, Option.some.injEq] at e
      refine ⟨by simp, ?_, fun y hy => ?_⟩
      · subst e
        split
        · exact List.mem_cons_self
        · exact List.mem_cons_of_mem _ h1
      · have : y = a ∨ k ≤ y := (List.mem_cons.mp hy).imp id (h2 y)
        subst e
        split <;> omega
def rBlt (f : Blt) : List V → Hp → VK → Prop := fun xs H Q => ∃ ι h x a d, xs = [x] ∧ HpOk ι H h ∧ Rr ι H x a ∧ bltD f a = some d ∧ Nw ι H Q d
theorem call_lenJ : CallR X (.builtin "len") (rBlt .len) := by
  intro pins s σ H xs us Q I rx h
  obtain ⟨ι, hh, x, a, d, e1, O, ra, e, k⟩ := h
  unfold bltD at e
  split at e <;> first | (rename_i q; cases q; done) | skip
  · cases e
    obtain ⟨p, ys, e2, hp, r1⟩ := ra.list
    subst e2
    refine call_len pins s σ H xs us Q I rx ⟨_, _, e1, .inl ⟨ys, .inl hp, rfl⟩, ?_⟩
    rw [r1.length]; exact k.int
  · cases e
    obtain ⟨p, ys, e2, hp, r1, _⟩ := ra.tuple
    subst e2
    refine call_len pins s σ H xs us Q I rx ⟨_, _, e1, .inr ⟨ys, .inl hp, rfl⟩, ?_⟩
    rw [r1.length]; exact k.int
  · split at e
    · rename_i hl
      cases e
      have := ra.str
      subst this
      exact call_len pins s σ H xs us Q I rx ⟨_, _, e1, ⟨by rw [← lineN_eq]; exact hl, rfl⟩, k.int⟩
    · cases e
  · cases e
theorem call_allJ (hc : X.calm = true) : CallR X (.builtin "all") (rBlt .all) := by
  intro pins s σ H xs us Q I rx h
  obtain ⟨ι, hh, x, a, d, e1, O, ra, e, k⟩ := h
  unfold bltD at e
  split at e <;> first | (rename_i q; cases q; done) | skip
  · rename_i ds q0
    cases q : boolsOf ds with
    | none => rw [q] at e; cases e
    | some bs =>
      rw [q] at e
      cases e
      obtain ⟨p, ys, e2, hp, r1⟩ := ra.list
      subst e2
      have := bools_rp r1 q
      subst this
      exact cr_all hc pins s σ H xs us Q I rx ⟨p, bs, e1, .inl hp, k.bool⟩
  · cases e
theorem call_anyJ (hc : X.calm = true) : CallR X (.builtin "any") (rBlt .any) := by
  intro pins s σ H xs us Q I rx h
  obtain ⟨ι, hh, x, a, d, e1, O, ra, e, k⟩ := h
  unfold bltD at e
  split at e <;> first | (rename_i q; cases q; done) | skip
  · rename_i ds q0
    cases q : boolsOf ds with
    | none => rw [q] at e; cases e
    | some bs =>
      rw [q] at e
      cases e
      obtain ⟨p, ys, e2, hp, r1⟩ := ra.list
      subst e2
      have := bools_rp r1 q
      subst this
      exact cr_any hc pins s σ H xs us Q I rx ⟨p, bs, e1, .inl hp, k.bool⟩
  · cases e
theorem call_maxJ (hc : X.calm = true) : CallR X (.builtin "max") (rBlt .max) := by
  intro pins s σ H xs us Q I rx h
  obtain ⟨ι, hh, x, a, d, e1, O, ra, e, k⟩ := h
  unfold bltD at e
  split at e <;> first | (rename_i q; cases q; done) | skip
  · rename_i ds q0
    cases q : intsOf ds with
    | none => rw [q] at e; cases e
    | some ns =>
      rw [q] at e
      cases q2 : maxI ns with
      | none => simp [q2] at e
      | some m =>
        simp only [Option.bind_some, q2, Option.map_some, Option.some.injEq] at e
        subst e
        obtain ⟨p, ys, e2, hp, r1⟩ := ra.list
        subst e2
        have := ints_rp r1 q
        subst this
        obtain ⟨h1, h2, h3⟩ := maxI_spec q2
        refine cr_max hc pins s σ H xs us Q I rx ⟨p, ns, e1, .inl hp, h1, fun m' a1 a2 => ?_⟩
        have : m' = m := by have := h3 _ a1; have := a2 _ h2; omega
        subst this
        exact k.int
  · cases e
theorem call_minJ (hc : X.calm = true) : CallR X (.builtin "min") (rBlt .min) := by
  intro pins s σ H xs us Q I rx h
  obtain ⟨ι, hh, x, a, d, e1, O, ra, e, k⟩ := h
  unfold bltD at e
  split at e <;> first | (rename_i q; cases q; done) | skip
  · rename_i ds q0
    cases q : intsOf ds with
    | none => rw [q] at e; cases e
    | some ns =>
      rw [q] at e
      cases q2 : minI ns with
      | none => simp [q2] at e
      | some m =>
        simp only [Option.bind_some, q2, Option.map_some, Option.some.injEq] at e
        subst e
        obtain ⟨p, ys, e2, hp, r1⟩ := ra.list
        subst e2
        have := ints_rp r1 q
        subst this
        obtain ⟨h1, h2, h3⟩ := minI_spec q2
        refine cr_min hc pins s σ H xs us Q I rx ⟨p, ns, e1, .inl hp, h1, fun m' a1 a2 => ?_⟩
        have : m' = m := by have := h3 _ a1; have := a2 _ h2; omega
        subst this
        exact k.int
  · cases e
theorem call_sumJ (hc : X.calm = true) : CallR X (.builtin "sum") (rBlt .sum) := by
  intro pins s σ H xs us Q I rx h
  obtain ⟨ι, hh, x, a, d, e1, O, ra, e, k⟩ := h
  unfold bltD at e
  split at e <;> first | (rename_i q; cases q; done) | skip
  · rename_i ds q0
    cases q : intsOf ds with
    | none => rw [q] at e; cases e
    | some ns =>
      rw [q] at e
      cases e
      obtain ⟨p, ys, e2, hp, r1⟩ := ra.list
      subst e2
      have := ints_rp r1 q
      subst this
      exact cr_sum hc pins s σ H xs us Q I rx ⟨p, ns, e1, .inl hp, k.int⟩
  · rename_i ds q0
    cases q : intsOf ds with
    | none => rw [q] at e; cases e
    | some ns =>
      rw [q] at e
      cases e
      obtain ⟨p, ys, e2, hp, r1, _⟩ := ra.tuple
      subst e2
      have := ints_rp r1 q
      subst this
      obtain ⟨its, rv, hl, _⟩ := I.tuple (.inl hp)
      subst e1
      rw [Vals.ref1 rx]
      obtain ⟨zs, ez⟩ := rv.ints.allInts.items
      have hn : numsOf (intItems zs).toList = ns := by rw [← ez]; exact rv.ints.numsOf
      rw [nums_intItems] at hn
      rw [ez] at hl
      refine PySem.W.ktm_sumG (I.ok.hd hc) hl fun h' tk t' hk => ?_
      rw [preSum_eq, List.take_of_length_le (by simp), hn]
      exact ⟨.int _, H, I.kept hk, ⟨_, rfl⟩, k.int⟩
  · cases e
theorem call_absJ : CallR X (.builtin "abs") (rBlt .abs) := by
  intro pins s σ H xs us Q I rx h
  obtain ⟨ι, hh, x, a, d, e1, O, ra, e, k⟩ := h
  unfold bltD at e
  split at e <;> first | (rename_i q; cases q; done) | skip
  · cases e
    have := ra.int
    subst this
    exact call_abs pins s σ H xs us Q I rx ⟨_, e1, k.int⟩
  · cases e
theorem call_tupleJ : CallR X (.type "tuple") (rBlt .tuple) := by
  intro pins s σ H xs us Q I rx h
  obtain ⟨ι, hh, x, a, d, e1, O, ra, e, k⟩ := h
  unfold bltD at e
  split at e <;> first | (rename_i q; cases q; done) | skip
  · cases e
    obtain ⟨p, ys, e2, hp, r1⟩ := ra.list
    subst e2
    exact call_tuple_of pins s σ H xs us Q I rx ⟨p, ys, e1, .inl ⟨.inl hp, fun w nw => k.tup O nw r1⟩⟩
  · cases e
    obtain ⟨p, ys, e2, hp, r1, n1⟩ := ra.tuple
    subst e2
    exact call_tuple_of pins s σ H xs us Q I rx ⟨p, ys, e1, .inr ⟨.inl hp, k.same (.tup hp n1 r1) nl_tup⟩⟩
  · cases e
theorem pairsOf_cons {d : D} {es : List D} {ds : List (D × D)} (e : pairsOf (d :: es) = some ds) : ∃ k x r, d = .tuple [k, x] ∧ isKey k = true ∧ pairsOf es = some r ∧ ds = (k, x) :: r := by
  unfold pairsOf at e
  split at e
  · rename_i h; cases h
  · rename_i k x r h
    cases h
    split at e
    · rename_i hk
      cases q : pairsOf es with
      | none => rw [q] at e; cases e
      | some ps => rw [q] at e; cases e; exact ⟨k, x, ps, rfl, hk, rfl, rfl⟩
    · cases e
  · cases e
theorem pairs_rp {K : PySem.W.Frag} {ι : Io} {H : Hp} : ∀ {xs : List D} {vs : List V} {ds : List (D × D)}, RpAll ι H vs xs → pairsOf xs = some ds → ∃ (ps : List Addr) (kvs : List (Key × V)), vs = ps.map V.ref ∧ Paired (fun p kv => SqT K H p [kV kv.1, kv.2]) ps kvs ∧ RpKV ι H kvs ds
  | [], _, ds, r, e => by
    cases r
    cases e
    exact ⟨[], [], rfl, .nil, .nil⟩
  | d :: es, _, ds, r, e => by
    obtain ⟨k, x, ps, rfl, hk, q, rfl⟩ := pairsOf_cons e
    cases r with
    | cons r rr =>
      obtain ⟨as, kvs, e1, P, R⟩ := pairs_rp rr q
      subst e1
      cases r with
      | tup hq nl rt =>
        cases rt with
        | cons rk rt =>
          cases rt with
          | cons rx rt =>
            cases rt
            obtain ⟨k', ek, eb⟩ := key_rr (.inl rk) hk
            subst ek eb
            exact ⟨_ :: as, (k', _) :: kvs, rfl, .cons (.inl hq) P, .cons rx R⟩
theorem call_dictJ (hc : X.calm = true) : CallR X (.type "dict") (rBlt .dict) := by
  intro pins s σ H xs us Q I rx h
  obtain ⟨ι, hh, x, a, d, e1, O, ra, e, k⟩ := h
  unfold bltD at e
  split at e <;> first | (rename_i q; cases q; done) | skip
  · rename_i ds q0
    cases q : pairsOf ds with
    | none => rw [q] at e; cases e
    | some ps =>
      rw [q] at e
      cases e
      obtain ⟨p, ys, e2, hp, r1⟩ := ra.list
      obtain ⟨as, kvs, e3, P, R⟩ := pairs_rp (K := X.K) r1 q
      subst e2 e3
      exact call_dictP hc pins s σ H xs us Q I rx ⟨p, as, kvs, e1, .inl hp, P, fun w nw => k.dct O nw (dictOf_kv R)⟩
  · cases e
theorem call_listJ : CallR X (.type "list") (rBlt .list) := by
  intro pins s σ H xs us Q I rx h
  obtain ⟨ι, hh, x, a, d, e1, O, ra, e, k⟩ := h
  unfold bltD at e
  split at e <;> first | (rename_i q; cases q; done) | skip
  · cases e
    obtain ⟨p, ys, e2, hp, r1⟩ := ra.list
    subst e2
    exact call_list_of pins s σ H xs us Q I rx ⟨p, ys, e1, .inl (.inl hp), fun w nw => k.lst O nw r1⟩
  · cases e
    obtain ⟨p, ys, e2, hp, r1, n1⟩ := ra.tuple
    subst e2
    exact call_list_of pins s σ H xs us Q I rx ⟨p, ys, e1, .inr (.inl hp), fun w nw => k.lst O nw r1⟩
  · cases e
theorem call_intJ : CallR X (.type "int") (rBlt .int) := by
  intro pins s σ H xs us Q I rx h
  obtain ⟨ι, hh, x, a, d, e1, O, ra, e, k⟩ := h
  unfold bltD at e
  split at e <;> first | (rename_i q; cases q; done) | skip
  · cases e
    have := ra.int
    subst this
    exact call_int1 pins s σ H xs us Q I rx (.inl ⟨_, e1, k.int⟩)
  · cases e
    have := ra.bool
    subst this
    exact call_int1 pins s σ H xs us Q I rx (.inr ⟨_, e1, k.int⟩)
  · cases e
theorem call_strJ : CallR X (.type "str") (rBlt .str) := by
  intro pins s σ H xs us Q I rx h
  obtain ⟨ι, hh, x, a, d, e1, O, ra, e, k⟩ := h
  unfold bltD at e
  split at e <;> first | (rename_i q; cases q; done) | skip
  · split at e
    · rename_i hl
      cases e
      have := ra.int
      subst this
      exact call_str_int pins s σ H xs us Q I rx ⟨_, e1, hl, k.str⟩
    · cases e
  · cases e
    have := ra.bool
    subst this
    subst e1
    obtain ⟨u, rfl, r1⟩ := vals1 rx
    cases r1
    exact PySem.P.str_of_bool ⟨.str _, H, I.tok _, ⟨_, rfl⟩, k.str⟩
  · cases e
theorem call_sortedJ : CallR X (.builtin "sorted") (rBlt .sorted) := by
  intro pins s σ H xs us Q I rx h
  obtain ⟨ι, hh, x, a, d, e1, O, ra, e, k⟩ := h
  unfold bltD at e
  split at e <;> first | (rename_i q; cases q; done) | skip
  · rename_i ds q0
    cases q : strsOf ds with
    | none => rw [q] at e; cases e
    | some ss =>
      rw [q] at e
      simp only [Option.bind_some] at e
      split at e
      · rename_i hl
        cases e
        obtain ⟨p, ys, e2, hp, r1⟩ := ra.list
        subst e2
        have := strs_rp r1 q
        subst this
        refine cr_sortedS pins s σ H xs us Q I rx ⟨p, ss, e1, .inl hp, hl, fun ys w h1 h2 nw => ?_⟩
        rw [sorted_once h1 h2]
        exact k.lst O nw (rp_strs _)
      · cases e
  · cases e
end
end J
end JOps

section JExp
set_option Elab.async false
set_option linter.all false
set_option maxRecDepth 100000
set_option autoImplicit false
set_option maxHeartbeats 4000000
/-! J.Exp: each construct of an expression, by its parts. -/
namespace J
open PySem PySem.Spec PyProof.Rows L2
/-- where an expression stands: the def's names by slot, the kinds of the names, the scope as written -/
structure SC where
  N : List Str
  sc : Scope
  wr : Scope
/-- what is known of the program: T its defs, by at most n calls one in another; E its exceptions -/
structure Pg (P : Program) (w : World) (K : PySem.W.Frag) (mg : Str → Option Value) (base : Heap) (T : String → Option CDef) (Bs Es : List String) (n : Nat) : Prop where
  fn : ∀ f c, T f = some c → mg (Str.ofString f) = some (.ref (He.ga K (Str.ofString f))) ∧ PySem.W.keepIn K (.ref (He.ga K (Str.ofString f))) = true ∧ ∃ fd ps, ps.length = c.params ∧ Binds K fd ps [] ∧
    FnOk P w K mg base (L2.CX P w) n (He.ga K (Str.ofString f)) fd ps (fun vs H Q E => vs.length = c.params ∧ ∃ ι pvs h, Paired (RelPV ι H) vs pvs ∧ HpOk ι H h ∧
      Fin (fun cls d _ H' => E cls d H') K ι H [] (run T n f pvs h) fun pv _ ι' H' => ∀ v, RelPV ι' H' v pv → Q v H')
  free : ∀ x ∈ Bs, mg (Str.ofString x) = none
  exc : ∀ c ∈ Es, mg (Str.ofString c) = some (.ref (He.ga K (Str.ofString c))) ∧ PySem.W.excIn K (He.ga K (Str.ofString c)) He.veBase "ValueError.__new__" = true ∧ PySem.W.keepIn K (.ref (He.ga K (Str.ofString c))) = true ∧
    PySem.W.subIn K (.ref (He.ga K (Str.ofString c))) (.type "BaseException") = some true ∧ PySem.W.typeIn K (.ref (He.ga K (Str.ofString c))) = some (.type "type")
  exm : ∀ c ∈ Es, ∀ d ∈ Es, PySem.W.exmOne K (.ref (He.ga K (Str.ofString c))) (.ref (He.ga K (Str.ofString d))) = some (c == d)
structure Good (P : Program) (w : World) (K : PySem.W.Frag) (mg : Str → Option Value) (base : Heap) (n : Nat) (S : SC) (X : Cx) (W : WX) : Prop where
  prog : X.prog = P
  world : X.w = w
  frag : X.K = K
  glob : X.mg = mg
  bas : X.base = base
  names : X.N = S.N
  nd : S.N.Nodup
  scope : X.env.scope = S.sc
  kind : S.sc.kind = .function
  st : ∀ x, (S.wr.names.lookup x = some .local ∨ S.wr.names.lookup x = some .cell) → Loc S.sc x ∧ (X.fn x = true ∨ S.sc.names.lookup x = some .local)
  calm : X.calm = true
  room : Room n X.A
  takes : Takes X W
section
variable {P : Program} {w : World} {K : PySem.W.Frag} {mg : Str → Option Value} {base : Heap} {n : Nat} {S : SC} {X : Cx} {W : WX} {e e1 e2 : Expr} {fr fr1 fr2 fr3 : Bool} {m m1 m2 m3 : PEnv → PH → Rs PV} {pos : Pos}
theorem Good.units (G : Good P w K mg base n S X W) : X.A.units + 65 < cLine := by have := G.room.un; omega
theorem unf {m : PEnv → PH → Rs PV} (h : PE X e (TD W K fr m)) : PE X e (TD W K false m) := PE.imp h fun σ H Q ⟨ι, σp, hh, so, O, F⟩ => ⟨ι, σp, hh, so, O, F.imp fun pv h1 ι1 H1 _ _ q v rv _ => q v rv fun z => nomatch z⟩
/-! ### names, constants -/
def SC.vis (S : SC) (i : Nat) (x : Str) : Bool := decide (S.N[i]? = some x) && ((match S.sc.names.lookup x with | some .local => true | some .cell => true | some .free => true | _ => false) && (!(x == ("__debug__" : Str)) && !(x == ("__classdict__" : Str))))
def SC.glb (S : SC) (x : Str) : Bool := (match S.sc.names.lookup x with | some .globalImplicit => true | _ => false) && (!(x == ("__debug__" : Str)) && !(x == ("__name__" : Str)))
theorem ba {a b : Bool} (h : (a && b) = true) : a = true ∧ b = true := Bool.and_eq_true_iff.mp h
theorem nt {a : Bool} (h : (!a) = true) : a = false := by cases a <;> first | rfl | cases h
theorem Good.name (G : Good P w K mg base n S X W) {i : Nat} {x : Str} (h : S.vis i x = true) : PE X (.Name x pos) (tVar i) := by
  obtain ⟨h1, h2⟩ := ba h
  obtain ⟨h2, h3⟩ := ba h2
  obtain ⟨h3, h4⟩ := ba h3
  refine pe_var (by rw [G.names]; exact of_decide_eq_true h1) ?_ (nt h3) (nt h4)
  rw [G.scope]
  unfold Vis
  split at h2
  · exact .inl ‹_›
  · exact .inr (.inl ‹_›)
  · exact .inr (.inr ‹_›)
  · cases h2
theorem Good.gl (G : Good P w K mg base n S X W) {x : Str} (h : S.glb x = true) : Gl X x ∧ (x == ("__debug__" : Str)) = false ∧ x ≠ "__name__" := by
  obtain ⟨h1, h2⟩ := ba h
  obtain ⟨h2, h3⟩ := ba h2
  refine ⟨?_, nt h2, fun z => ?_⟩
  · unfold Gl Env.kindOf
    rw [G.scope]
    split at h1
    · assumption
    · cases h1
  · subst z
    exact absurd h3 (by simp)
theorem s_var (G : Good P w K mg base n S X W) {i : Nat} {x : Str} (h : S.vis i x = true) (Γ : Fns) : PE X (.Name x pos) (TD W K false (ev Γ (.var i))) := by
  refine PE.imp (G.name h) fun σ H Q ⟨ι, σp, hh, so, O, F⟩ => ?_
  simp only [ev] at F
  split at F
  · rename_i v q
    obtain ⟨u, e1, r⟩ := so.get i _ q
    exact ⟨u, e1, F ι H .refl O u r.1 (fun z => nomatch z)⟩
  · rename_i v _ q
    obtain ⟨u, e1, r⟩ := so.get i v q
    exact ⟨u, e1, F ι H .refl O u r (fun z => nomatch z)⟩
  · exact F.elim
theorem s_kvar (G : Good P w K mg base n S X W) {i : Nat} {x : Str} (h : S.vis i x = true) (Γ : Fns) : PE X (.Name x pos) (TD W K false (ev Γ (.kvar i))) := by
  refine PE.imp (G.name h) fun σ H Q ⟨ι, σp, hh, so, O, F⟩ => ?_
  simp only [ev] at F
  split at F
  · rename_i v q
    obtain ⟨u, e1, r⟩ := so.get i v q
    exact ⟨u, e1, F ι H .refl O u r (fun z => nomatch z)⟩
  · exact F.elim
theorem s_lit {x : Lit} {j : Nat} (Γ : Fns) {c : Const} (hc : (match x, c with | .non, .none => true | .bl b, .bool b' => b == b' | .int i, .int i' => i == i' | .str s, .str s' => Str.ofString s == s' | _, _ => false) = true) : PE X (.Constant c j pos) (TD W K false (ev Γ (.lit x))) := by
  have key : ∀ (v : V) (t : TE), (∀ σ H Q, t σ H Q = Q v H) → (∀ ι H, Rp ι H v x.dat) → PE X (.Constant c j pos) t → PE X (.Constant c j pos) (TD W K false (ev Γ (.lit x))) := fun v t ht hr hp =>
    PE.imp hp fun σ H Q ⟨ι, σp, hh, so, O, F⟩ => by
      rw [ht]
      simp only [ev] at F
      exact F ι H .refl O v (hr ι H) (fun z => nomatch z)
  split at hc
  · exact key .non (tC .non) (fun _ _ _ => rfl) (fun _ _ => .non) pe_non
  · rename_i b b'
    have := eq_of_beq hc
    subst this
    exact key (.bl b) (tC (.bl b)) (fun _ _ _ => rfl) (fun _ _ => .bl b) pe_bl
  · have := eq_of_beq hc
    subst this
    exact key _ (tC _) (fun _ _ _ => rfl) (fun _ _ => .int _) pe_int
  · have := eq_of_beq hc
    subst this
    exact key _ (tC _) (fun _ _ _ => rfl) (fun _ _ => .str _) pe_str
  · cases hc
/-! ### two expressions, a value-level rule -/
theorem td2 {r : R2} {f : PV → PV → PH → Rs PV} {σ : L2.St} {H : Hp} {Q : VK} (h : TD W K fr (fun σ h => (m1 σ h).bind fun x h1 => (m2 σ h1).bind fun y h2 => f x y h2) σ H Q)
    (hr : ∀ (ι : Io) (H0 H : Hp) (hh : PH) (v u : V) (x y : PV), HpOk ι H hh → RelPV ι H v x → RelPV ι H u y → (∀ a o, H0 a = some o → ∃ o', H a = some o') → Fin W K ι H σ (f x y hh) (PostV H0 fr Q) → r v u H Q) :
    tOp r (TD W K false m1) (TD W K false m2) σ H Q := by
  obtain ⟨ι, σp, hh, so, O, F⟩ := h
  refine ⟨ι, σp, hh, so, O, F.bind.imp ?_⟩
  intro x h1 ι1 H1 E1 O1 F1 v rv _
  refine ⟨ι1, σp, h1, so.mono E1.toMn, O1, F1.bind.imp ?_⟩
  intro y h2 ι2 H2 E2 O2 F2 u ru _
  exact hr ι2 H H2 h2 v u x y O2 (rv.mono E2.toMn) ru (E1.trans E2).trk F2
theorem td1 {r : V → Hp → VK → Prop} {f : PV → PH → Rs PV} {σ : L2.St} {H : Hp} {Q : VK} (h : TD W K fr (fun σ h => (m1 σ h).bind fun x h1 => f x h1) σ H Q)
    (hr : ∀ (ι : Io) (H0 H : Hp) (hh : PH) (v : V) (x : PV), HpOk ι H hh → RelPV ι H v x → (∀ a o, H0 a = some o → ∃ o', H a = some o') → Fin W K ι H σ (f x hh) (PostV H0 fr Q) → r v H Q) :
    TD W K false m1 σ H fun v H1 => r v H1 Q := by
  obtain ⟨ι, σp, hh, so, O, F⟩ := h
  refine ⟨ι, σp, hh, so, O, F.bind.imp ?_⟩
  intro x h1 ι1 H1 E1 O1 F1 v rv _
  exact hr ι1 H H1 h1 v x O1 rv E1.trk F1
/-- what follows a new value -/
theorem nw_of {ι : Io} {H0 H : Hp} {hh : PH} {σ : L2.St} {Q : VK} {o : Option D} (O : HpOk ι H hh) (T : ∀ a o, H0 a = some o → ∃ o', H a = some o') (F : Fin W K ι H σ (ofO (o.map PV.d) hh) (PostV H0 fr Q)) : ∃ d, o = some d ∧ Nw ι H Q d := by
  cases o with
  | none => exact F.elim
  | some d =>
    refine ⟨d, rfl, fun v H' g r nl => ?_⟩
    refine F ι H' (Ext.grow O g) (O.grow g) v r fun _ ds e => ?_
    cases e
    obtain ⟨p, xs, e1, np, e2, rr⟩ := nl ds rfl
    subst e1 e2
    exact newL_of rfl O T np rr ds rfl
theorem bind2 {α β γ : Type} {o : Option α} {p : Option β} {f : α → β → Option γ} {c : γ} (h : (o.bind fun x => p.bind fun y => f x y) = some c) : ∃ a b, o = some a ∧ p = some b ∧ f a b = some c := by
  cases o with
  | none => cases h
  | some a => cases p with
    | none => cases h
    | some b => exact ⟨a, b, rfl, rfl, h⟩
theorem map2 {α β γ δ : Type} {o : Option α} {p : Option β} {f : α → β → Option γ} {g : γ → δ} : (o.bind fun x => p.bind fun y => (f x y).map g) = (o.bind fun x => p.bind fun y => f x y).map g := by
  cases o with
  | none => rfl
  | some a => cases p with
    | none => rfl
    | some b => rfl
theorem s_bin (o : Bin) (h1 : PE X e1 (TD W K fr1 m1)) (h2 : PE X e2 (TD W K fr2 m2)) : PE X (.BinOp e1 (opB o) e2 pos) (TD W K true fun σ h => (m1 σ h).bind fun x h1 => (m2 σ h1).bind fun y h2 => ofO ((val h2 x).bind fun x => (val h2 y).bind fun y => (binD o x y).map .d) h2) := by
  refine PE.imp (pe_op (op_bin o) (unf h1) (unf h2)) fun σ H Q h => td2 h ?_
  intro ι H0 H hh v u x y O rv ru T F
  rw [map2] at F
  obtain ⟨d, e, k⟩ := nw_of O T F
  obtain ⟨a, b, ea, eb, ed⟩ := bind2 e
  exact ⟨ι, hh, a, b, d, O, val_ok O rv ea, val_ok O ru eb, ed, k⟩
theorem bool_of {ι : Io} {H0 H : Hp} {hh : PH} {σ : L2.St} {Q : VK} {o : Option Bool} (O : HpOk ι H hh) (F : Fin W K ι H σ (ofO (o.map fun b => PV.d (.bool b)) hh) (PostV H0 fr Q)) : ∃ d, o = some d ∧ Q (.bl d) H := by
  cases o with
  | none => exact F.elim
  | some d => exact ⟨d, rfl, F ι H .refl O (.bl d) (.bl d) (fun _ ds e => nomatch e)⟩
theorem s_cmp (G : Good P w K mg base n S X W) (o : Cmp) (h1 : PE X e1 (TD W K fr1 m1)) (h2 : PE X e2 (TD W K fr2 m2)) (hm : behindInMarks (opC o) e2 = false) : PE X (.Compare e1 [opC o] [e2] pos) (TD W K false fun σ h => (m1 σ h).bind fun x h1 => (m2 σ h1).bind fun y h2 => ofO ((val h2 x).bind fun x => (val h2 y).bind fun y => (cmpD o x y).map fun b => .d (.bool b)) h2) := by
  refine PE.imp (pe_cmpR (op_cmp G.units o) (unf h1) (unf h2) hm) fun σ H Q h => td2 h ?_
  intro ι H0 H hh v u x y O rv ru T F
  rw [map2] at F
  obtain ⟨d, e, k⟩ := bool_of O F
  obtain ⟨a, b, ea, eb, ed⟩ := bind2 e
  exact ⟨ι, hh, a, b, d, O, val_ok O rv ea, val_ok O ru eb, ed, k⟩
theorem s_ix (G : Good P w K mg base n S X W) (h1 : PE X e1 (TD W K fr1 m1)) (h2 : PE X e2 (TD W K fr2 m2)) (hp : PlainIx e2) : PE X (.Subscript e1 e2 pos) (TD W K false fun σ h => (m1 σ h).bind fun x h1 => (m2 σ h1).bind fun y h2 => ofO ((val h2 x).bind fun x => (val h2 y).bind fun y => (ixD x y).map .d) h2) := by
  refine PE.imp (pe_ix (ix_J G.units) (unf h1) (unf h2) hp) fun σ H Q h => td2 h ?_
  intro ι H0 H hh v u x y O rv ru T F
  rw [map2] at F
  cases q : (val hh x).bind fun x => (val hh y).bind fun y => ixD x y with
  | none => rw [q] at F; exact F.elim
  | some d =>
    rw [q] at F
    obtain ⟨a, b, ea, eb, ed⟩ := bind2 q
    exact ⟨ι, hh, a, b, d, O, val_ok O rv ea, val_ok O ru eb, ed, fun v r => F ι H .refl O v r fun z => nomatch z⟩
/-! ### one expression -/
theorem bind1 {α β : Type} {o : Option α} {f : α → Option β} {c : β} (h : (o.bind fun x => f x) = some c) : ∃ a, o = some a ∧ f a = some c := by
  cases o with
  | none => cases h
  | some a => exact ⟨a, rfl, h⟩
theorem map1 {α γ δ : Type} {o : Option α} {f : α → Option γ} {g : γ → δ} : (o.bind fun x => (f x).map g) = (o.bind fun x => f x).map g := by
  cases o with
  | none => rfl
  | some a => rfl
theorem s_neg (h1 : PE X e1 (TD W K fr1 m1)) : PE X (.UnaryOp .USub e1 pos) (TD W K false fun σ h => (m1 σ h).bind fun x h1 => match x with | .d (.int i) => .ok (.d (.int (-i))) h1 | _ => .stuck) := by
  refine PE.imp (pe_un un_neg (unf h1)) fun σ H Q h => td1 (r := rU fun i => .int (-i)) h ?_
  intro ι H0 H hh v x O rv T F
  split at F
  · rename_i i
    cases rv
    exact ⟨i, rfl, F ι H .refl O _ (.int _) fun z => nomatch z⟩
  · exact F.elim
theorem s_not (h1 : PE X e1 (TD W K fr1 m1)) : PE X (.UnaryOp .Not e1 pos) (TD W K false fun σ h => (m1 σ h).bind fun x h1 => ofO ((val h1 x).bind fun x => (truD x).map fun b => .d (.bool (!b))) h1) := by
  refine PE.imp (pe_notT (unf h1)) fun σ H Q h => td1 (r := fun v H Q => ∃ k, TruV X.K v H k ∧ Q (.bl (!k)) H) h ?_
  intro ι H0 H hh v x O rv T F
  rw [map1] at F
  cases q : (val hh x).bind truD with
  | none => rw [q] at F; exact F.elim
  | some b =>
    rw [q] at F
    obtain ⟨a, ea, eb⟩ := bind1 q
    exact ⟨b, tru_rr (val_ok O rv ea) eb, F ι H .refl O _ (.bl _) fun z => nomatch z⟩
theorem s_isn {j : Nat} {p2 : Pos} (h1 : PE X e1 (TD W K fr1 m1)) : PE X (.Compare e1 [.Is] [.Constant .none j p2] pos) (TD W K false fun σ h => (m1 σ h).bind fun x h1 => .ok (.d (.bool (isNoneV x))) h1) := by
  refine PE.imp (pe_cmp (pc_isN (unf h1))) fun σ H Q h => td1 (r := fun v H Q => Q (.bl (decide (v = .non))) H) h ?_
  intro ι H0 H hh v x O rv T F
  have e : decide (v = .non) = (isNoneV x) := by
    cases x with
    | cell n => obtain ⟨_, a, e, _⟩ := rv; subst e; rfl
    | k y => obtain ⟨_, ⟨a, _, _, e, _⟩, _⟩ := rv; subst e; rfl
    | d y => cases rv <;> rfl
  rw [e]
  exact F ι H .refl O _ (.bl _) fun z => nomatch z
theorem s_notn {j : Nat} {p2 : Pos} (h1 : PE X e1 (TD W K fr1 m1)) : PE X (.Compare e1 [.IsNot] [.Constant .none j p2] pos) (TD W K false fun σ h => (m1 σ h).bind fun x h1 => .ok (.d (.bool (!isNoneV x))) h1) := by
  refine PE.imp (pe_cmp (pc_notN (unf h1))) fun σ H Q h => td1 (r := fun v H Q => Q (.bl (!decide (v = .non))) H) h ?_
  intro ι H0 H hh v x O rv T F
  have e : (!decide (v = .non)) = (!isNoneV x) := congrArg (!·) (show decide (v = .non) = isNoneV x from by
    cases x with
    | cell n => obtain ⟨_, a, e, _⟩ := rv; subst e; rfl
    | k y => obtain ⟨_, ⟨a, _, _, e, _⟩, _⟩ := rv; subst e; rfl
    | d y => cases rv <;> rfl)
  rw [e]
  exact F ι H .refl O _ (.bl _) fun z => nomatch z
/-! ### and, or, a if c else b -/
theorem post0 {H0 H : Hp} {Q : VK} {ι : Io} {H' : Hp} {σ : L2.St} {r : Rs PV} (F : Fin W K ι H' σ r (PostV H0 false Q)) : Fin W K ι H' σ r (PostV H false Q) := F.imp fun pv h2 ι2 H2 _ _ q v r n => q v r fun z => nomatch z
theorem td_tru {K' : PySem.W.Frag} {g : PEnv → PV → Bool → PH → Rs PV} {σ : L2.St} {H : Hp} {Q : VK} {R : Bool → V → Hp → Prop} (h : TD W K false (fun σ h => (m1 σ h).bind fun x h1 => (ofO ((val h1 x).bind truD) h1).bind fun k h2 => g σ x k h2) σ H Q)
    (hr : ∀ (ι : Io) (H : Hp) (hh : PH) (v : V) (x : PV) (k : Bool) (σp : PEnv), SOk ι H σp σ → HpOk ι H hh → RelPV ι H v x → Fin W K ι H σ (g σp x k hh) (PostV H false Q) → R k v H) :
    TD W K false m1 σ H fun v H1 => ∃ k, TruV K' v H1 k ∧ R k v H1 := by
  obtain ⟨ι, σp, hh, so, O, F⟩ := h
  refine ⟨ι, σp, hh, so, O, F.bind.imp ?_⟩
  intro x h1 ι1 H1 E1 O1 F1 v rv _
  have F2 := F1.bind
  cases q : (val h1 x).bind truD with
  | none => rw [q] at F2; exact F2.elim
  | some k =>
    rw [q] at F2
    obtain ⟨a, ea, eb⟩ := bind1 q
    exact ⟨k, tru_rr (val_ok O1 rv ea) eb, hr ι1 H1 h1 v x k σp (so.mono E1.toMn) O1 rv (post0 (F2 ι1 H1 .refl O1))⟩
theorem s_and {rest : List Expr} (h1 : PE X e1 (TD W K fr1 m1)) (h2 : PE X (.BoolOp .And (e2 :: rest) pos) (TD W K fr2 m2)) : PE X (.BoolOp .And (e1 :: e2 :: rest) pos) (TD W K false fun σ h => (m1 σ h).bind fun x h1 => (ofO ((val h1 x).bind truD) h1).bind fun k h2 => match k with | true => m2 σ h2 | false => .ok x h2) := by
  refine PE.imp (pe_andT (unf h1) (unf h2)) fun σ H Q h => td_tru (g := fun σ x k h2 => match k with | true => m2 σ h2 | false => .ok x h2) (R := fun k v H1 => if k = true then TD W K false m2 σ H1 Q else Q v H1) h ?_
  intro ι H hh v x k σp so O rv F
  cases k with
  | true => rw [if_pos rfl]; exact ⟨ι, σp, hh, so, O, F⟩
  | false => rw [if_neg (by decide)]; exact F ι H .refl O v rv fun z => nomatch z
theorem s_or {rest : List Expr} (h1 : PE X e1 (TD W K fr1 m1)) (h2 : PE X (.BoolOp .Or (e2 :: rest) pos) (TD W K fr2 m2)) : PE X (.BoolOp .Or (e1 :: e2 :: rest) pos) (TD W K false fun σ h => (m1 σ h).bind fun x h1 => (ofO ((val h1 x).bind truD) h1).bind fun k h2 => match k with | true => .ok x h2 | false => m2 σ h2) := by
  refine PE.imp (pe_orT (unf h1) (unf h2)) fun σ H Q h => td_tru (g := fun σ x k h2 => match k with | true => .ok x h2 | false => m2 σ h2) (R := fun k v H1 => if k = true then Q v H1 else TD W K false m2 σ H1 Q) h ?_
  intro ι H hh v x k σp so O rv F
  cases k with
  | true => rw [if_pos rfl]; exact F ι H .refl O v rv fun z => nomatch z
  | false => rw [if_neg (by decide)]; exact ⟨ι, σp, hh, so, O, F⟩
theorem s_one {op : BoolOp} (h1 : PE X e1 (TD W K fr1 m1)) : PE X (.BoolOp op [e1] pos) (TD W K fr1 m1) := pe_one h1
/-! ### tests -/
/-- a test's reading -/
def TB (W : WX) (K : PySem.W.Frag) (m : PEnv → PH → Rs PV) : TT := fun σ H Q => ∃ ι σp h, SOk ι H σp σ ∧ HpOk ι H h ∧ Fin W K ι H σ ((m σp h).bind fun x h1 => ofO ((val h1 x).bind truD) h1) fun b _ _ H' => Q b H'
theorem tb_tru {K' : PySem.W.Frag} {σ : L2.St} {H : Hp} {Q : Bool → Hp → Prop} (h : TB W K m1 σ H Q) : TD W K false m1 σ H fun v H1 => ∃ k, TruV K' v H1 k ∧ Q k H1 := by
  obtain ⟨ι, σp, hh, so, O, F⟩ := h
  refine ⟨ι, σp, hh, so, O, F.bind.imp ?_⟩
  intro x h1 ι1 H1 E1 O1 F1 v rv _
  cases q : (val h1 x).bind truD with
  | none => rw [q] at F1; exact F1.elim
  | some k =>
    rw [q] at F1
    obtain ⟨a, ea, eb⟩ := bind1 q
    exact ⟨k, tru_rr (val_ok O1 rv ea) eb, F1 ι1 H1 .refl O1⟩
/-- a test whose truth is its value's -/
theorem t_val (h1 : PE X e1 (TD W K fr1 m1)) (he : ∀ whole, isTrue e1 X.env whole = (do let v ← whole; standAt e1.pos; holding [v] (truthy v))) : PT X e1 (TB W K m1) :=
  PT.imp (pt_truth (unf h1) he) fun σ H Q h => tb_tru h
/-- a test whose value is a bool -/
theorem t_bool (h1 : PT X e1 (fun σ H Q => TD W K false m1 σ H fun x H' => ∃ k, x = .bl k ∧ Q k H')) (hb : ∀ σp h x h1, m1 σp h = .ok x h1 → ∃ b, x = .d (.bool b)) : PT X e1 (TB W K m1) :=
  PT.imp h1 fun σ H Q ⟨ι, σp, hh, so, O, F⟩ => by
    refine ⟨ι, σp, hh, so, O, ?_⟩
    have F' := F.bind
    cases q : m1 σp hh with
    | stuck => rw [q] at F'; exact F'.elim
    | exc c h1 => rw [q] at F'; exact F'
    | ok x h1 =>
      obtain ⟨b, e⟩ := hb _ _ _ _ q
      subst e
      rw [q] at F'
      intro ι1 H1 E1 O1 v rv _
      cases rv
      exact ⟨b, rfl, F' ι1 H1 E1 O1 ι1 H1 .refl O1⟩
theorem t_not (h1 : PT X e1 (TB W K m1)) : PT X (.UnaryOp .Not e1 pos) (TB W K fun σ h => (m1 σ h).bind fun x h1 => ofO ((val h1 x).bind fun x => (truD x).map fun b => .d (.bool (!b))) h1) :=
  PT.imp (pt_not h1) fun σ H Q ⟨ι, σp, hh, so, O, F⟩ => by
    refine ⟨ι, σp, hh, so, O, ?_⟩
    dsimp only at F
    cases q : m1 σp hh with
    | stuck => rw [q] at F; exact F.elim
    | exc c h1 => rw [q] at F; exact F
    | ok x h1 =>
      rw [q] at F
      have F1 : Fin W K ι H σ ((ofO ((val h1 x).bind fun x => (truD x).map fun b => PV.d (.bool (!b))) h1).bind fun x h1 => ofO ((val h1 x).bind truD) h1) fun b _ _ H' => Q b H' := F
      show Fin W K ι H σ (ofO ((val h1 x).bind truD) h1) _
      rw [map1] at F1
      cases q2 : (val h1 x).bind truD with
      | none => rw [q2] at F1; exact F1.elim
      | some k => rw [q2] at F1; exact F1
theorem t_and {rest : List Expr} (h1 : PT X e1 (TB W K m1)) (h2 : PW X (.BoolOp .And (e2 :: rest) pos) (TB W K m2)) : PW X (.BoolOp .And (e1 :: e2 :: rest) pos) (TB W K fun σ h => (m1 σ h).bind fun x h1 => (ofO ((val h1 x).bind truD) h1).bind fun k h2 => match k with | true => m2 σ h2 | false => .ok x h2) :=
  ⟨fun whole pins s σ H Q I q => (pw_and h1 h2).run whole pins s σ H Q I (by
    obtain ⟨ι, σp, hh, so, O, F⟩ := q
    refine ⟨ι, σp, hh, so, O, ?_⟩
    dsimp only at F
    cases q : m1 σp hh with
    | stuck => rw [q] at F; exact F.elim
    | exc c h1 => rw [q] at F; exact F
    | ok x h1 =>
      rw [q] at F
      have F1 : Fin W K ι H σ (((ofO ((val h1 x).bind truD) h1).bind fun k h2 => match k with | true => m2 σp h2 | false => .ok x h2).bind fun x h1 => ofO ((val h1 x).bind truD) h1) fun b _ _ H' => Q b H' := F
      show Fin W K ι H σ (ofO ((val h1 x).bind truD) h1) _
      cases q2 : (val h1 x).bind truD with
      | none => rw [q2] at F1; exact F1.elim
      | some k =>
        rw [q2] at F1
        intro ι1 H1 E1 O1
        cases k with
        | true =>
          rw [if_pos rfl]
          refine ⟨ι1, σp, h1, so.mono E1.toMn, O1, ?_⟩
          have F2 : Fin W K ι H σ ((m2 σp h1).bind fun x h1 => ofO ((val h1 x).bind truD) h1) fun b _ _ H' => Q b H' := F1
          exact Fin.bind (r := .ok true h1) (f := fun _ _ => (m2 σp h1).bind fun x h1 => ofO ((val h1 x).bind truD) h1) F2 ι1 H1 E1 O1
        | false =>
          rw [if_neg (by decide)]
          have F2 : Fin W K ι H σ (ofO ((val h1 x).bind truD) h1) fun b _ _ H' => Q b H' := F1
          rw [q2] at F2
          exact F2 ι1 H1 E1 O1)⟩
theorem t_or {rest : List Expr} (h1 : PT X e1 (TB W K m1)) (h2 : PW X (.BoolOp .Or (e2 :: rest) pos) (TB W K m2)) : PW X (.BoolOp .Or (e1 :: e2 :: rest) pos) (TB W K fun σ h => (m1 σ h).bind fun x h1 => (ofO ((val h1 x).bind truD) h1).bind fun k h2 => match k with | true => .ok x h2 | false => m2 σ h2) :=
  ⟨fun whole pins s σ H Q I q => (pw_or h1 h2).run whole pins s σ H Q I (by
    obtain ⟨ι, σp, hh, so, O, F⟩ := q
    refine ⟨ι, σp, hh, so, O, ?_⟩
    dsimp only at F
    cases q : m1 σp hh with
    | stuck => rw [q] at F; exact F.elim
    | exc c h1 => rw [q] at F; exact F
    | ok x h1 =>
      rw [q] at F
      have F1 : Fin W K ι H σ (((ofO ((val h1 x).bind truD) h1).bind fun k h2 => match k with | true => .ok x h2 | false => m2 σp h2).bind fun x h1 => ofO ((val h1 x).bind truD) h1) fun b _ _ H' => Q b H' := F
      show Fin W K ι H σ (ofO ((val h1 x).bind truD) h1) _
      cases q2 : (val h1 x).bind truD with
      | none => rw [q2] at F1; exact F1.elim
      | some k =>
        rw [q2] at F1
        intro ι1 H1 E1 O1
        cases k with
        | false =>
          rw [if_neg (by decide)]
          refine ⟨ι1, σp, h1, so.mono E1.toMn, O1, ?_⟩
          have F2 : Fin W K ι H σ ((m2 σp h1).bind fun x h1 => ofO ((val h1 x).bind truD) h1) fun b _ _ H' => Q b H' := F1
          exact Fin.bind (r := .ok true h1) (f := fun _ _ => (m2 σp h1).bind fun x h1 => ofO ((val h1 x).bind truD) h1) F2 ι1 H1 E1 O1
        | true =>
          rw [if_pos rfl]
          have F2 : Fin W K ι H σ (ofO ((val h1 x).bind truD) h1) fun b _ _ H' => Q b H' := F1
          rw [q2] at F2
          exact F2 ι1 H1 E1 O1)⟩
theorem s_ife {e3 : Expr} (h1 : PT X e1 (TB W K m1)) (h2 : PE X e2 (TD W K fr2 m2)) (h3 : PE X e3 (TD W K fr3 m3)) : PE X (.IfExp e1 e2 e3 pos) (TD W K false fun σ h => (m1 σ h).bind fun x h1 => (ofO ((val h1 x).bind truD) h1).bind fun k h2 => match k with | true => m2 σ h2 | false => m3 σ h2) := by
  refine PE.imp (pe_ifExp h1 (unf h2) (unf h3)) fun σ H Q ⟨ι, σp, hh, so, O, F⟩ => ?_
  refine ⟨ι, σp, hh, so, O, ?_⟩
  have F1 : Fin W K ι H σ (((m1 σp hh).bind fun x h1 => ofO ((val h1 x).bind truD) h1).bind fun k h2 => match k with | true => m2 σp h2 | false => m3 σp h2) (PostV H false Q) := by
    dsimp only at F
    cases q : m1 σp hh with
    | stuck => rw [q] at F; exact F.elim
    | exc c h1 => rw [q] at F; exact F
    | ok x h1 => rw [q] at F; exact F
  refine F1.bind.imp ?_
  intro k h1 ι1 H1 E1 O1 F2
  cases k with
  | true => rw [if_pos rfl]; exact ⟨ι1, σp, h1, so.mono E1.toMn, O1, post0 F2⟩
  | false => rw [if_neg (by decide)]; exact ⟨ι1, σp, h1, so.mono E1.toMn, O1, post0 F2⟩
end
end J
end JExp

section JRaw
set_option Elab.async false
set_option linter.all false
set_option maxRecDepth 100000
set_option autoImplicit false
set_option maxHeartbeats 4000000
/-! J.Raw: rules that the hand layer lacks. -/
namespace J
open PySem PySem.Spec PyProof.Rows L2 HT
section
variable {prog : Program} {w : World} {A : Around} {E : Value → Shared → Prop} {s : Shared}
theorem adjust_rev (n : Nat) : Builtin.Slice.sliceAdjust none none (-1) (n : Int) = ((n : Int) - 1, -1) := rfl
theorem places_rev (n : Nat) : Builtin.Slice.slicePlaces ((n : Int) - 1) (-1) (-1) = n := by
  unfold Builtin.Slice.slicePlaces
  rw [if_neg (by decide)]
  split
  · have : (((n : Int) - 1 - -1 - 1) / -(-1) + 1) = n := by
      rw [show (-(-1) : Int) = 1 by decide, Int.ediv_one]; omega
    rw [this]; simp
  · have : n = 0 := by omega
    subst this
    rfl
theorem sliceApplied_rev {sl : Addr} {t : Tok} {n : Nat} {Q : Int × Int × Nat → Shared → Prop} (hs : s.heap.IsSliceOf sl .none .none (.int (-1) t))
    (h : Q ((n : Int) - 1, -1, n) s) : wpAny (model prog w) A (Builtin.Slice.sliceApplied (.ref sl) (pure (n : Int))) Q E s := by
  obtain ⟨os, hos, hcs, hds⟩ := id hs
  unfold Builtin.Slice.sliceApplied Builtin.Slice.sliceFields
  refine wpAny_bind (wpAny_bind (wpAny_field hos hds (x := .none) rfl (wpAny_bind (wpAny_field hos hds (x := .none) rfl (wpAny_bind (wpAny_field hos hds (x := .int (-1) t) rfl (wpAny_pure ?_)))))))
  refine wpAny_bind (slicePart_ (IsPart.int (-1) t) ?_)
  show wpAny _ _ (if ((-1 : Int) == 0) = true then _ else _) _ _ s
  rw [if_neg (by decide)]
  refine wpAny_bind (slicePart_ .none (wpAny_bind (slicePart_ .none (wpAny_bind (wpAny_pure ?_)))))
  show wpAny _ _ (match Builtin.Slice.sliceAdjust none none (-1) (n : Int) with | (lo, hi) => pure (lo, (-1 : Int), Builtin.Slice.slicePlaces lo hi (-1))) _ _ s
  rw [adjust_rev]
  show wpAny _ _ (pure ((n : Int) - 1, (-1 : Int), Builtin.Slice.slicePlaces ((n : Int) - 1) (-1) (-1))) _ _ s
  rw [places_rev]
  exact wpAny_pure h
theorem fm_congr {α β : Type} {f g : α → Option β} : ∀ {l : List α}, (∀ x ∈ l, f x = g x) → l.filterMap f = l.filterMap g
  | [], _ => rfl
  | x :: r, h => by
    rw [List.filterMap_cons, List.filterMap_cons, h x List.mem_cons_self, fm_congr fun y hy => h y (List.mem_cons_of_mem _ hy)]
theorem pick_rev (xs : Array Value) : ((List.range xs.size).filterMap fun (m : Nat) => xs[(((xs.size : Nat) : Int) - 1 + (m : Int) * -1).toNat]?).toArray = xs.toList.reverse.toArray := by
  have e : (List.range xs.size).filterMap (fun (m : Nat) => xs[(((xs.size : Nat) : Int) - 1 + (m : Int) * -1).toNat]?) = ((List.range xs.size).map fun k => xs.size - 1 - k).filterMap (xs[·]?) := by
    rw [List.filterMap_map]
    refine fm_congr fun m hm => ?_
    have := List.mem_range.mp hm
    have z : (((xs.size : Nat) : Int) - 1 + (m : Int) * -1).toNat = xs.size - 1 - m := by omega
    rw [z]
    rfl
  rw [e, PySem.W.krv_range, List.filterMap_reverse, PySem.W.krv_all]
theorem getItem_tuple_rev {t sl : Addr} {items : Array Value} {tk : Tok} {Q : Value → Shared → Prop} (ht : IsTup s.heap t items) (hs : s.heap.IsSliceOf sl .none .none (.int (-1) tk))
    (h : Q (.ref s.heap.objs.size) { s with heap := s.heap.push { cls := .type "tuple", data := .seq items.toList.reverse.toArray } })
    (hsz : items.size ≤ sizeLine) : wpAny (model prog w) A (getItem (.ref t) (.ref sl)) Q E s := by
  have htake : sizeOk (.seq items.toList.reverse.toArray) := by
    show items.toList.reverse.toArray.size ≤ sizeLine
    rw [List.size_toArray, List.length_reverse, Array.length_toList]
    exact hsz
  obtain ⟨os, hos, hcs, hds⟩ := id hs
  have hTs : s.TypeIs (.ref sl) "slice" := ⟨os, hos, hcs⟩
  unfold getItem
  try with_reducible refine wpAny_holding ?_
  first | refine wpAny_bind (wpAny_pure ?_) | skip
  refine wpAny_bind (wpAny_sequenceKey ht.typeIs (by decide) ?_)
  refine wpAny_bind (wpAny_callSpecial?_slot (name := Str.ofString "__getitem__") ht.typeIs PyProof.Rows.slot_tuple_getitem
    (wpAny_call_entry PyProof.Rows.slot_tuple_getitem ht.typeIs entry_tuple_getitem ?_ (args_tuple_getitem _ _)))
  show wpAny _ _ (Builtin.Tuple.tupleItemsOf (.ref t) >>= _) _ _ s
  refine wpAny_bind (tupleItemsOf_ ht ?_)
  refine wpAny_bind (wpAny_typeOf hTs ?_)
  rw [if_pos (by decide)]
  refine wpAny_bind (sliceApplied_rev hs ?_)
  have hno : ¬ (((((items.size : Nat) : Int) - 1) == 0 && (-1 : Int) == 1 && items.size == items.size) = true) := by
    intro q
    rw [Bool.and_eq_true, Bool.and_eq_true] at q
    exact absurd q.1.2 (by decide)
  show wpAny _ _ (if ((((items.size : Nat) : Int) - 1) == 0 && (-1 : Int) == 1 && items.size == items.size) = true then _ else _) _ _ s
  rw [if_neg hno, pick_rev]
  first
    | exact wpAny_bind (m := Builtin.Tuple.tupleExact _) (wpAny_newObj_type (wpAny_pure ⟨_, rfl, wpAny_pure h⟩) htake)
    | exact wpAny_bind (m := Builtin.Tuple.tupleExact _) (wpAny_newObj_type (wpAny_bind (wpAny_pure (wpAny_pure ⟨_, rfl, wpAny_pure h⟩))) htake)
    | exact wpAny_bind (wpAny_bind (m := Builtin.Tuple.tupleExact _) (wpAny_newObj_type (wpAny_pure (wpAny_pure ⟨_, rfl, wpAny_pure h⟩)) htake))
    | exact wpAny_bind (wpAny_bind (m := Builtin.Tuple.tupleExact _) (wpAny_newObj_type (wpAny_pure ⟨_, rfl, wpAny_pure h⟩) htake))
end
section
variable {X : Cx} {e : Expr} {te : TE} {pos p2 p3 p4 : Pos} {j : Nat}
def rRevT (x : V) (H : Hp) (Q : VK) : Prop := ∃ a xs, x = .ref a ∧ Rd H a (.tup xs) ∧ ∀ p, H p = none → Q (.ref p) (upd H p (.tup xs.reverse))
/-- t[::-1] -/
theorem pe_revT (he : PE X e te) : PE X (.Subscript e (.Slice none none (some (.UnaryOp .USub (.Constant (.int 1) j p4) p3)) p2) pos) (fun σ H Q => te σ H fun x H1 => rRevT x H1 Q) := by
  refine ⟨fun pins s σ H Q I h => ?_⟩
  refine Subscript_ (thn (he.run pins s σ H _ I h) fun v s1 ⟨x, H1, I1, r1, q1⟩ => ?_)
  have hst : PO X (some (.UnaryOp .USub (.Constant (.int 1) j p4) p3)) (tPart (tUn (rU fun i => .int (-i)) (tC (.int 1)))) := po_some (pe_un un_neg pe_int)
  refine wpAny_Slice ?_
  rw [evalPart_none]
  refine wpAny_pure ?_
  refine wpAny_pure ?_
  refine thn (hst.run pins s1 σ H1 (fun o H2 => o = some (-1) ∧ H2 = H1) I1 ⟨1, rfl, -1, rfl, rfl, rfl⟩) fun vk s3 ⟨o, H3, I3, pk, eo, eH⟩ => ?_
  subst eo eH
  cases pk with
  | int i t =>
    obtain ⟨a, xs, rfl, hx, q⟩ := q1
    cases r1
    obtain ⟨its, r, ht, hz⟩ := I3.tuple (.inl hx)
    have I4 : L2.Inv X pins σ _ { s3 with heap := s3.heap.push { cls := .type "slice", data := .fields #[.none, .none, .int (-1) t] } } := I3.kept (t' := s3.toks) fun b ob q => Heap.get?_push_of_some _ q
    obtain ⟨its, r, ht, hz⟩ := I4.tuple (.inl hx)
    have hlen : its.toArray.size = xs.length := by rw [List.size_toArray]; exact r.length.symm
    show wpAny (model X.prog X.w) X.A (subscriptTail e (.Slice none none (some (.UnaryOp .USub (.Constant (.int 1) j p4) p3)) p2) (.ref a) (.ref s3.heap.objs.size)) (EP X pins σ Q) X.xe _
    refine tail_any (T := "tuple") (ops := [.ref a, .ref s3.heap.objs.size]) ht.typeIs PyProof.Rows.slot_tuple_getitem.lookup (getItem_tuple_rev ht (Heap.IsSliceOf.new ..) ?_ (by rw [hlen]; exact hz)) (by with_unfolding_all rfl)
    refine ⟨.ref _, _, I4.laid (o := .tup xs.reverse) (fun b ob q => Heap.get?_push_of_some _ q) (Nat.le_refl _) ?_, rfl, q _ (I4.hok.fresh (Nat.le_refl _))⟩
    exact ⟨by rw [List.length_reverse]; exact hz, _, r.reverse, IsTup.new _ _⟩
end
section
variable {X : Cx} {C : Addr} {bmB : List Value} {B newId initId : String}
/-- X() -/
theorem pmk_own0 {x : Str} {p pos : Pos} (F : ExcBaseFacts B newId initId bmB) (q : PySem.W.excIn X.K C bmB newId = true) (gC : X.mg x = some (.ref C)) (kC : PySem.W.keepIn X.K (.ref C) = true) (r : Raises X (.ref C)) (hg : Gl X x)
    (hdb : (x == ("__debug__" : Str)) = false) : PMk X (.Call (.Name x p) [] [] pos) (fun _ H Q => Q (.ref C) none H) := by
  intro pins s σ H Q I h
  refine wpAny_Call_Name_kw (ld_glob I hg gC ?_ hdb)
  refine PySem.W.callWith_K0 I.kIn kC ?_
  show wpAny _ _ (call (.ref C) []) _ _ _
  obtain ⟨bm, N, nm, qn, bs, hdct, sn, sub, ab, col, dd, k0, k1, k2, k3, k5, mN, hC, hN, hni, T⟩ := exc_obj I.kIn q
  refine wpAny_call_exc_subT F T hC hN hni (fun h' e hm => ?_) (by show 0 ≤ sizeLine; exact Nat.zero_le _)
  exact mk_of I hm r h (I.hok.gone hm.new)
end
end J
end JRaw

section JExp2
set_option Elab.async false
set_option linter.all false
set_option maxRecDepth 100000
set_option autoImplicit false
set_option maxHeartbeats 4000000
/-! J.Exp2: arguments, displays, calls, walks, comprehensions. -/
namespace J
open PySem PySem.Spec PyProof.Rows L2
/-! ### shapes of expressions -/
def notStar : Expr → Bool
  | .Starred _ _ => false
  | _ => true
theorem star_of {e : Expr} {es : List Expr} {env : Env} (h : notStar e = true) : starEach (e :: es) env = (false, eval e env) :: starEach es env := by
  cases e <;> first | rfl | cases h
def allPlain : List Expr → Bool
  | [] => true
  | e :: es => notStar e && allPlain es
theorem plain_of {pos : Pos} {env : Env} : ∀ {es : List Expr}, allPlain es = true → (backTo pos (starEach es env)).any (·.1) = false
  | [], _ => rfl
  | e :: es, h => by
    obtain ⟨h1, h2⟩ := ba h
    have i := plain_of (pos := pos) (env := env) h2
    rw [star_of h1]
    simpa [backTo] using i
section
variable {P : Program} {w : World} {K : PySem.W.Frag} {mg : Str → Option Value} {base : Heap} {n : Nat} {S : SC} {X : Cx} {W : WX} {e e1 e2 e3 : Expr} {fr fr1 fr2 fr3 : Bool} {m m1 m2 m3 : PEnv → PH → Rs PV} {pos p p2 : Pos} {T : String → Option CDef} {Bs Es : List String}
/-! ### arguments -/
def TAa (W : WX) (K : PySem.W.Frag) (m : PEnv → PH → Rs (List PV)) : TA := fun σ H Q => ∃ ι σp h, SOk ι H σp σ ∧ HpOk ι H h ∧ Fin W K ι H σ (m σp h) fun pvs _ ι' H' => ∀ vs, Paired (RelPV ι' H') vs pvs → Q vs H'
def TAd (W : WX) (K : PySem.W.Frag) (m : PEnv → PH → Rs (List D)) : TA := fun σ H Q => ∃ ι σp h, SOk ι H σp σ ∧ HpOk ι H h ∧ Fin W K ι H σ (m σp h) fun ds _ ι' H' => ∀ vs, RpAll ι' H' vs ds → Q vs H'
theorem a_nil : PA X [] (TAa W K fun _ h => .ok [] h) := PA.imp pa_nil fun σ H Q ⟨ι, σp, hh, so, O, F⟩ => F ι H .refl O [] .nil
theorem a_cons {es : List Expr} {ma : PEnv → PH → Rs (List PV)} (h1 : PE X e1 (TD W K fr1 m1)) (h2 : PA X es (TAa W K ma)) (hs : notStar e1 = true) :
    PA X (e1 :: es) (TAa W K fun σ h => (m1 σ h).bind fun x h1 => (ma σ h1).bind fun xs h2 => .ok (x :: xs) h2) := by
  refine PA.imp (pa_cons (unf h1) h2 (star_of hs)) fun σ H Q ⟨ι, σp, hh, so, O, F⟩ => ?_
  refine ⟨ι, σp, hh, so, O, F.bind.imp ?_⟩
  intro x h1 ι1 H1 E1 O1 F1 v rv _
  refine ⟨ι1, σp, h1, so.mono E1.toMn, O1, F1.bind.imp ?_⟩
  intro xs h2 ι2 H2 E2 O2 F2 vs rvs
  exact F2 ι2 H2 .refl O2 (v :: vs) (.cons (rv.mono E2.toMn) rvs)
theorem d_nil : PA X [] (TAd W K fun _ h => .ok [] h) := PA.imp pa_nil fun σ H Q ⟨ι, σp, hh, so, O, F⟩ => F ι H .refl O [] .nil
theorem d_cons {es : List Expr} {ma : PEnv → PH → Rs (List D)} (h1 : PE X e1 (TD W K fr1 m1)) (h2 : PA X es (TAd W K ma)) (hs : notStar e1 = true) :
    PA X (e1 :: es) (TAd W K fun σ h => (m1 σ h).bind fun x h1 => match x with | .d x => (ma σ h1).bind fun xs h2 => .ok (x :: xs) h2 | _ => .stuck) := by
  refine PA.imp (pa_cons (unf h1) h2 (star_of hs)) fun σ H Q ⟨ι, σp, hh, so, O, F⟩ => ?_
  refine ⟨ι, σp, hh, so, O, F.bind.imp ?_⟩
  intro x h1 ι1 H1 E1 O1 F1 v rv _
  cases x with
  | cell k => exact F1.elim
  | k y => exact F1.elim
  | d x =>
    refine ⟨ι1, σp, h1, so.mono E1.toMn, O1, (Fin.bind (f := fun xs h2 => .ok (x :: xs) h2) F1).imp ?_⟩
    intro xs h2 ι2 H2 E2 O2 F2 vs rvs
    exact F2 ι2 H2 .refl O2 (v :: vs) (.cons (Rp.mono E2.toMn _ _ rv) rvs)
theorem s_tup {es : List Expr} {k : Nat} {ma : PEnv → PH → Rs (List D)} (h : PA X es (TAd W K ma)) : PE X (.Tuple es k pos) (TD W K false fun σ h => (ma σ h).bind fun xs h1 => if xs.length ≤ lineN then .ok (.d (.tuple xs)) h1 else .stuck) := by
  refine PE.imp (pe_tup h) fun σ H Q ⟨ι, σp, hh, so, O, F⟩ => ⟨ι, σp, hh, so, O, F.bind.imp ?_⟩
  intro xs h1 ι1 H1 E1 O1 F1 vs rvs
  split at F1
  · rename_i hl
    refine ⟨by rw [rvs.length, ← lineN_eq]; exact hl, fun p np => ?_⟩
    exact F1 ι1 _ (Ext.grow O1 (grow_upd np)) (O1.grow (grow_upd np)) _ (rp_newT O1 np rvs) fun z => nomatch z
  · exact F1.elim
theorem s_lst {es : List Expr} {ma : PEnv → PH → Rs (List D)} (h : PA X es (TAd W K ma)) : PE X (.List es pos) (TD W K true fun σ h => (ma σ h).bind fun xs h1 => if xs.length ≤ lineN then .ok (.d (.list xs)) h1 else .stuck) := by
  refine PE.imp (pe_lst h) fun σ H Q ⟨ι, σp, hh, so, O, F⟩ => ⟨ι, σp, hh, so, O, F.bind.imp ?_⟩
  intro xs h1 ι1 H1 E1 O1 F1 vs rvs
  split at F1
  · rename_i hl
    refine ⟨by rw [rvs.length, ← lineN_eq]; exact hl, fun p np => ?_⟩
    exact F1 ι1 _ (Ext.grow O1 (grow_upd np)) (O1.grow (grow_upd np)) _ (rp_newL O1 np rvs) fun _ => newL_of rfl O1 E1.trk np rvs
  · exact F1.elim
/-! ### a chain of two comparisons -/
theorem s_chain (G : Good P w K mg base n S X W) (o o' : Cmp) (h1 : PE X e1 (TD W K fr1 m1)) (h2 : PE X e2 (TD W K fr2 m2)) (h3 : PE X e3 (TD W K fr3 m3)) (hm : lastMarks [opC o, opC o'] [e2, e3] = false) :
    PE X (.Compare e1 [opC o, opC o'] [e2, e3] pos) (TD W K false fun σ h => (m1 σ h).bind fun x h1 => (m2 σ h1).bind fun y h2 => (ofO ((val h2 x).bind fun x => (val h2 y).bind fun y => cmpD o x y) h2).bind fun k h3 =>
      match k with
      | true => (m3 σ h3).bind fun z h4 => ofO ((val h4 y).bind fun y => (val h4 z).bind fun z => (cmpD o' y z).map fun b => .d (.bool b)) h4
      | false => .ok (.d (.bool false)) h3) := by
  refine PE.imp (pe_chain (op_cmp G.units o) (op_cmp G.units o') (unf h1) (unf h2) (unf h3) hm) fun σ H Q ⟨ι, σp, hh, so, O, F⟩ => ?_
  refine ⟨ι, σp, hh, so, O, F.bind.imp ?_⟩
  intro x h1 ι1 H1 E1 O1 F1 v rv _
  refine ⟨ι1, σp, h1, so.mono E1.toMn, O1, F1.bind.imp ?_⟩
  intro y h2 ι2 H2 E2 O2 F2 u ru _
  have F3 := F2.bind
  cases q : (val h2 x).bind fun x => (val h2 y).bind fun y => cmpD o x y with
  | none => rw [q] at F3; exact F3.elim
  | some k =>
    rw [q] at F3
    obtain ⟨a, b, ea, eb, ed⟩ := bind2 q
    refine ⟨ι2, h2, a, b, k, O2, val_ok O2 (rv.mono E2.toMn) ea, val_ok O2 ru eb, ed, k, rfl, ?_⟩
    have F4 := F3 ι2 H2 .refl O2
    cases k with
    | false => rw [if_neg (by decide)]; exact F4 ι2 H2 .refl O2 _ (.bl _) fun z => nomatch z
    | true =>
      rw [if_pos rfl]
      refine ⟨ι2, σp, h2, (so.mono E1.toMn).mono E2.toMn, O2, Fin.imp (Fin.bind F4) ?_⟩
      intro z h4 ι4 H4 E4 O4 F5 t rt _
      rw [map2] at F5
      obtain ⟨d, e, kk⟩ := bool_of O4 F5
      obtain ⟨a', b', ea', eb', ed'⟩ := bind2 e
      exact ⟨ι4, h4, a', b', d, O4, val_ok O4 (ru.mono E4.toMn) ea', val_ok O4 rt eb', ed', kk⟩
/-! ### slices -/
def TOp (W : WX) (K : PySem.W.Frag) (m : PEnv → PH → Rs (Option Int)) : TO := fun σ H Q => ∃ ι σp h, SOk ι H σp σ ∧ HpOk ι H h ∧ Fin W K ι H σ (m σp h) fun o _ _ H' => Q o H'
theorem PO.imp {e : Option Expr} {t t' : TO} (h : PO X e t) (i : ∀ σ H Q, t' σ H Q → t σ H Q) : PO X e t' := ⟨fun pins s σ H Q I q => h.run pins s σ H Q I (i σ H Q q)⟩
theorem o_no : PO X none (TOp W K fun _ h => .ok none h) := PO.imp po_none fun σ H Q ⟨ι, σp, hh, so, O, F⟩ => F ι H .refl O
theorem o_so (h1 : PE X e1 (TD W K fr1 m1)) : PO X (some e1) (TOp W K fun σ h => (m1 σ h).bind fun x h1 => match x with | .d (.int i) => .ok (some i) h1 | _ => .stuck) := by
  refine PO.imp (po_some (unf h1)) fun σ H Q ⟨ι, σp, hh, so, O, F⟩ => ⟨ι, σp, hh, so, O, F.bind.imp ?_⟩
  intro x h1 ι1 H1 E1 O1 F1 v rv _
  split at F1
  · cases rv
    exact ⟨_, rfl, F1 ι1 H1 .refl O1⟩
  · exact F1.elim
theorem s_sl {lo hi : Option Expr} {ml mh : PEnv → PH → Rs (Option Int)} (h1 : PE X e1 (TD W K fr1 m1)) (hl : PO X lo (TOp W K ml)) (hh : PO X hi (TOp W K mh)) :
    PE X (.Subscript e1 (.Slice lo hi none p2) pos) (TD W K true fun σ h => (m1 σ h).bind fun x h1 => (ml σ h1).bind fun l h2 => (mh σ h2).bind fun u h3 => ofO ((val h3 x).bind fun x => (slD x l u).map .d) h3) := by
  refine PE.imp (pe_slice sl_J (unf h1) hl hh) fun σ H Q ⟨ι, σp, hh, so, O, F⟩ => ⟨ι, σp, hh, so, O, F.bind.imp ?_⟩
  intro x h1 ι1 H1 E1 O1 F1 v rv _
  refine ⟨ι1, σp, h1, so.mono E1.toMn, O1, F1.bind.imp ?_⟩
  intro l h2 ι2 H2 E2 O2 F2
  refine ⟨ι2, σp, h2, (so.mono E1.toMn).mono E2.toMn, O2, F2.bind.imp ?_⟩
  intro u h3 ι3 H3 E3 O3 F3
  rw [map1] at F3
  obtain ⟨d, e, k⟩ := nw_of O3 ((E1.trans E2).trans E3).trk F3
  obtain ⟨a, ea, ed⟩ := bind1 e
  exact ⟨ι3, h3, a, d, O3, val_ok O3 ((rv.mono E2.toMn).mono E3.toMn) ea, ed, k⟩
theorem s_rev {j : Nat} {p3 p4 : Pos} (h1 : PE X e1 (TD W K fr1 m1)) : PE X (.Subscript e1 (.Slice none none (some (.UnaryOp .USub (.Constant (.int 1) j p4) p3)) p2) pos) (TD W K false fun σ h => (m1 σ h).bind fun x h1 => ofO ((val h1 x).bind fun x => (revD x).map .d) h1) := by
  refine PE.imp (pe_revT (unf h1)) fun σ H Q h => td1 (r := rRevT) h ?_
  intro ι H0 H hh v x O rv T F
  rw [map1] at F
  obtain ⟨d, e, k⟩ := nw_of O T F
  obtain ⟨a, ea, ed⟩ := bind1 e
  unfold revD at ed
  split at ed
  · cases ed
    obtain ⟨q, xs, e1, hx, r, _⟩ := (val_ok O rv ea).tuple
    exact ⟨q, xs, e1, hx, fun p np => k.tup O np r.reverse⟩
  · cases ed
/-! ### built-in functions of one argument -/
def bltN : Blt → String
  | .len => "len" | .all => "all" | .any => "any" | .sum => "sum" | .max => "max" | .min => "min" | .abs => "abs" | .tuple => "tuple" | .list => "list" | .int => "int" | .str => "str" | .sorted => "sorted" | .dict => "dict" | _ => "?"
/-- the built-ins that are served -/
def bltOk : Blt → Bool
  | .len | .all | .any | .sum | .max | .min | .abs | .tuple | .list | .int | .str | .sorted | .dict => true
  | _ => false
theorem Good.free (G : Good P w K mg base n S X W) (Q : Pg P w K mg base T Bs Es n) {x : String} (hx : x ∈ Bs) : X.mg (Str.ofString x) = none := by rw [G.glob]; exact Q.free x hx
theorem pe_blt {id : String} {f : Blt} {x : Str} (hc : CallR X (.builtin id) (rBlt f)) (hg : Gl X x) (hdb : (x == ("__debug__" : Str)) = false) (hn : x ≠ "__name__") (hm : X.mg x = none) (hv : bootBuiltins x = some (.builtin id)) (hs : notStar e1 = true) (h1 : PE X e1 (TD W K fr1 m1)) :
    PE X (.Call (.Name x p) [e1] [] pos) (TD W K true fun σ h => (m1 σ h).bind fun x h1 => ofO ((val h1 x).bind fun x => (bltD f x).map .d) h1) := by
  refine PE.imp (pe_callB hc hg hm hv (pa_cons (unf h1) pa_nil (star_of hs)) hn hdb (star_of hs)) fun σ H Q h => td1 (r := fun v H Q => rBlt f [v] H Q) h ?_
  intro ι H0 H hh v x O rv T F
  rw [map1] at F
  obtain ⟨d, e, k⟩ := nw_of O T F
  obtain ⟨a, ea, ed⟩ := bind1 e
  exact ⟨ι, hh, v, a, d, rfl, O, val_ok O rv ea, ed, k⟩
theorem pe_bltT {id : String} {f : Blt} {x : Str} (hc : CallR X (.type id) (rBlt f)) (hg : Gl X x) (hdb : (x == ("__debug__" : Str)) = false) (hn : x ≠ "__name__") (hm : X.mg x = none) (hv : bootBuiltins x = some (.type id)) (hs : notStar e1 = true) (h1 : PE X e1 (TD W K fr1 m1)) :
    PE X (.Call (.Name x p) [e1] [] pos) (TD W K true fun σ h => (m1 σ h).bind fun x h1 => ofO ((val h1 x).bind fun x => (bltD f x).map .d) h1) := by
  refine PE.imp (pe_callTy hc hg hm hv (pa_cons (unf h1) pa_nil (star_of hs)) hn hdb (star_of hs)) fun σ H Q h => td1 (r := fun v H Q => rBlt f [v] H Q) h ?_
  intro ι H0 H hh v x O rv T F
  rw [map1] at F
  obtain ⟨d, e, k⟩ := nw_of O T F
  obtain ⟨a, ea, ed⟩ := bind1 e
  exact ⟨ι, hh, v, a, d, rfl, O, val_ok O rv ea, ed, k⟩
theorem s_blt (G : Good P w K mg base n S X W) (PG : Pg P w K mg base T Bs Es n) {f : Blt} (ok : bltOk f = true) (hb : bltN f ∈ Bs) (hg : S.glb (Str.ofString (bltN f)) = true) (hs : notStar e1 = true) (h1 : PE X e1 (TD W K fr1 m1)) :
    PE X (.Call (.Name (Str.ofString (bltN f)) p) [e1] [] pos) (TD W K true fun σ h => (m1 σ h).bind fun x h1 => ofO ((val h1 x).bind fun x => (bltD f x).map .d) h1) := by
  obtain ⟨g1, g2, g3⟩ := G.gl hg
  have hm := G.free PG hb
  cases f with
  | len => exact pe_blt call_lenJ g1 g2 g3 hm (by decide +kernel) hs h1
  | all => exact pe_blt (call_allJ G.calm) g1 g2 g3 hm (by decide +kernel) hs h1
  | any => exact pe_blt (call_anyJ G.calm) g1 g2 g3 hm (by decide +kernel) hs h1
  | sum => exact pe_blt (call_sumJ G.calm) g1 g2 g3 hm (by decide +kernel) hs h1
  | max => exact pe_blt (call_maxJ G.calm) g1 g2 g3 hm (by decide +kernel) hs h1
  | min => exact pe_blt (call_minJ G.calm) g1 g2 g3 hm (by decide +kernel) hs h1
  | abs => exact pe_blt call_absJ g1 g2 g3 hm (by decide +kernel) hs h1
  | tuple => exact pe_bltT call_tupleJ g1 g2 g3 hm (by decide +kernel) hs h1
  | list => exact pe_bltT call_listJ g1 g2 g3 hm (by decide +kernel) hs h1
  | int => exact pe_bltT call_intJ g1 g2 g3 hm (by decide +kernel) hs h1
  | str => exact pe_bltT call_strJ g1 g2 g3 hm (by decide +kernel) hs h1
  | sorted => exact pe_blt call_sortedJ g1 g2 g3 hm (by decide +kernel) hs h1
  | lenset => cases ok
  | sortedset => cases ok
  | dict => exact pe_bltT (call_dictJ G.calm) g1 g2 g3 hm (by decide +kernel) hs h1
/-- len(set(t)), t a tuple of texts -/
def rLenS : V → Hp → VK → Prop := fun v H Q => ∃ ι h a d, HpOk ι H h ∧ Rr ι H v a ∧ bltD .lenset a = some d ∧ Nw ι H Q d
theorem strs_vals : ∀ {ss : List Str} {us : List Value}, L2.Vals (ss.map V.str) us → ∀ (i : Nat) (v : Value), us[i]? = some v → ∃ k t, ss[i]? = some k ∧ v = .str k t
  | [], _, .nil, i, v, h => by simp at h
  | s :: ss, _, .cons r rr, i, v, h => by
    cases i with
    | zero =>
      simp only [List.getElem?_cons_zero, Option.some.injEq] at h
      obtain ⟨t, rfl⟩ := r
      exact ⟨s, t, rfl, h.symm⟩
    | succ i =>
      simp only [List.getElem?_cons_succ] at h ⊢
      exact strs_vals rr i v h
theorem pe_lenS {t1 : TE} {q : Pos} (hc : X.calm = true) (hg : Gl X "len") (hm : X.mg "len" = none) (hg2 : Gl X "set") (hm2 : X.mg "set" = none) (hs : notStar e1 = true) (h1 : PE X e1 t1) :
    PE X (.Call (.Name "len" p) [.Call (.Name "set" p2) [e1] [] q] [] pos) (fun σ H Q => t1 σ H fun v H1 => rLenS v H1 Q) := by
  refine ⟨fun pins s σ H Q I h => Call_ (ld_blt I hg hm boot_len ?_)⟩
  refine PyProof.Rows.callWith_builtin1 (PyProof.Rows.args_cons ?_ rfl) rfl rfl
  refine Call_ (ld_blt I hg2 hm2 boot_set (PyProof.Rows.callWith_type1 (PyProof.Rows.args_cons (thn (h1.run pins s σ H _ I h) fun v s1 ⟨x, H1, I1, r1, q1⟩ => PyProof.Rows.args_nil ?_) (star_of hs)) (star_of hs) rfl))
  obtain ⟨ι, hh, a, d, O, ra, e, k⟩ := q1
  cases a with
  | tuple ds =>
    cases qs : strsOf ds with
    | none => simp [bltD, qs] at e
    | some ss =>
      simp only [bltD, qs, Option.bind_some] at e
      split at e
      · rename_i hl
        cases e
        obtain ⟨l, xs, ev, hx, rr, _⟩ := ra.tuple
        subst ev
        have := strs_rp rr qs
        subst this
        cases r1
        obtain ⟨its, rv, pl, hz⟩ := I1.tuple (.inl hx)
        have hn : its.toArray.size = ss.length := by rw [List.size_toArray, ← rv.length, List.length_map]
        refine set_tuple (knd := PySem.strKind X.prog X.w) (I1.ok.hd hc) pl ss hn (by unfold scanBound; omega) (fun i v hv => ?_) fun hp tk S kp => ?_
        · obtain ⟨z, t, ez, rfl⟩ := strs_vals rv i v (by simpa using hv)
          exact ⟨z, ez, PySem.strKind_is _ _ _ _, rfl⟩
        · refine PyProof.Rows.args_nil ?_
          obtain ⟨o, es, ep, t, ho, hex, hd, _, _, _, hf, hnn⟩ := S
          have I2 : Inv X pins σ H1 { s1 with heap := hp, toks := tk } := I1.kept kp
          have lu := uniq_le ss
          exact call_len_set ho hex hd hf (by rw [hnn]; omega) ⟨.int (uniq ss).length, H1, I2.tok _, ⟨_, by rw [hnn]⟩, k.int⟩
      · cases e
  | _ => simp [bltD] at e
theorem s_lenS (G : Good P w K mg base n S X W) (PG : Pg P w K mg base T Bs Es n) {q : Pos} (hb : "len" ∈ Bs) (hb2 : "set" ∈ Bs) (hg : S.glb (Str.ofString "len") = true) (hg2 : S.glb (Str.ofString "set") = true) (hs : notStar e1 = true) (h1 : PE X e1 (TD W K fr1 m1)) :
    PE X (.Call (.Name (Str.ofString "len") p) [.Call (.Name (Str.ofString "set") p2) [e1] [] q] [] pos) (TD W K true fun σ h => (m1 σ h).bind fun x h1 => ofO ((val h1 x).bind fun x => (bltD .lenset x).map .d) h1) := by
  obtain ⟨g1, _, _⟩ := G.gl hg
  obtain ⟨g2, _, _⟩ := G.gl hg2
  refine PE.imp (pe_lenS G.calm g1 (G.free PG hb) g2 (G.free PG hb2) hs (unf h1)) fun σ H Q h => td1 (r := rLenS) h ?_
  intro ι H0 H hh v x O rv T F
  rw [map1] at F
  obtain ⟨d, e, k⟩ := nw_of O T F
  obtain ⟨a, ea, ed⟩ := bind1 e
  exact ⟨ι, hh, a, d, O, val_ok O rv ea, ed, k⟩
theorem s_isi (G : Good P w K mg base n S X W) (PG : Pg P w K mg base T Bs Es n) {t : Ty} (hb : "isinstance" ∈ Bs) (hb2 : tyN t ∈ Bs) (hg : S.glb (Str.ofString "isinstance") = true) (hg2 : S.glb (Str.ofString (tyN t)) = true) (hs : notStar e1 = true) (h1 : PE X e1 (TD W K fr1 m1)) :
    PE X (.Call (.Name (Str.ofString "isinstance") p) [e1, .Name (Str.ofString (tyN t)) p2] [] pos) (TD W K false fun σ h => (m1 σ h).bind fun x h1 => ofO ((val h1 x).map fun x => .d (.bool (isiD x t))) h1) := by
  obtain ⟨g1, g2, g3⟩ := G.gl hg
  obtain ⟨k1, k2, k3⟩ := G.gl hg2
  have ht : PE X (.Name (Str.ofString (tyN t)) p2) (tC (.ty (tyN t))) := by
    have hm := G.free PG hb2
    cases t <;> exact pe_bltn k1 hm (by decide +kernel) rfl k3 k2
  refine PE.imp (pe_callB (call_isiD t) g1 (G.free PG hb) (by decide +kernel) (pa_cons (unf h1) (pa_cons ht pa_nil) (star_of hs)) g3 g2 (star_of hs)) fun σ H Q h => td1 (r := fun v H Q => rIsiD t [v, .ty (tyN t)] H Q) h ?_
  intro ι H0 H hh v x O rv T F
  cases q : val hh x with
  | none => rw [q] at F; exact F.elim
  | some a =>
    rw [q] at F
    exact ⟨ι, v, a, rfl, val_ok O rv q, F ι H .refl O _ (.bl _) fun z => nomatch z⟩
theorem s_min2 (G : Good P w K mg base n S X W) (PG : Pg P w K mg base T Bs Es n) (hb : "min" ∈ Bs) (hg : S.glb (Str.ofString "min") = true) (hs : notStar e1 = true) (hs2 : notStar e2 = true) (h1 : PE X e1 (TD W K fr1 m1)) (h2 : PE X e2 (TD W K fr2 m2)) :
    PE X (.Call (.Name (Str.ofString "min") p) [e1, e2] [] pos) (TD W K false fun σ h => (m1 σ h).bind fun x h1 => (m2 σ h1).bind fun y h2 => match x, y with | .d (.int i), .d (.int j) => .ok (.d (.int (if j < i then j else i))) h2 | _, _ => .stuck) := by
  obtain ⟨g1, g2, g3⟩ := G.gl hg
  refine PE.imp (pe_callB (call_min2 G.calm) g1 (G.free PG hb) (by decide +kernel) (pa_cons (unf h1) (pa_cons (unf h2) pa_nil (star_of hs2)) (star_of hs)) g3 g2 (star_of hs) (plain_of (es := [e2]) (by simp only [allPlain, hs2, Bool.and_self]))) fun σ H Q h => td2 (r := fun v u H Q => ∃ i j, [v, u] = [.int i, .int j] ∧ Q (.int (if j < i then j else i)) H) h ?_
  intro ι H0 H hh v u x y O rv ru T F
  split at F
  · cases rv
    cases ru
    exact ⟨_, _, rfl, F ι H .refl O _ (.int _) fun z => nomatch z⟩
  · exact F.elim
/-! ### a cell is changed -/
theorem HpOk.put {ι : Io} {H : Hp} {h : PH} {k : Nat} {a : Addr} {ds ds' : List D} {xs' : List V} (O : HpOk ι H h) (e : h[k]? = some (.lst ds)) (i : ι.cs[k]? = some (some a)) (r : RpAll ι H xs' ds') :
    HpOk ι (upd H a (.lst xs')) (h.set k (.lst ds')) ∧ Ext ι H ι (upd H a (.lst xs')) := by
  have la : some a ∈ ι.cs := List.mem_of_getElem? i
  have mn : Mn ι H ι (upd H a (.lst xs')) := ⟨Nat.le_refl _, fun _ _ => .inr rfl, fun b o q nl => by rw [upd_ne (fun z => nl (by subst z; exact .inl la))]; exact q, fun _ l nl => absurd l nl, fun b o q => by
    by_cases z : b = a
    · subst z; exact ⟨_, upd_same⟩
    · exact ⟨o, by rw [upd_ne z]; exact q⟩⟩
  have hne : ∀ b ∈ ι.ex, b ≠ a := fun b hb z => by subst z; exact O.exd b hb la
  refine ⟨⟨by rw [List.length_set]; exact O.len, fun m b c e1 e2 => ?_, O.nd, fun b hb => mn.trk b _ (O.exl b hb).choose_spec, O.exd⟩, ⟨mn, rfl, fun b hb => upd_ne (hne b hb)⟩⟩
  by_cases hm : m = k
  · subst hm
    rw [i] at e1
    cases e1
    have hk : m < h.length := (List.getElem?_eq_some_iff.mp e).1
    rw [List.getElem?_set_self hk] at e2
    cases e2
    exact ⟨xs', upd_same, Rp.monoAll mn _ _ r⟩
  · rw [List.getElem?_set_ne (fun z => hm z.symm)] at e2
    have z := O.cell m b c e1 e2
    cases b with
    | none => cases c <;> exact z
    | some b =>
      cases c with
      | dead => exact z
      | lst es =>
        obtain ⟨ys, q, rr⟩ := z
        refine ⟨ys, ?_, Rp.monoAll mn _ _ rr⟩
        rw [upd_ne fun z => hm (O.nd m k b e1 (by rw [z]; exact i))]
        exact q
/-- the cell that a value stands for -/
theorem cell_at {ι : Io} {H : Hp} {h : PH} {k : Nat} {v : V} {ds : List D} (O : HpOk ι H h) (r : RelPV ι H v (.cell k)) (e : h[k]? = some (.lst ds)) : ∃ a xs, v = .ref a ∧ ι.cs[k]? = some (some a) ∧ H a = some (.lst xs) ∧ RpAll ι H xs ds := by
  obtain ⟨l, a, ev, hb⟩ := r
  obtain ⟨b, xs, i, hx, rr⟩ := O.at_lst e
  have z := hb b i
  subst z
  exact ⟨b, xs, ev, i, hx, rr⟩
theorem isC_ty {ι : Io} {H : Hp} {h : PH} {k : Nat} {v : V} (O : HpOk ι H h) (r : RelPV ι H v (.cell k)) (c : isC h k = true) : tyV X.K "list" v H := by
  unfold isC at c
  split at c
  · rename_i ds e
    obtain ⟨a, xs, ev, i, hx, rr⟩ := cell_at O r e
    subst ev
    exact .inl ⟨rfl, xs, SqL.of hx⟩
  · cases c
theorem s_pop (G : Good P w K mg base n S X W) {i : Nat} {x : Str} {apos : Pos} (hv : S.vis i x = true) (hs : notStar e1 = true) (hl : (apos.endLine == pos.line) = true) (h1 : PE X e1 (TD W K fr1 m1)) :
    PE X (.Call (.Attribute (.Name x p) (Str.ofString "pop") apos) [e1] [] pos) (TD W K false fun σ h => match σ[i]? with
      | some (some (.cell n)) => if isC h n then (m1 σ h).bind fun x h1 => popAt n x h1 else .stuck
      | _ => .stuck) := by
  refine PE.imp (pe_bm PySem.F.plainAttrs_list PySem.F.slot_list_pop PySem.F.type_list_pop (mt_popAt (X := X)) (G.name (pos := p) hv) (pa_cons (unf h1) pa_nil (star_of hs)) rfl ?_ hl (star_of hs)) fun σ H Q ⟨ι, σp, hh, so, O, F⟩ => ?_
  · rw [star_of hs]; rfl
  dsimp only at F
  split at F
  case h_2 => exact F.elim
  rename_i k q
  split at F
  case isFalse => exact F.elim
  rename_i c
  obtain ⟨u, eu, ru⟩ := so.get i _ q
  refine ⟨u, eu, isC_ty O ru c, ι, σp, hh, so, O, F.bind.imp ?_⟩
  intro y h1 ι1 H1 E1 O1 F1 v rv nl
  clear nl
  unfold popAt at F1
  split at F1
  case h_2 => exact F1.elim
  rename_i j xs e
  split at F1
  case isFalse => exact F1.elim
  rename_i b
  split at F1
  case h_2 => exact F1.elim
  rename_i jj ej
  split at F1
  case h_2 => exact F1.elim
  rename_i d ed
  obtain ⟨a, vs, eu, ia, ha, rr⟩ := cell_at O1 (ru.mono E1.toMn) e
  subst eu
  obtain ⟨z, ez, rz⟩ := rr.get ed
  cases rv
  obtain ⟨s1, s2, s3, s4⟩ := ixN_seq (show L2.ixN vs.length j = some jj by rw [rr.length]; exact ej)
  refine ⟨a, vs, j, jj, z, rfl, rfl, ha, by omega, by omega, s1, ez, ?_⟩
  obtain ⟨O2, E2⟩ := O1.put e ia (rr.eraseIdx jj)
  exact F1 ι1 _ E2 O2 z (Rp.mono E2.toMn _ _ rz) fun z => nomatch z
/-! ### calls of the program's own defs -/
theorem run_len {f : String} {c : CDef} {pvs : List PV} {h : PH} {W' : WX} {ι : Io} {H : Hp} {σ : L2.St} {Pst : PV → PH → Io → Hp → Prop} (hT : T f = some c) (F : Fin W' K ι H σ (run T n f pvs h) Pst) : pvs.length = c.params := by
  cases n with
  | zero => exact F.elim
  | succ n =>
    simp only [run, hT, body] at F
    split at F
    · assumption
    · exact F.elim
theorem paired_len {α β : Type} {R : α → β → Prop} : ∀ {l : List α} {l' : List β}, Paired R l l' → l.length = l'.length
  | _, _, .nil => rfl
  | _, _, .cons _ r => by simp only [List.length_cons, paired_len r]
theorem s_call (G : Good P w K mg base n S X W) (PG : Pg P w K mg base T Bs Es n) {f : String} {c : CDef} (hT : T f = some c) {es : List Expr} {ma : PEnv → PH → Rs (List PV)} (hg : S.glb (Str.ofString f) = true) (hs : notStar e1 = true) (hp : allPlain es = true) (ha : PA X (e1 :: es) (TAa W K ma)) :
    PE X (.Call (.Name (Str.ofString f) p) (e1 :: es) [] pos) (TD W K false fun σ h => (ma σ h).bind fun vs h1 => run T n f vs h1) := by
  obtain ⟨hm, hk, fd, ps, hl, hb, FO⟩ := PG.fn f c hT
  obtain ⟨g1, g2, g3⟩ := G.gl hg
  obtain ⟨rfl, rfl, rfl, rfl, rfl⟩ := And.intro G.prog (And.intro G.world (And.intro G.frag (And.intro G.glob G.bas)))
  refine PE.imp (pe_callS FO G.room g1 hm hk hb (fun σ => passAt G.takes σ) ha g2 (star_of hs) (plain_of hp)) fun σ H Q ⟨ι, σp, hh, so, O, F⟩ => ⟨ι, σp, hh, so, O, F.bind.imp ?_⟩
  intro pvs h1 ι1 H1 E1 O1 F1 vs rvs
  refine ⟨(paired_len rvs).trans (run_len hT F1), ι1, pvs, h1, rvs, O1, ?_⟩
  cases q : run T n f pvs h1 with
  | stuck => rw [q] at F1; exact F1.elim
  | exc c h2 => rw [q] at F1; exact F1
  | ok v h2 => rw [q] at F1; exact fun ι2 H2 E2 O2 v r => F1 ι2 H2 E2 O2 v r fun z => nomatch z
end
end J
end JExp2

section JMth
set_option Elab.async false
set_option linter.all false
set_option maxRecDepth 100000
set_option autoImplicit false
set_option maxHeartbeats 8000000
/-! J.Mth: methods of one argument: list.index (flat items), str.join. -/
namespace J
open PySem PySem.Spec PyProof.Rows L2
theorem mthR_join {h : PH} {x : PV} (hr : mthR .join h x = true) : ∃ a, x = .d (.str a) := by
  cases x with
  | cell n => cases hr
  | k y => cases hr
  | d x => cases x <;> first | exact ⟨_, rfl⟩ | cases hr
theorem mthR_index {h : PH} {x : PV} (hr : mthR .index h x = true) : ∃ xs, val h x = some (.list xs) := by
  replace hr : isLst (val h x) = true := hr
  cases q : val h x with
  | none => rw [q] at hr; cases hr
  | some d => rw [q] at hr; cases d <;> first | exact ⟨_, rfl⟩ | cases hr
theorem map_some' {α β : Type} {o : Option α} {f : α → β} {b : β} (q : o.map f = some b) : ∃ a, o = some a ∧ f a = b := by
  cases o with
  | none => cases q
  | some a => cases q; exact ⟨a, rfl, rfl⟩
theorem join_eq (a : Str) (ss : List Str) : Txt.join a ss = Str.join a ss := eq_of_beq (join_closes rfl)
section
variable {P : Program} {w : World} {K : PySem.W.Frag} {mg : Str → Option Value} {base : Heap} {n : Nat} {S : SC} {X : Cx} {W : WX} {e1 e2 : Expr} {fr1 fr2 : Bool} {m1 m2 : PEnv → PH → Rs PV} {apos pos : Pos}
theorem s_join (h1 : PE X e1 (TD W K fr1 m1)) (h2 : PE X e2 (TD W K fr2 m2)) (hs : notStar e2 = true) (hbase : attributeBase e1 "join" X.env (eval e1 X.env) = eval e1 X.env) (hl : (apos.endLine == pos.line) = true) :
    PE X (.Call (.Attribute e1 (Str.ofString "join") apos) [e2] [] pos) (TD W K false fun σ h => (m1 σ h).bind fun x h1 => if mthR .join h1 x then (m2 σ h1).bind fun y h2 => ofO ((val h2 x).bind fun x => (val h2 y).bind fun y => (mthD .join x y).map .d) h2 else .stuck) := by
  refine PE.imp (pe_join (unf h1) (unf h2) (star_of hs) hbase hl) fun σ H Q ⟨ι, σp, hh, so, O, F⟩ => ⟨ι, σp, hh, so, O, F.bind.imp ?_⟩
  intro x h1 ι1 H1 E1 O1 F1 v rv _
  split at F1
  case isFalse => exact F1.elim
  rename_i hr
  obtain ⟨a, rfl⟩ := mthR_join hr
  cases rv
  refine ⟨⟨a, rfl⟩, ι1, σp, h1, so.mono E1.toMn, O1, F1.bind.imp ?_⟩
  intro y h2 ι2 H2 E2 O2 F2 u ru _
  rw [map2] at F2
  obtain ⟨d, e, k⟩ := nw_of O2 (E1.trans E2).trk F2
  obtain ⟨x', b, ea, eb, ed⟩ := bind2 e
  cases ea
  have rb := val_ok O2 ru eb
  have fin : ∀ (xs : List D) (p : Addr) (vs : List V), u = .ref p → (SqL X.K H2 p vs ∨ SqT X.K H2 p vs) → RpAll ι2 H2 vs xs → joinD a xs = some d →
      ∃ (p : Addr) (ss : List Str), u = .ref p ∧ (SqL X.K H2 p (ss.map V.str) ∨ SqT X.K H2 p (ss.map V.str)) ∧ (ss.map (·.length)).sum + ss.length * a.length ≤ 16777216 ∧ d = .str (Str.join a ss) := fun xs p vs eu hq rr q => by
    unfold joinD at q
    cases qs : strsOf xs with
    | none => rw [qs] at q; cases q
    | some ss =>
      rw [qs] at q
      simp only [Option.bind_some] at q
      split at q
      · rename_i hz
        cases q
        have := strs_rp rr qs
        subst this
        exact ⟨p, ss, eu, hq, hz, rfl⟩
      · cases q
  obtain ⟨p, ss, eu, hq, hz, ed'⟩ : ∃ (p : Addr) (ss : List Str), u = .ref p ∧ (SqL X.K H2 p (ss.map V.str) ∨ SqT X.K H2 p (ss.map V.str)) ∧ (ss.map (·.length)).sum + ss.length * a.length ≤ 16777216 ∧ d = .str (Str.join a ss) := by
    cases b with
    | list xs =>
      obtain ⟨p, vs, eu, hx, rr⟩ := rb.list
      exact fin xs p vs eu (.inl (.inl hx)) rr ed
    | tuple xs =>
      obtain ⟨p, vs, eu, hx, rr, _⟩ := rb.tuple
      exact fin xs p vs eu (.inr (.inl hx)) rr ed
    | _ => cases ed
  subst eu ed'
  exact ⟨a, p, ss, rfl, rfl, hq, hz, by rw [join_eq]; exact k.str⟩
theorem s_index (h1 : PE X e1 (TD W K fr1 m1)) (h2 : PE X e2 (TD W K fr2 m2)) (hs : notStar e2 = true) (hbase : attributeBase e1 "index" X.env (eval e1 X.env) = eval e1 X.env) (hl : (apos.endLine == pos.line) = true) :
    PE X (.Call (.Attribute e1 (Str.ofString "index") apos) [e2] [] pos) (TD W K false fun σ h => (m1 σ h).bind fun x h1 => if mthR .index h1 x then (m2 σ h1).bind fun y h2 => ofO ((val h2 x).bind fun x => (val h2 y).bind fun y => (mthD .index x y).map .d) h2 else .stuck) := by
  refine PE.imp (pe_bm PySem.F.plainAttrs_list PySem.F.slot_list_index PySem.F.type_list_index (mt_index (X := X)) (unf h1) (pa_cons (unf h2) pa_nil (star_of hs)) hbase ?_ hl (star_of hs)) fun σ H Q ⟨ι, σp, hh, so, O, F⟩ => ⟨ι, σp, hh, so, O, F.bind.imp ?_⟩
  · rw [star_of hs]; rfl
  intro x h1 ι1 H1 E1 O1 F1 v rv _
  split at F1
  case isFalse => exact F1.elim
  rename_i hr
  obtain ⟨xs, ex⟩ := mthR_index hr
  obtain ⟨p, vs, ev, hx, rr⟩ := (val_ok O1 rv ex).list
  subst ev
  refine ⟨.inl ⟨rfl, vs, .inl hx⟩, ι1, σp, h1, so.mono E1.toMn, O1, F1.bind.imp ?_⟩
  intro y h2 ι2 H2 E2 O2 F2 u ru _
  rw [map2] at F2
  obtain ⟨d, e, k⟩ := nw_of O2 (E1.trans E2).trk F2
  obtain ⟨x', b, ea, eb, ed⟩ := bind2 e
  have ra := val_ok O2 (rv.mono E2.toMn) ea
  have rb := val_ok O2 ru eb
  cases x' with
  | list ys =>
    simp only [mthD] at ed
    split at ed
    · rename_i hf
      obtain ⟨f1, f2⟩ := ba hf
      obtain ⟨j, ej, rfl⟩ := map_some' ed
      obtain ⟨p', ws, ew, hw, rw'⟩ := ra.list
      cases ew
      obtain ⟨hj, hj1, hj2⟩ := List.findIdx?_eq_some_iff_getElem.mp ej
      obtain ⟨z, ez, rz⟩ := rw'.get (List.getElem?_eq_getElem hj)
      have fl : ∀ (m : Nat) (z' : V) (d' : D), Rp ι2 H2 z' d' → ys[m]? = some d' → flatV z' = true ∧ eqV z' u = PyData.eqv d' b := fun m z' d' r q => by
        have ff := List.all_eq_true.mp f2 d' (List.mem_of_getElem? q)
        exact ⟨flat_rp (.inl r) ff, flat_eq (.inl r) rb ff f1⟩
      refine ⟨p, ws, u, j, z, rfl, rfl, .inl hw, flat_rp rb f1, ?_, ez, ?_, fun m z' hm q => ?_, k.int⟩
      · refine List.all_eq_true.mpr fun z' hz' => ?_
        obtain ⟨m, hm⟩ := get_of_mem hz'
        obtain ⟨d', e', r'⟩ := rw'.getV hm
        exact (fl m z' d' r' e').1
      · rw [(fl j z _ rz (List.getElem?_eq_getElem hj)).2]
        exact hj1
      · obtain ⟨d', e', r'⟩ := rw'.getV q
        rw [(fl m z' d' r' e').2]
        have hm' : m < ys.length := (List.getElem?_eq_some_iff.mp e').1
        have := hj2 m hm
        rw [List.getElem?_eq_getElem hm'] at e'
        cases e'
        simpa using this
    · cases ed
  | _ => cases ed
/-- a method of a tuple whose object is known -/
theorem pe_bmT {r : V → List V → Hp → VK → Prop} {to t2 : TE} {id : String} {name : Str} (slot : Slot "tuple" name id) (hty : typeOf (.builtin id) = pure (.type "method_descriptor")) (hm : MtR X id r) (ho : PE X e1 to) (h2 : PE X e2 t2) (hs : notStar e2 = true)
    (hbase : attributeBase e1 name X.env (eval e1 X.env) = eval e1 X.env) (hl : (apos.endLine == pos.line) = true) :
    PE X (.Call (.Attribute e1 name apos) [e2] [] pos) (fun σ H Q => to σ H fun x H1 => Kn H1 x ∧ t2 σ H1 fun y H2 => r x [y] H2 Q) := by
  refine ⟨fun pins s σ H Q I h => ?_⟩
  refine wpAny_Call_method_late hbase (by rw [star_of hs]; rfl) hl rfl (thn (ho.run pins s σ H _ I h) fun v s1 ⟨x, H1, I1, r1, kn, q1⟩ => ?_)
  obtain ⟨a, o, xs, rfl, hk, hc, hd⟩ := kn
  obtain rfl : v = Value.ref a := r1
  obtain ⟨ho1, _⟩ := I1.hok a _ hk
  refine ⟨"tuple", id, PySem.F.plainAttrs_tuple, slot, hty, ⟨o, ho1, hc⟩, fun b q => by cases q; exact ⟨o, ho1, hd⟩, ?_⟩
  have hA := (pa_cons h2 pa_nil (star_of hs)).run pos pins s1 σ H1 (fun ys H2 => r (.ref a) ys H2 Q) I1 q1
  rw [star_of hs] at hA ⊢
  refine Calls.callWith_builtin rfl (Calls.evalArgs_plain ?_)
  exact thn hA fun us s2 ⟨vs, H2, I2, r2, q2⟩ => hm pins s2 σ H2 (.ref a) vs (.ref a) us Q I2 rfl r2 q2
theorem mthR_tindex {h : PH} {x : PV} (hr : mthR .tindex h x = true) : ∃ xs, x = .k (.tuple xs) := by
  cases x with
  | cell n => cases hr
  | d y => cases hr
  | k x => cases x <;> first | exact ⟨_, rfl⟩ | cases hr
theorem s_tindex (h1 : PE X e1 (TD W K fr1 m1)) (h2 : PE X e2 (TD W K fr2 m2)) (hs : notStar e2 = true) (hbase : attributeBase e1 "index" X.env (eval e1 X.env) = eval e1 X.env) (hl : (apos.endLine == pos.line) = true) :
    PE X (.Call (.Attribute e1 (Str.ofString "index") apos) [e2] [] pos) (TD W K false fun σ h => (m1 σ h).bind fun x h1 => if mthR .tindex h1 x then (m2 σ h1).bind fun y h2 => ofO ((val h2 x).bind fun x => (val h2 y).bind fun y => (mthD .tindex x y).map .d) h2 else .stuck) := by
  refine PE.imp (pe_bmT PySem.F.slot_tuple_index PySem.F.type_tuple_index (mt_tup_index (X := X)) (unf h1) (unf h2) hs hbase hl) fun σ H Q ⟨ι, σp, hh, so, O, F⟩ => ⟨ι, σp, hh, so, O, F.bind.imp ?_⟩
  intro x h1 ι1 H1 E1 O1 F1 v rv _
  split at F1
  case isFalse => exact F1.elim
  rename_i hr
  obtain ⟨xs, rfl⟩ := mthR_tindex hr
  refine ⟨rv.2.1, ι1, σp, h1, so.mono E1.toMn, O1, F1.bind.imp ?_⟩
  intro y h2 ι2 H2 E2 O2 F2 u ru _
  rw [map2] at F2
  obtain ⟨d, e, k⟩ := nw_of O2 (E1.trans E2).trk F2
  obtain ⟨x', b, ea, eb, ed⟩ := bind2 e
  cases ea
  have rb := val_ok O2 ru eb
  obtain ⟨p, vs, ev, hx, rr, _⟩ := (val_ok (x := .tuple xs) O2 (rv.mono E2.toMn) rfl).tuple
  subst ev
  cases b with
  | str z =>
    simp only [mthD] at ed
    cases qs : strsOf xs with
    | none => rw [qs] at ed; cases ed
    | some ss =>
      rw [qs] at ed
      simp only [Option.bind_some] at ed
      obtain ⟨j, ej, rfl⟩ := map_some' ed
      have := strs_rp rr qs
      subst this
      obtain ⟨hj, hj1, hj2⟩ := List.findIdx?_eq_some_iff_getElem.mp ej
      refine ⟨p, ss, z, j, rfl, by rw [rb.str], .inl hx, ?_, fun m hm q => ?_, k.int⟩
      · rw [List.getElem?_eq_getElem hj, of_decide_eq_true hj1]
      · obtain ⟨hm', e'⟩ := List.getElem?_eq_some_iff.mp q
        have := hj2 m hm
        rw [e'] at this
        simp at this
  | _ => cases ed
/-- tuple(xs) of a list: a new tuple whose object is known -/
theorem call_ktup : CallR X (.type "tuple") (fun xs H Q => ∃ p ys, xs = [.ref p] ∧ SqL X.K H p ys ∧ ∀ l o, H l = none → o.cls = .type "tuple" → o.dict = none → Q (.ref l) (upd H l (.frz o (.tup ys)))) := by
  intro pins s σ H xs us Q I r ⟨p, ys, e, hq, q⟩
  subst e
  rw [Vals.ref1 r]
  obtain ⟨its, rv, pl, hz⟩ := I.list hq
  have ln := rv.length
  refine call_tuple_list pl.isList (fun g up => ?_) (by rw [List.size_toArray, ← ln]; exact hz)
  have I1 : L2.Inv X pins σ H { s with heap := g } := I.kept (t' := s.toks) up
  let o : Obj := { cls := .type "tuple", data := .seq its.toArray }
  have at0 : (g.push o).get? g.objs.size = some o := Heap.get?_push_size _ rfl
  refine ⟨.ref g.objs.size, upd H g.objs.size (.frz o (.tup ys)), I1.laid (t' := s.toks) (fun b u e => Heap.get?_push_of_some _ e) (Nat.le_refl _) ⟨at0, hz, its, rv, ⟨o, at0, rfl, _, rfl⟩⟩, rfl, q _ o (I1.hok.fresh (Nat.le_refl _)) rfl rfl⟩
theorem s_ktup (G : Good P w K mg base n S X W) {T : String → Option CDef} {Bs Es : List String} {p : Pos} (PG : Pg P w K mg base T Bs Es n) (hb : "tuple" ∈ Bs) (hg : S.glb (Str.ofString "tuple") = true) (hs : notStar e1 = true) (h1 : PE X e1 (TD W K fr1 m1)) :
    PE X (.Call (.Name (Str.ofString "tuple") p) [e1] [] pos) (TD W K false fun σ h => (m1 σ h).bind fun x h1 => match val h1 x with | some (.list xs) => .ok (.k (.tuple xs)) h1 | _ => .stuck) := by
  obtain ⟨g1, g2, g3⟩ := G.gl hg
  refine PE.imp (pe_callTy call_ktup g1 (G.free PG hb) (by decide +kernel) (pa_cons (unf h1) pa_nil (star_of hs)) g3 g2 (star_of hs)) fun σ H Q ⟨ι, σp, hh, so, O, F⟩ => ⟨ι, σp, hh, so, O, F.bind.imp ?_⟩
  intro x h1 ι1 H1 E1 O1 F1 v rv _
  split at F1
  · rename_i xs ex
    obtain ⟨q, vs, ev, hx, rr⟩ := (val_ok O1 rv ex).list
    subst ev
    refine ⟨q, vs, rfl, .inl hx, fun l o nl hc hd => ?_⟩
    have g := grow_upd (o := .frz o (.tup vs)) nl
    exact F1 ι1 _ (Ext.grow O1 g) (O1.grow g) _ ⟨.tup (.inr ⟨o, upd_same⟩) (O1.fresh nl) (Rp.monoAll (Mn.grow g) _ _ rr), ⟨l, o, vs, rfl, upd_same, hc, hd⟩, xs, rfl⟩ fun z => nomatch z
  · exact F1.elim
end
end J
end JMth

section JZip
set_option Elab.async false
set_option linter.all false
set_option maxRecDepth 100000
set_option autoImplicit false
set_option maxHeartbeats 4000000
/-! J.Zip: dict(zip(s, t)) of two tuples. -/
namespace J
open PySem PySem.Spec PyProof.Rows L2
section
variable {prog : Program} {w : World} {A : Around} {E : Value → Shared → Prop} {s : Shared} {z c d T p q t u : Addr} {b : Bool} {oT : Obj} {m n : Nat} {xs ys : Array Value} {x y : Value}
/-- the next pair, while the zip's own tuple is out -/
theorem zt_item {Q : Value → Shared → Prop} (R : ZipApart z c d p q t u) (ez : IsZipHeld s.heap z c d T b) (eT : s.heap.get? T = some oT) (ec : IsPair s.heap c (.ref p) (.ref q))
    (ep : s.heap.IsTupleIter p t m) (eq : s.heap.IsTupleIter q u n) (et : s.heap.IsTuple t xs) (eu : s.heap.IsTuple u ys) (ex : xs[m]? = some x) (ey : ys[n]? = some y)
    (fin : ∀ g, IsZipHeld g z c d T true → g.IsTupleIter p t (m + 1) → g.IsTupleIter q u (n + 1) → IsPair g s.heap.objs.size x y → g.objs.size = s.heap.objs.size + 1 →
      (∀ a o, a ≠ z → a ≠ p → a ≠ q → s.heap.get? a = some o → g.get? a = some o) → Q (.ref s.heap.objs.size) { s with heap := g }) :
    wpAny (model prog w) A (Builtin.«zip.__next__» ⟨[.ref z], []⟩) (fun f s' => ∃ v, f = .done (.ret v) ∧ Q v s') E s := by
  show wpAny _ _ (field (.ref z) 2 >>= _) _ _ s
  refine wpAny_bind (wpAny_field ez rfl (x := .bool false) rfl ?_)
  show wpAny _ _ (field (.ref z) 3 >>= _) _ _ s
  refine wpAny_bind (wpAny_field ez rfl (x := .ref c) rfl ?_)
  refine wpAny_bind (wpAny_seqItems ec rfl ?_)
  show wpAny _ _ (Builtin.SmallTypes.ownedTupleIsFree (.ref z) >>= _) _ _ s
  refine wpAny_bind (wpAny_tupleHeld_zip ez eT fun g1 ez1 s1 => ?_)
  simp only [Bool.false_eq_true, if_false]
  refine wpAny_bind ?_
  rw [← Array.forIn_toList]
  simp only [List.forIn_cons, List.forIn_nil]
  refine wpAny_bind (wpAny_bind (wpAny_holding ?_))
  show wpAny _ _ (Builtin.SmallTypes.nextOf (.ref p) >>= _) _ _ _
  refine wpAny_bind (wpAny_nextOf_tuple_item (s := { s with heap := g1 }) (ep.extBut s1.extBut R.i1z) (et.extBut s1.extBut R.l1z) ex fun g2 ep2 s2 => wpAny_pure ?_)
  refine wpAny_pure ?_
  refine wpAny_bind (wpAny_bind (wpAny_holding ?_))
  show wpAny _ _ (Builtin.SmallTypes.nextOf (.ref q) >>= _) _ _ _
  refine wpAny_bind (wpAny_nextOf_tuple_item (s := { s with heap := g2 }) ((eq.extBut s1.extBut R.i2z).extBut s2.extBut R.i12.symm) ((eu.extBut s1.extBut R.l2z).extBut s2.extBut R.l2i1) ey fun g3 eq3 s3 => wpAny_pure ?_)
  refine wpAny_pure (wpAny_pure ?_)
  show wpAny _ _ (newTuple [x, y] >>= _) _ _ _
  refine wpAny_bind (wpAny_newTuple ?_)
  have sz : g3.objs.size = s.heap.objs.size := by rw [s3.1, s2.1, s1.1]
  have ez3 : IsZipHeld g3 z c d T true := s3.extBut _ _ R.i2z.symm (s2.extBut _ _ R.i1z.symm ez1)
  have up : ∀ a o, a ≠ z → a ≠ p → a ≠ q → s.heap.get? a = some o → g3.get? a = some o := fun a o n1 n2 n3 e => s3.extBut _ _ n3 (s2.extBut _ _ n2 (s1.extBut _ _ n1 e))
  have ep3 : g3.IsTupleIter p t (m + 1) := ep2.extBut s3.extBut R.i12
  refine wpAny_pure ⟨_, rfl, ?_⟩
  show Q (.ref g3.objs.size) _
  have e5 : IsPair (g3.push { cls := .type "tuple", data := .seq #[x, y] }) g3.objs.size x y := Heap.get?_push_size _ rfl
  have e6 : (g3.push { cls := .type "tuple", data := .seq #[x, y] }).objs.size = g3.objs.size + 1 := Heap.size_push ..
  rw [sz] at e5 e6 ⊢
  exact fin _ (Heap.get?_push_of_some _ ez3) (ep3.at fun o e => Heap.get?_push_of_some _ e) (eq3.at fun o e => Heap.get?_push_of_some _ e) e5 e6 fun a o n1 n2 n3 e => Heap.get?_push_of_some _ (up a o n1 n2 n3 e)
/-- no pair is left -/
theorem zt_end {Q : PySem.Fin → Shared → Prop} (hA : A.handled = none) (R : ZipApart z c d p q t u) (ez : IsZipHeld s.heap z c d T b) (eT : s.heap.get? T = some oT) (ec : IsPair s.heap c (.ref p) (.ref q))
    (ep : s.heap.IsTupleIter p t m) (eq : s.heap.IsTupleIter q u n) (et : s.heap.IsTuple t xs) (eu : s.heap.IsTuple u ys) (en : xs[m]? = none ∨ ys[n]? = none)
    (fin : ∀ g e, (∀ a o, a ≠ z → a ≠ p → a ≠ q → s.heap.get? a = some o → g.get? a = some o) → (∃ o, g.get? e = some o ∧ o.cls = .type "StopIteration") → E (.ref e) { s with heap := g }) :
    wpAny (model prog w) A (Builtin.«zip.__next__» ⟨[.ref z], []⟩) Q E s := by
  show wpAny _ _ (field (.ref z) 2 >>= _) _ _ s
  refine wpAny_bind (wpAny_field ez rfl (x := .bool false) rfl ?_)
  show wpAny _ _ (field (.ref z) 3 >>= _) _ _ s
  refine wpAny_bind (wpAny_field ez rfl (x := .ref c) rfl ?_)
  refine wpAny_bind (wpAny_seqItems ec rfl ?_)
  show wpAny _ _ (Builtin.SmallTypes.ownedTupleIsFree (.ref z) >>= _) _ _ s
  refine wpAny_bind (wpAny_tupleHeld_zip ez eT fun g1 ez1 s1 => ?_)
  simp only [Bool.false_eq_true, if_false]
  refine wpAny_bind ?_
  rw [← Array.forIn_toList]
  simp only [List.forIn_cons, List.forIn_nil]
  refine wpAny_bind (wpAny_bind (wpAny_holding ?_))
  show wpAny _ _ (Builtin.SmallTypes.nextOf (.ref p) >>= _) _ _ _
  cases ex : xs[m]? with
  | none =>
    refine wpAny_bind (wpAny_nextOf_tuple_end (s := { s with heap := g1 }) hA (ep.extBut s1.extBut R.i1z) (et.extBut s1.extBut R.l1z) ex fun g2 e s2 he => ?_)
    exact fin g2 e (fun a o n1 n2 _ k => s2 _ _ n2 (s1.extBut _ _ n1 k)) he
  | some x =>
    have ey : ys[n]? = none := by
      rcases en with k | k
      · rw [ex] at k; cases k
      · exact k
    refine wpAny_bind (wpAny_nextOf_tuple_item (s := { s with heap := g1 }) (ep.extBut s1.extBut R.i1z) (et.extBut s1.extBut R.l1z) ex fun g2 ep2 s2 => wpAny_pure ?_)
    refine wpAny_pure ?_
    refine wpAny_bind (wpAny_bind (wpAny_holding ?_))
    show wpAny _ _ (Builtin.SmallTypes.nextOf (.ref q) >>= _) _ _ _
    refine wpAny_bind (wpAny_nextOf_tuple_end (s := { s with heap := g2 }) hA ((eq.extBut s1.extBut R.i2z).extBut s2.extBut R.i12.symm) ((eu.extBut s1.extBut R.l2z).extBut s2.extBut R.l2i1) ey fun g3 e s3 he => ?_)
    exact fin g3 e (fun a o n1 n2 n3 k => s3 _ _ n3 (s2.extBut _ _ n2 (s1.extBut _ _ n1 k))) he
theorem ztn_item {Q : Option Value → Shared → Prop} (R : ZipApart z c d p q t u) (ez : IsZipHeld s.heap z c d T b) (eT : s.heap.get? T = some oT) (ec : IsPair s.heap c (.ref p) (.ref q))
    (ep : s.heap.IsTupleIter p t m) (eq : s.heap.IsTupleIter q u n) (et : s.heap.IsTuple t xs) (eu : s.heap.IsTuple u ys) (ex : xs[m]? = some x) (ey : ys[n]? = some y)
    (fin : ∀ g, IsZipHeld g z c d T true → g.IsTupleIter p t (m + 1) → g.IsTupleIter q u (n + 1) → IsPair g s.heap.objs.size x y → g.objs.size = s.heap.objs.size + 1 →
      (∀ a o, a ≠ z → a ≠ p → a ≠ q → s.heap.get? a = some o → g.get? a = some o) → Q (some (.ref s.heap.objs.size)) { s with heap := g }) :
    wpAny (model prog w) A (pyNext (.ref z)) Q E s := by
  have ty : s.TypeIs (.ref z) "zip" := ⟨_, ez, rfl⟩
  unfold pyNext
  exact wpAny_bind (wpAny_attempt (wpAny_callSpecial?_slot (name := Str.ofString "__next__") ty F.slot_zip_next
    (wpAny_call_entry F.slot_zip_next ty F.entry_zip_next (zt_item R ez eT ec ep eq et eu ex ey fun g k1 k2 k3 k4 k5 k6 => wpAny_pure (fin g k1 k2 k3 k4 k5 k6)) (F.args_zip_next_1 _))))
theorem ztn_end {Q : Option Value → Shared → Prop} (hA : A.handled = none) (R : ZipApart z c d p q t u) (ez : IsZipHeld s.heap z c d T b) (eT : s.heap.get? T = some oT) (ec : IsPair s.heap c (.ref p) (.ref q))
    (ep : s.heap.IsTupleIter p t m) (eq : s.heap.IsTupleIter q u n) (et : s.heap.IsTuple t xs) (eu : s.heap.IsTuple u ys) (en : xs[m]? = none ∨ ys[n]? = none)
    (fin : ∀ g, (∀ a o, a ≠ z → a ≠ p → a ≠ q → s.heap.get? a = some o → g.get? a = some o) → Q none { s with heap := g }) :
    wpAny (model prog w) A (pyNext (.ref z)) Q E s := by
  have ty : s.TypeIs (.ref z) "zip" := ⟨_, ez, rfl⟩
  unfold pyNext
  refine wpAny_bind (wpAny_attempt (wpAny_callSpecial?_slot (name := Str.ofString "__next__") ty F.slot_zip_next
    (wpAny_call_entry F.slot_zip_next ty F.entry_zip_next (zt_end hA R ez eT ec ep eq et eu en fun g e k ⟨o, ho, hc⟩ => ?_) (F.args_zip_next_1 _))))
  refine wpAny_bind (wpAny_isInstance (T := "StopIteration") (b := true) ⟨o, ho, hc⟩ isSubtype_stop ?_)
  exact wpAny_pure (fin _ k)
/-- the state of a zip of two tuples within dict(): its own tuple is free, or out -/
def ZSt (xs ys : Array Value) (z c d p q t u D : Addr) (i : Nat) (h : Heap) : Prop := IsPair h c (.ref p) (.ref q) ∧ h.IsTupleIter p t i ∧ h.IsTupleIter q u i ∧ h.IsTuple t xs ∧ h.IsTuple u ys ∧
  ((IsZip h z c d .none ∧ ∃ a b, IsPair h d a b) ∨ ∃ T f oT, IsZipHeld h z c d T f ∧ h.get? T = some oT ∧ T ≠ z ∧ T ≠ p ∧ T ≠ q ∧ T ≠ D)
def ZOk (xs ys : Array Value) (z c d p q t u : Addr) (h : Heap) : Prop := IsZip h z c d .none ∧ IsPair h c (.ref p) (.ref q) ∧ (∃ a b, IsPair h d a b) ∧ h.IsTupleIter p t 0 ∧ h.IsTupleIter q u 0 ∧ h.IsTuple t xs ∧ h.IsTuple u ys
theorem zsrc {D : Addr} (hA : A.handled = none) (R : ZipApart z c d p q t u) (xs ys : Array Value) (dz : D ≠ z) (dc : D ≠ c) (dd : D ≠ d) (dp : D ≠ p) (dq : D ≠ q) (dt : D ≠ t) (du : D ≠ u) :
    PairSrc prog w A z D [z, d, p, q] (min xs.size ys.size) (fun i k v => xs[i]? = some k ∧ ys[i]? = some v) (ZSt xs ys z c d p q t u D) where
  off := fun k => by
    have k : D = z ∨ D = d ∨ D = p ∨ D = q := by simpa using k
    rcases k with k | k | k | k
    · exact dz k
    · exact dd k
    · exact dp k
    · exact dq k
  frame := fun i g1 g2 st up => by
    obtain ⟨ec, ep, eq, et, eu, ez⟩ := st
    refine ⟨up _ _ dc.symm ec, ep.at fun o e => up _ o dp.symm e, eq.at fun o e => up _ o dq.symm e, et.at fun o e => up _ o dt.symm e, eu.at fun o e => up _ o du.symm e, ?_⟩
    rcases ez with ⟨ez, a, b, ed⟩ | ⟨T, f, oT, ez, eT, n1, n2, n3, n4⟩
    · exact .inl ⟨up _ _ dz.symm ez, a, b, up _ _ dd.symm ed⟩
    · exact .inr ⟨T, f, oT, up _ _ dz.symm ez, up _ _ n4 eT, n1, n2, n3, n4⟩
  item := fun i s1 Q1 E1 hi st hD fin => by
    obtain ⟨ec, ep, eq, et, eu, ez⟩ := st
    have ix : i < xs.size := Nat.lt_of_lt_of_le hi (Nat.min_le_left ..)
    have iy : i < ys.size := Nat.lt_of_lt_of_le hi (Nat.min_le_right ..)
    have ex := Array.getElem?_eq_getElem ix
    have ey := Array.getElem?_eq_getElem iy
    have lt : ∀ {a o}, s1.heap.get? a = some o → s1.heap.objs.size ≠ a := fun e => Nat.ne_of_gt (Heap.lt_size e)
    have np : s1.heap.objs.size ≠ p := let ⟨_, e, _⟩ := ep; lt e
    have nq : s1.heap.objs.size ≠ q := let ⟨_, e, _⟩ := eq; lt e
    rcases ez with ⟨ez, a, b, ed⟩ | ⟨T, f, oT, ez, eT, n1, n2, n3, n4⟩
    · refine RZ.pyNext_zipT_item R ez ec ed ep eq et eu ex ey fun g k1 k2 k3 k4 k5 k6 up => ?_
      refine fin s1.heap.objs.size _ _ g s1.toks ⟨ex, ey⟩ (.inl ⟨_, k5, rfl, _, rfl⟩) ⟨up _ _ R.TIz R.TITO R.TIi1 R.TIi2 ec, k3, k4, et.at fun o e => up _ o R.l1z R.l1TO R.l1i1 R.l1i2 e, eu.at fun o e => up _ o R.l2z R.l2TO R.l2i1 R.l2i2 e, .inr ⟨s1.heap.objs.size, false, _, k1, k5, lt ez, np, nq, Nat.ne_of_gt hD⟩⟩ fun a o ha e => ?_
      exact up a o (fun k => ha (by simp [k])) (fun k => ha (by simp [k])) (fun k => ha (by simp [k])) (fun k => ha (by simp [k])) e
    · refine ztn_item R ez eT ec ep eq et eu ex ey fun g k1 k3 k4 k5 k6 up => ?_
      refine fin s1.heap.objs.size _ _ g s1.toks ⟨ex, ey⟩ (.inl ⟨_, k5, rfl, _, rfl⟩) ⟨up _ _ R.TIz R.TIi1 R.TIi2 ec, k3, k4, et.at fun o e => up _ o R.l1z R.l1i1 R.l1i2 e, eu.at fun o e => up _ o R.l2z R.l2i1 R.l2i2 e, .inr ⟨T, true, oT, k1, up _ _ n1 n2 n3 eT, n1, n2, n3, n4⟩⟩ fun a o ha e => ?_
      exact up a o (fun k => ha (by simp [k])) (fun k => ha (by simp [k])) (fun k => ha (by simp [k])) e
  done := fun s1 Q1 E1 st fin => by
    obtain ⟨ec, ep, eq, et, eu, ez⟩ := st
    have en : xs[min xs.size ys.size]? = none ∨ ys[min xs.size ys.size]? = none := by
      rcases Nat.le_total xs.size ys.size with k | k
      · exact .inl (Array.getElem?_eq_none (by rw [Nat.min_eq_left k]; exact Nat.le_refl _))
      · exact .inr (Array.getElem?_eq_none (by rw [Nat.min_eq_right k]; exact Nat.le_refl _))
    rcases ez with ⟨ez, a, b, ed⟩ | ⟨T, f, oT, ez, eT, n1, n2, n3, n4⟩
    · exact RZ.pyNext_zipT_end hA R ez ec ed ep eq et eu en fun g up => fin g s1.toks fun a o ha e => up a o (fun k => ha (by simp [k])) (fun k => ha (by simp [k])) (fun k => ha (by simp [k])) (fun k => ha (by simp [k])) e
    · exact ztn_end hA R ez eT ec ep eq et eu en fun g up => fin g s1.toks fun a o ha e => up a o (fun k => ha (by simp [k])) (fun k => ha (by simp [k])) (fun k => ha (by simp [k])) e
theorem zarg (R : ZipApart z c d p q t u) (xs ys : Array Value) :
    PairArg prog w "zip" z [z, c, d, p, q, t, u] [z, d, p, q] (min xs.size ys.size) (fun i k v => xs[i]? = some k ∧ ys[i]? = some v) (ZOk xs ys z c d p q t u) where
  type := fun s ok => ⟨_, ok.1, rfl⟩
  notDict := by decide
  keep := fun g1 g2 ok up => by
    obtain ⟨ez, ec, ⟨a, b, ed⟩, ep, eq, et, eu⟩ := ok
    exact ⟨up _ _ ez, up _ _ ec, ⟨a, b, up _ _ ed⟩, ep.at fun o e => up _ o e, eq.at fun o e => up _ o e, et.at fun o e => up _ o e, eu.at fun o e => up _ o e⟩
  there := fun g ok a ha => by
    obtain ⟨ez, ec, ⟨_, _, ed⟩, ⟨_, ep, _⟩, ⟨_, eq, _⟩, ⟨_, et, _⟩, ⟨_, eu, _⟩⟩ := ok
    have ha : a = z ∨ a = c ∨ a = d ∨ a = p ∨ a = q ∨ a = t ∨ a = u := by simpa using ha
    rcases ha with k | k | k | k | k | k | k <;> rw [k]
    · exact ⟨_, ez⟩
    · exact ⟨_, ec⟩
    · exact ⟨_, ed⟩
    · exact ⟨_, ep⟩
    · exact ⟨_, eq⟩
    · exact ⟨_, et⟩
    · exact ⟨_, eu⟩
  sub := fun a ha => by
    have ha : a = z ∨ a = d ∨ a = p ∨ a = q := by simpa using ha
    rcases ha with k | k | k | k <;> simp [k]
  noKeys := fun A s Q E hA ok fin => getAttrOr_miss_zip ok.1 rfl rfl rfl zip_no_keys (by decide +kernel) hA fin
  iter := fun A s D Q E hA ok hD hn fin => by
    obtain ⟨ez, ec, ⟨a, b, ed⟩, ep, eq, et, eu⟩ := ok
    simp only [List.mem_cons, List.not_mem_nil, or_false, not_or] at hn
    obtain ⟨dz, dc, dd, dp, dq, dt, du⟩ := hn
    exact wpAny_pyIter_zip ez (fin z [z, d, p, q] (ZSt xs ys z c d p q t u D) s.heap s.toks (zsrc hA R xs ys dz dc dd dp dq dt du) ⟨ec, ep, eq, et, eu, .inl ⟨ez, a, b, ed⟩⟩ (fun _ _ e => e) fun b hb => .inl hb)
end
end J
end JZip

section JZip2
set_option Elab.async false
set_option linter.all false
set_option maxRecDepth 100000
set_option autoImplicit false
set_option maxHeartbeats 4000000
/-! J.Zip2: dict(zip(s, t)). -/
namespace J
open PySem PySem.Spec PyProof.Rows L2
def rB2 (f : B2) : R2 := fun v u H Q => ∃ ι h a b d, HpOk ι H h ∧ Rr ι H v a ∧ Rr ι H u b ∧ b2D f a b = some d ∧ Nw ι H Q d
theorem keys_rp {ι : Io} {H : Hp} : ∀ {vs : List V} {ds : List D}, RpAll ι H vs ds → ds.all isKey = true → ∃ ks : List Key, vs = ks.map kV ∧ ds = ks.map kD
  | _, _, .nil, _ => ⟨[], rfl, rfl⟩
  | _, _, .cons r rr, e => by
    simp only [List.all_cons, Bool.and_eq_true] at e
    obtain ⟨k, rfl, rfl⟩ := key_rr (.inl r) e.1
    obtain ⟨ks, rfl, rfl⟩ := keys_rp rr e.2
    exact ⟨k :: ks, rfl, rfl⟩
theorem zip_kv {ι : Io} {H : Hp} : ∀ (ks : List Key) {us : List V} {es : List D}, RpAll ι H us es → RpKV ι H (ks.zip us) ((ks.map kD).zip es)
  | [], _, _, _ => .nil
  | k :: ks, _, _, .nil => by simpa using RpKV.nil
  | k :: ks, _, _, .cons r rr => .cons r (zip_kv ks rr)
theorem zip_KV : ∀ (ks : List Key) {us : List V} {its : List Value}, L2.Vals us its → KV (ks.zip us) (ks.zip its)
  | [], _, _, _ => .nil
  | k :: ks, _, _, .nil => by
    show Paired _ _ _
    simpa using Paired.nil
  | k :: ks, _, _, .cons r rr => .cons ⟨rfl, r⟩ (zip_KV ks rr)
theorem key_at {P : Program} {w : World} : ∀ {ks : List Key} {us : List Value} {i : Nat} {v : Value}, L2.Vals (ks.map kV) us → us[i]? = some v → ∃ k, ks[i]? = some k ∧ (mixKind P w).is k v = true
  | [], _, _, _, r, e => by
    rw [List.map_nil] at r
    cases r
    simp at e
  | k :: ks, _, i, v, r, e => by
    rw [List.map_cons] at r
    cases r with
    | cons r rr =>
      cases i with
      | zero =>
        simp only [List.getElem?_cons_zero, Option.some.injEq] at e
        subst e
        exact ⟨k, rfl, kV_is r⟩
      | succ i =>
        simp only [List.getElem?_cons_succ] at e ⊢
        exact key_at rr e
section
variable {P : Program} {w : World} {K : PySem.W.Frag} {mg : Str → Option Value} {base : Heap} {n : Nat} {S : SC} {X : Cx} {W : WX} {e1 e2 : Expr} {fr1 fr2 : Bool} {m1 m2 : PEnv → PH → Rs PV} {pos p p2 q : Pos} {T : String → Option CDef} {Bs Es : List String}
theorem dz_call {pins : List (Addr × Obj)} {σ : L2.St} {H : Hp} {s : Shared} {v u : V} {x y : Value} {Q : VK} (hc : X.calm = true) (I : L2.Inv X pins σ H s) (rx : L2.RelV v x) (ry : L2.RelV u y) (h : rB2 .dzip v u H Q) :
    wpAny (model X.prog X.w) X.A (call (.type "zip") [x, y]) (fun z s1 => wpAny (model X.prog X.w) X.A (call (.type "dict") [z]) (EP X pins σ Q) X.xe s1) X.xe s := by
  obtain ⟨ι, hh, a, b, d, O, ra, rb, e, k⟩ := h
  unfold b2D at e
  split at e
  · split at e
    case isFalse => cases e
    rename_i xs ys hk
    cases e
    obtain ⟨l, vs, e1, hl, r1, _⟩ := ra.tuple
    obtain ⟨m, us, e2, hm, r2, _⟩ := rb.tuple
    obtain ⟨ks, rfl, rfl⟩ := keys_rp r1 hk
    subst e1 e2
    obtain rfl : x = Value.ref l := rx
    obtain rfl : y = Value.ref m := ry
    obtain ⟨its, rv, pl, hz⟩ := I.tuple (.inl hl)
    obtain ⟨jts, ru, pm, hz2⟩ := I.tuple (.inl hm)
    obtain ⟨o1, ho1, _⟩ := id pl
    obtain ⟨o2, ho2, _⟩ := id pm
    refine RZ.call_zipT (show s.heap.IsTuple l its.toArray from pl) (show s.heap.IsTuple m jts.toArray from pm) fun g a1 a2 a3 a4 a5 a6 up => ?_
    have lk : its.length = ks.length := by rw [← rv.length, List.length_map]
    have lu : us.length = jts.length := ru.length
    have hzk : (ks.zip us).length ≤ sizeLine := by
      rw [List.length_zip]
      refine Nat.le_trans (Nat.min_le_left _ _) ?_
      rw [List.length_map] at hz
      exact hz
    refine call_dict_pairs (knd := mixKind X.prog X.w) (kvs := ks.zip jts) (zarg (PySem.W.ktu_apart s.heap.objs.size l m (Heap.lt_size ho1) (Heap.lt_size ho2)) its.toArray jts.toArray) (I.ok.hd hc)
      ⟨a1, a2, ⟨_, _, a3⟩, a4, a5, (show s.heap.IsTuple l its.toArray from pl).at fun o e => up _ o e, (show s.heap.IsTuple m jts.toArray from pm).at fun o e => up _ o e⟩ ⟨?_, fun i key v ⟨q1, q2⟩ => ?_⟩ ?_ fun g2 tk D up2 => ?_
    · simp [lk]
    · obtain ⟨k', e1, e2⟩ := key_at rv (show its[i]? = some key by simpa using q1)
      refine ⟨k', ?_, e2⟩
      rw [List.getElem?_zip_eq_some]
      exact ⟨e1, by simpa using q2⟩
    · simp only [List.size_toArray]
      rw [lk]
      rw [List.length_zip, lu] at hzk
      exact hzk
    · have hs5 : g.objs.size = s.heap.objs.size + 5 := a6
      have big := I.big
      refine ⟨.ref g.objs.size, upd H g.objs.size (.dK (mergeK [] (ks.zip us))), I.laid (t' := tk) (fun b o e => up2 b o (fun hb => ?_) (up b o e)) (by rw [hs5]; exact Nat.le_add_right _ _) ?_, rfl, ?_⟩
      · have lt := Heap.lt_size e
        have hb : b = s.heap.objs.size + 4 ∨ b = s.heap.objs.size + 3 ∨ b = s.heap.objs.size ∨ b = s.heap.objs.size + 1 := by simpa using hb
        have z : ∀ j, b = s.heap.objs.size + j → False := fun j q => absurd (show s.heap.objs.size + j < s.heap.objs.size from q ▸ lt) (by omega)
        rcases hb with q | q | q | q
        · exact z 4 q
        · exact z 3 q
        · exact z 0 q
        · exact z 1 q
      · refine ⟨?_, ?_, merged [] (ks.zip jts), KV.merge (zip_KV ks ru) .nil, D⟩
        · refine Nat.le_trans (length_mergeK _ _) ?_
          rw [List.length_nil, Nat.zero_add]
          exact hzk
        · refine beq_eq_false_iff_ne.mpr (Nat.ne_of_gt ?_)
          rw [hs5]
          exact Nat.lt_of_lt_of_le big (Nat.le_add_right _ _)
      · exact k.dct O (I.hok.fresh (by rw [hs5]; exact Nat.le_add_right _ _)) (dictOf_kv (zip_kv ks r2))
  · exact nomatch ‹B2.dzip = B2.lzip›
  · cases e
theorem pe_dzip {t1 t2 : TE} (hc : X.calm = true) (hg : Gl X "dict") (hm : X.mg "dict" = none) (hg2 : Gl X "zip") (hm2 : X.mg "zip" = none) (hs1 : notStar e1 = true) (hs2 : notStar e2 = true) (h1 : PE X e1 t1) (h2 : PE X e2 t2) :
    PE X (.Call (.Name "dict" p) [.Call (.Name "zip" p2) [e1, e2] [] q] [] pos) (tOp (rB2 .dzip) t1 t2) := by
  refine ⟨fun pins s σ H Q I h => Call_ (ld_blt I hg hm boot_dict ?_)⟩
  refine PyProof.Rows.callWith_type1 (PyProof.Rows.args_cons ?_ rfl) rfl rfl
  refine Call_ (ld_blt I hg2 hm2 boot_zip (PyProof.Rows.callWith_type1 (PyProof.Rows.args_cons (thn (h1.run pins s σ H _ I h) fun x s1 ⟨v, H1, I1, r1, q1⟩ => ?_) (star_of hs1)) (star_of hs1) (by rw [star_of hs2]; rfl)))
  refine PyProof.Rows.args_cons (thn (h2.run pins s1 σ H1 _ I1 q1) fun y s2 ⟨u, H2, I2, r2, q2⟩ => PyProof.Rows.args_nil ?_) (star_of hs2)
  exact thn (dz_call hc I2 r1 r2 q2) fun z s3 hz => PyProof.Rows.args_nil hz
theorem s_dzip (G : Good P w K mg base n S X W) (PG : Pg P w K mg base T Bs Es n) (hb : "dict" ∈ Bs) (hb2 : "zip" ∈ Bs) (hg : S.glb (Str.ofString "dict") = true) (hg2 : S.glb (Str.ofString "zip") = true) (hs1 : notStar e1 = true) (hs2 : notStar e2 = true) (h1 : PE X e1 (TD W K fr1 m1)) (h2 : PE X e2 (TD W K fr2 m2)) :
    PE X (.Call (.Name (Str.ofString "dict") p) [.Call (.Name (Str.ofString "zip") p2) [e1, e2] [] q] [] pos) (TD W K true fun σ h => (m1 σ h).bind fun x h1 => (m2 σ h1).bind fun y h2 => ofO ((val h2 x).bind fun x => (val h2 y).bind fun y => (b2D .dzip x y).map .d) h2) := by
  obtain ⟨g1, _, _⟩ := G.gl hg
  obtain ⟨g2, _, _⟩ := G.gl hg2
  refine PE.imp (pe_dzip G.calm g1 (G.free PG hb) g2 (G.free PG hb2) hs1 hs2 (unf h1) (unf h2)) fun σ H Q h => td2 h ?_
  intro ι H0 H hh v u x y O rv ru T F
  rw [map2] at F
  obtain ⟨d, e, k⟩ := nw_of O T F
  obtain ⟨a, b, ea, eb, ed⟩ := bind2 e
  exact ⟨ι, hh, a, b, d, O, val_ok O rv ea, val_ok O ru eb, ed, k⟩
end
end J
end JZip2

section JZip3
set_option Elab.async false
set_option linter.all false
set_option maxRecDepth 100000
set_option autoImplicit false
set_option maxHeartbeats 4000000
/-! J.Zip3: list(zip(s, t)) of two tuples. -/
namespace J
open PySem PySem.Spec PyProof.Rows L2
theorem zip_nolen : typeLookup (.type "zip") "__len__" = pure none := by rw [typeLookup_type, builtinLookup_eq_fast]; kernel_rfl
theorem zip_nohint : typeLookup (.type "zip") "__length_hint__" = pure none := by rw [typeLookup_type, builtinLookup_eq_fast]; kernel_rfl
/-- several new objects at once -/
theorem inv_lays {X : Cx} {pins : List (Addr × Obj)} {σ : L2.St} {H H' : Hp} {s : Shared} {g : Heap} {tk : Nat} (I : L2.Inv X pins σ H s) (up : ∀ b u, s.heap.get? b = some u → g.get? b = some u) (old : ∀ b, b < s.heap.objs.size → H' b = H b)
    (new : ∀ b o, s.heap.objs.size ≤ b → H' b = some o → ObjOk X.prog X.w H' g b o) : L2.Inv X pins σ H' { s with heap := g, toks := tk } := by
  have lt : ∀ {b u}, H b = some u → H' b = some u := fun {b u} e => by rw [old b (I.hok.lt e)]; exact e
  refine I.un ⟨fun b o e _ _ _ => up b o e, fun b o e _ _ _ => ⟨o.slots, up b o e⟩, fun b o e n _ => by rw [old b (Heap.lt_size e)]; exact n, fun b o e _ => ⟨o, up b o e⟩, fun b xs e => lt e, fun b o u e => lt e, fun b ps e => ⟨#[], by rw [lt e]; simp⟩⟩ ?_
  intro b o e
  by_cases hb : b < s.heap.objs.size
  · rw [old b hb] at e
    exact (I.hok b o e).stay (fun c u _ q => up c u q) (fun c q => lt q) fun c xs q => lt q
  · exact new b o (Nat.le_of_not_lt hb) e
section
variable {prog : Program} {w : World} {A : Around} {E : Value → Shared → Prop} {s : Shared} {z c d p q t u S : Addr} {xs ys : Array Value}
theorem zl_item {i : Nat} {Q : Option Value → Shared → Prop} (R : ZipApart z c d p q t u) (st : ZSt xs ys z c d p q t u S i s.heap) {x y : Value} (ex : xs[i]? = some x) (ey : ys[i]? = some y) (hS : S < s.heap.objs.size)
    (fin : ∀ g, IsPair g s.heap.objs.size x y → ZSt xs ys z c d p q t u S (i + 1) g → (∀ a o, a ∉ [z, d, p, q] → s.heap.get? a = some o → g.get? a = some o) → Q (some (.ref s.heap.objs.size)) { s with heap := g }) : wpAny (model prog w) A (pyNext (.ref z)) Q E s := by
  obtain ⟨ec, ep, eq, et, eu, ez⟩ := st
  have lt : ∀ {a o}, s.heap.get? a = some o → s.heap.objs.size ≠ a := fun e => Nat.ne_of_gt (Heap.lt_size e)
  have np : s.heap.objs.size ≠ p := let ⟨_, e, _⟩ := ep; lt e
  have nq : s.heap.objs.size ≠ q := let ⟨_, e, _⟩ := eq; lt e
  rcases ez with ⟨ez, a, b, ed⟩ | ⟨T, f, oT, ez, eT, n1, n2, n3, n4⟩
  · refine RZ.pyNext_zipT_item R ez ec ed ep eq et eu ex ey fun g k1 k2 k3 k4 k5 k6 up => ?_
    refine fin g k5 ⟨up _ _ R.TIz R.TITO R.TIi1 R.TIi2 ec, k3, k4, et.at fun o e => up _ o R.l1z R.l1TO R.l1i1 R.l1i2 e, eu.at fun o e => up _ o R.l2z R.l2TO R.l2i1 R.l2i2 e, .inr ⟨s.heap.objs.size, false, _, k1, k5, lt ez, np, nq, Nat.ne_of_gt hS⟩⟩ fun a o ha e => ?_
    exact up a o (fun k => ha (by simp [k])) (fun k => ha (by simp [k])) (fun k => ha (by simp [k])) (fun k => ha (by simp [k])) e
  · refine ztn_item R ez eT ec ep eq et eu ex ey fun g k1 k3 k4 k5 k6 up => ?_
    refine fin g k5 ⟨up _ _ R.TIz R.TIi1 R.TIi2 ec, k3, k4, et.at fun o e => up _ o R.l1z R.l1i1 R.l1i2 e, eu.at fun o e => up _ o R.l2z R.l2i1 R.l2i2 e, .inr ⟨T, true, oT, k1, up _ _ n1 n2 n3 eT, n1, n2, n3, n4⟩⟩ fun a o ha e => ?_
    exact up a o (fun k => ha (by simp [k])) (fun k => ha (by simp [k])) (fun k => ha (by simp [k])) e
/-- the tuples made so far -/
def Prs (xs ys : Array Value) (B S : Addr) (i : Nat) (Ts : List Addr) (g : Heap) : Prop := Ts.length = i ∧ Ts.Nodup ∧ ∀ (j : Nat) T, Ts[j]? = some T → B ≤ T ∧ T ≠ S ∧ ∃ x y, xs[j]? = some x ∧ ys[j]? = some y ∧ IsPair g T x y
abbrev LsO (Ts : List Addr) (k : Nat) : Obj := { cls := .type "list", dict := none, data := .seq (Ts.map Value.ref).toArray k, slots := #[] }
theorem zl_loop {R : Result → Shared → Prop} (hA : A.in1.handled = none) (P : ZipApart z c d p q t u) (B : Addr) (wB : ∀ a ∈ [z, d, p, q], a < B) (SB : S < B) (Sw : S ∉ [z, c, d, p, q, t, u]) (res : Value) (hn : min xs.size ys.size ≤ sizeLine) :
    ∀ (k i : Nat) (s : Shared) (Ts : List Addr) (cc : Nat), min xs.size ys.size - i = k → i ≤ min xs.size ys.size → B ≤ s.heap.objs.size → ZSt xs ys z c d p q t u S i s.heap → s.heap.get? S = some (LsO Ts cc) → Prs xs ys B S i Ts s.heap →
    (∀ g tk Ts' cc', g.get? S = some (LsO Ts' cc') → Prs xs ys B S (min xs.size ys.size) Ts' g → (∀ a o, a ∉ S :: [z, d, p, q] → s.heap.get? a = some o → g.get? a = some o) → R (.ok (.ret res)) { s with heap := g, toks := tk }) →
    codeAny (model prog w) A (.builtin "list.extend.loop" ⟨[.ref S, .ref z, res], []⟩) R s := by
  simp only [List.mem_cons, List.not_mem_nil, or_false, not_or] at Sw
  obtain ⟨Sz, Sc, Sd, Sp, Sq, St, Su⟩ := Sw
  have src := zsrc (prog := prog) (w := w) (D := S) hA P xs ys Sz Sc Sd Sp Sq St Su
  intro k
  induction k with
  | zero =>
    intro i s Ts cc hk hi hB st eS pr fin
    obtain rfl : i = min xs.size ys.size := by omega
    refine codeAny_builtin F.entry_extend_loop ?_
    rw [Around.under_plainId F.plain_extend_loop _]
    show wpAny _ A.in1 (pyNext (.ref z) >>= _) _ _ s
    refine wpAny_bind (src.done s _ _ st fun g tk up => ?_)
    have Sm : S ∉ [z, d, p, q] := by simp [Sz, Sd, Sp, Sq]
    refine wpAny_pure (fin g tk Ts cc (up _ _ Sm eS) ⟨pr.1, pr.2.1, fun j T e => ?_⟩ fun a o ha e => up a o (fun h => ha (List.mem_cons_of_mem _ h)) e)
    obtain ⟨h1, h2, x, y, h3, h4, h5⟩ := pr.2.2 j T e
    exact ⟨h1, h2, x, y, h3, h4, up _ _ (fun h => absurd (wB T h) (Nat.not_lt.mpr h1)) h5⟩
  | succ k ih =>
    intro i s Ts cc hk hi hB st eS pr fin
    have ix : i < xs.size := by omega
    have iy : i < ys.size := by omega
    refine codeAny_builtin F.entry_extend_loop ?_
    rw [Around.under_plainId F.plain_extend_loop _]
    show wpAny _ A.in1 (pyNext (.ref z) >>= _) _ _ s
    refine wpAny_bind (zl_item P st (Array.getElem?_eq_getElem ix) (Array.getElem?_eq_getElem iy) (Heap.lt_size eS) fun g eT st' up => ?_)
    have Sm : S ∉ [z, d, p, q] := by simp [Sz, Sd, Sp, Sq]
    have eS' := up _ _ Sm eS
    show wpAny _ A.in1 (updateSeq S (·.push (.ref s.heap.objs.size)) >>= _) _ _ _
    refine wpAny_bind ?_
    have sz : ((Ts.map Value.ref).toArray.push (Value.ref s.heap.objs.size)).size ≤ sizeLine + 1 := by
      rw [Array.size_push, List.size_toArray, List.length_map, pr.1]
      omega
    have TS : s.heap.objs.size ≠ S := Nat.ne_of_gt (Heap.lt_size eS)
    have oth : ∀ a o, a ≠ S → g.get? a = some o → (g.update S (Obj.mapSeq (·.push (Value.ref s.heap.objs.size)))).get? a = some o := fun a o ha e => (Heap.get?_update_other _ _ (Ne.symm ha)).trans e
    have gsz : s.heap.objs.size < g.objs.size := Heap.lt_size eT
    have eS2 : (g.update S (Obj.mapSeq (·.push (Value.ref s.heap.objs.size)))).get? S = some (LsO (Ts ++ [s.heap.objs.size]) (cc + 1)) := by
      rw [Heap.get?_update_self (Obj.mapSeq (·.push (Value.ref s.heap.objs.size))) eS' rfl]
      simp [Obj.mapSeq, LsO]
    have eT2 := oth _ _ TS eT
    have pr2 : Prs xs ys B S (i + 1) (Ts ++ [s.heap.objs.size]) (g.update S (Obj.mapSeq (·.push (Value.ref s.heap.objs.size)))) := by
      refine ⟨by simp [pr.1], ?_, fun j T e => ?_⟩
      · rw [List.nodup_append]
        refine ⟨pr.2.1, by simp, fun a ha b hb => ?_⟩
        simp only [List.mem_cons, List.not_mem_nil, or_false] at hb
        subst hb
        obtain ⟨j, hj⟩ := List.getElem?_of_mem ha
        obtain ⟨_, _, x, y, _, _, h5⟩ := pr.2.2 j a hj
        exact Nat.ne_of_lt (Heap.lt_size h5)
      · by_cases hj : j < Ts.length
        · rw [List.getElem?_append_left hj] at e
          obtain ⟨h1, h2, x, y, h3, h4, h5⟩ := pr.2.2 j T e
          exact ⟨h1, h2, x, y, h3, h4, oth _ _ h2 (up _ _ (fun h => absurd (wB T h) (Nat.not_lt.mpr h1)) h5)⟩
        · rw [List.getElem?_append_right (by omega)] at e
          have hj2 : j = i := by
            rcases Nat.eq_zero_or_pos (j - Ts.length) with z | z
            · have := pr.1; omega
            · rw [List.getElem?_eq_none (by simp; omega)] at e; cases e
          subst hj2
          rw [pr.1, Nat.sub_self] at e
          cases e
          exact ⟨hB, TS, _, _, Array.getElem?_eq_getElem ix, Array.getElem?_eq_getElem iy, eT2⟩
    refine wpAny_updateSeq (s := { s with heap := g }) eS' rfl (wpAny_pure ⟨plainId_quiet F.plain_extend_loop _, ih (i + 1) _ (Ts ++ [s.heap.objs.size]) (cc + 1) (by omega) (by omega) ?_ (src.frame (i + 1) g _ st' fun a o ha e => oth a o ha e) eS2 pr2 fun g2 tk Ts' cc' h1 h2 h3 => ?_⟩) ?_ ?_
    · exact Nat.le_trans hB (Nat.le_of_lt (Heap.lt_size eT2))
    · refine fin g2 tk Ts' cc' h1 h2 fun a o ha e => h3 a o ha (oth a o (fun h => ha (by rw [h]; exact List.mem_cons_self)) (up a o (fun h => ha (List.mem_cons_of_mem _ h)) e))
    · rw [List.size_toArray, List.length_map, pr.1]
      omega
    · exact sz
/-- list(z) -/
theorem zl_call {Q : Value → Shared → Prop} (hA : A.in1.in1.handled = none) (P : ZipApart z c d p q t u) (ok : ZOk xs ys z c d p q t u s.heap) (hn : min xs.size ys.size ≤ sizeLine)
    (fin : ∀ g tk Ts cc, g.get? s.heap.objs.size = some (LsO Ts cc) → Prs xs ys (s.heap.objs.size + 1) s.heap.objs.size (min xs.size ys.size) Ts g → (∀ a o, a ∉ [z, d, p, q] → s.heap.get? a = some o → g.get? a = some o) → Q (.ref s.heap.objs.size) { s with heap := g, toks := tk }) :
    wpAny (model prog w) A (call (.type "list") [.ref z]) Q E s := by
  have ar := zarg (prog := prog) (w := w) P xs ys
  have th := ar.there s.heap ok
  have ltz : ∀ b ∈ [z, c, d, p, q, t, u], b < s.heap.objs.size := fun b hb => let ⟨_, e⟩ := th b hb; Heap.lt_size e
  have Sw : s.heap.objs.size ∉ [z, c, d, p, q, t, u] := fun h => Nat.lt_irrefl _ (ltz _ h)
  refine callType_codes (Q₁ := fun obj s1 => obj = .ref s.heap.objs.size ∧ s1 = { s with heap := s.heap.push { cls := .type "list", data := .seq #[] } }) F.called_list (F.typeCall_list_1 _) F.entry_list_init (code_list_new _ ⟨rfl, rfl⟩) fun obj s1 h1 => ?_
  obtain ⟨rfl, rfl⟩ := h1
  have eS : (s.heap.push { cls := .type "list", data := .seq #[] }).get? s.heap.objs.size = some { cls := .type "list", data := .seq #[] } := Heap.get?_push_size _ rfl
  refine ⟨⟨_, eS, rfl⟩, F.args_list_init_2 _ _, ?_⟩
  have ok1 := ar.keep _ (s.heap.push { cls := .type "list", data := .seq #[] }) ok fun b o e => Heap.get?_push_of_some _ e
  generalize hs1 : ({ s with heap := s.heap.push { cls := .type "list", data := .seq #[] } } : Shared) = s1
  have eS1 : s1.heap.get? s.heap.objs.size = some { cls := .type "list", data := .seq #[] } := by rw [← hs1]; exact eS
  have okz : ZOk xs ys z c d p q t u s1.heap := by rw [← hs1]; exact ok1
  have sz1 : s1.heap.objs.size = s.heap.objs.size + 1 := by rw [← hs1]; exact Heap.size_push ..
  have up1 : ∀ a o, s.heap.get? a = some o → s1.heap.get? a = some o := fun a o e => by rw [← hs1]; exact Heap.get?_push_of_some _ e
  show wpAny _ _ (do let old ← Builtin.List.listItems (.ref s.heap.objs.size); Builtin.List.listUpdate (.ref s.heap.objs.size) (fun _ => #[]); letGo old.toList.reverse; Builtin.List.listExtendWith (.ref s.heap.objs.size) (.ref z) .none) _ _ s1
  refine wpAny_bind ?_
  unfold Builtin.List.listItems
  refine wpAny_bind (wpAny_seqItems eS1 rfl (wpAny_pure ?_))
  show wpAny _ _ (updateSeq s.heap.objs.size (fun _ => #[]) >>= fun _ => letGo (#[] : Array Value).toList.reverse >>= fun _ => Builtin.List.listExtendWith (.ref s.heap.objs.size) (.ref z) .none) _ _ s1
  refine wpAny_bind (wpAny_updateSeq eS1 rfl ?_)
  have eS2 := Heap.get?_update_self (Obj.mapSeq (fun _ => (#[] : Array Value))) eS1 rfl
  have o2 : ∀ b o, b ≠ s.heap.objs.size → s1.heap.get? b = some o → (s1.heap.update s.heap.objs.size (Obj.mapSeq (fun _ => (#[] : Array Value)))).get? b = some o := fun b o hb e => (Heap.get?_update_other _ _ (Ne.symm hb)).trans e
  refine wpAny_bind (wpAny_letGo ?_)
  have Sz : s.heap.objs.size ≠ z := fun e => Sw (by rw [e]; exact List.mem_cons_self)
  have st0 : ZSt xs ys z c d p q t u s.heap.objs.size 0 s1.heap := by
    obtain ⟨ez, ec, ⟨a, b, ed⟩, ep, eq, et, eu⟩ := okz
    exact ⟨ec, ep, eq, et, eu, .inl ⟨ez, a, b, ed⟩⟩
  simp only [List.mem_cons, List.not_mem_nil, or_false, not_or] at Sw
  obtain ⟨_, Sc, Sd, Sp, Sq, St, Su⟩ := Sw
  have src := zsrc (prog := prog) (w := w) (D := s.heap.objs.size) hA P xs ys Sz Sc Sd Sp Sq St Su
  have st2 := src.frame 0 _ _ st0 o2
  generalize hg2 : s1.heap.update s.heap.objs.size (Obj.mapSeq (fun _ => (#[] : Array Value))) = g2 at eS2 o2 st2
  have ez2 : ∃ fs, g2.get? z = some { cls := .type "zip", dict := none, data := .fields fs, slots := #[] } := by
    obtain ⟨ez, _⟩ := okz
    exact ⟨_, o2 _ _ (Ne.symm Sz) ez⟩
  obtain ⟨fs, ez2⟩ := ez2
  have ty : ∀ tk, (⟨g2, s1.gens, s1.drawn, tk, s1.os⟩ : Shared).TypeIs (.ref z) "zip" := fun tk => ⟨_, ez2, rfl⟩
  unfold Builtin.List.listExtendWith
  refine wpAny_bind (wpAny_typeOf (ty _) ?_)
  have c1 : Builtin.List.listSameRef (.ref s.heap.objs.size) (.ref z) = false := by simp [Builtin.List.listSameRef, Sz]
  have c2 : (Value.type "zip" == Value.type "list") = false := by decide
  have c3 : (Value.type "zip" == Value.type "tuple") = false := by decide
  simp only [c1, c2, c3, Bool.or_false, Bool.false_eq_true, if_false]
  have ezip : IsZip g2 z c d .none := o2 _ _ (Ne.symm Sz) okz.1
  refine wpAny_bind (wpAny_pyIter_zip ezip ?_)
  refine wpAny_bind (wpAny_holding ?_)
  unfold Builtin.List.listLengthHint
  refine wpAny_bind (wpAny_specialOf (ty _) zip_nolen ?_)
  show wpAny _ _ (specialOf (Value.ref z) (Str.ofString "__length_hint__") >>= _) _ _ _
  refine wpAny_bind (wpAny_specialOf (ty _) zip_nohint ?_)
  refine wpAny_pure ?_
  show wpAny _ _ (rule "list.extend.makes-room" >>= fun _ => Builtin.List.listTouch (.ref s.heap.objs.size) >>= fun _ => again (.builtin "list.extend.loop" ⟨[.ref s.heap.objs.size, .ref z, .none], []⟩)) _ _ _
  refine wpAny_bind (wpAny_rule (wpAny_bind ?_))
  show wpAny _ _ (updateSeq s.heap.objs.size (·.push .none) >>= fun _ => updateSeq s.heap.objs.size (·.pop)) _ _ _
  refine wpAny_bind (wpAny_updateSeq eS2 rfl ?_)
  have eS3 := Heap.get?_update_self (Obj.mapSeq (·.push Value.none)) eS2 rfl
  refine wpAny_updateSeq (hz := by seq_fits) eS3 rfl ?_
  have eS4 := Heap.get?_update_self (Obj.mapSeq (·.pop)) eS3 rfl
  have o4 : ∀ b o, b ≠ s.heap.objs.size → g2.get? b = some o → ((g2.update s.heap.objs.size (Obj.mapSeq (·.push Value.none))).update s.heap.objs.size (Obj.mapSeq (·.pop))).get? b = some o := fun b o hb e => (Heap.get?_update_other _ _ (Ne.symm hb)).trans ((Heap.get?_update_other _ _ (Ne.symm hb)).trans e)
  have sg : ∀ b o, b ≠ s.heap.objs.size → s1.heap.get? b = some o → ((g2.update s.heap.objs.size (Obj.mapSeq (·.push Value.none))).update s.heap.objs.size (Obj.mapSeq (·.pop))).get? b = some o := fun b o hb e => o4 b o hb (o2 b o hb e)
  have st4 := src.frame 0 _ _ st2 o4
  obtain ⟨cc, eS5⟩ : ∃ cc, ((g2.update s.heap.objs.size (Obj.mapSeq (·.push Value.none))).update s.heap.objs.size (Obj.mapSeq (·.pop))).get? s.heap.objs.size = some (LsO [] cc) := by
    rw [eS4]
    exact ⟨_, rfl⟩
  generalize hg4 : (g2.update s.heap.objs.size (Obj.mapSeq (·.push Value.none))).update s.heap.objs.size (Obj.mapSeq (·.pop)) = g4 at eS5 o4 sg st4
  have szg : s.heap.objs.size + 1 ≤ g4.objs.size := Heap.lt_size eS5
  have wr4 : ∀ a ∈ [z, d, p, q], a < s.heap.objs.size + 1 := fun a ha => by
    have : a ∈ [z, c, d, p, q, t, u] := by
      have ha : a = z ∨ a = d ∨ a = p ∨ a = q := by simpa using ha
      rcases ha with k | k | k | k <;> simp [k]
    exact Nat.lt_succ_of_lt (ltz a this)
  refine wpAny_pure ⟨plainId_quiet F.plain_extend_loop _, ?_⟩
  refine zl_loop hA P (s.heap.objs.size + 1) wr4 (Nat.lt_succ_self _) (by simp [Sz, Sc, Sd, Sp, Sq, St, Su]) .none hn _ 0 _ [] cc rfl (Nat.zero_le _) szg st4 eS5 ⟨rfl, by simp, fun j T e => by simp at e⟩ fun g tk Ts cc' h1 h2 h3 => ⟨rfl, ?_⟩
  have := fin g tk Ts cc' h1 h2 fun a o ha e => h3 a o (by
    intro h
    rcases List.mem_cons.mp h with h | h
    · exact absurd (Heap.lt_size e) (by rw [h]; exact Nat.lt_irrefl _)
    · exact ha h) (sg a o (Nat.ne_of_lt (Heap.lt_size e)) (up1 a o e))
  rw [← hs1]
  exact this
end
theorem rpAll_of {ι : Io} {H : Hp} : ∀ {vs : List V} {ds : List D}, vs.length = ds.length → (∀ (j : Nat) v d, vs[j]? = some v → ds[j]? = some d → Rp ι H v d) → RpAll ι H vs ds
  | [], [], _, _ => .nil
  | [], _ :: _, h, _ => by simp at h
  | _ :: _, [], h, _ => by simp at h
  | v :: vs, d :: ds, h, f => .cons (f 0 v d rfl rfl) (rpAll_of (by simpa using h) fun j a b h1 h2 => f (j + 1) a b (by simpa using h1) (by simpa using h2))
theorem zipD_at : ∀ (xs ys : List D) (j : Nat) (d : D), (zipD xs ys)[j]? = some d → ∃ x y, xs[j]? = some x ∧ ys[j]? = some y ∧ d = .tuple [x, y]
  | [], _, j, d, h => by simp [zipD] at h
  | _ :: _, [], j, d, h => by simp [zipD] at h
  | x :: xs, y :: ys, 0, d, h => by simp [zipD] at h; exact ⟨x, y, rfl, rfl, h.symm⟩
  | x :: xs, y :: ys, j + 1, d, h => by
    simp only [zipD, List.getElem?_cons_succ] at h ⊢
    exact zipD_at xs ys j d h
theorem zipD_length : ∀ (xs ys : List D), (zipD xs ys).length = min xs.length ys.length
  | [], _ => by simp [zipD]
  | _ :: _, [] => by simp [zipD]
  | x :: xs, y :: ys => by simp only [zipD, List.length_cons, zipD_length xs ys]; omega
def zipH (H : Hp) (S : Addr) (Ts : List Addr) (vs us : List V) : Hp := fun b => if b = S then some (.lst (Ts.map V.ref)) else match (Ts.zip (vs.zip us)).find? (fun e => decide (e.1 = b)) with
  | some e => some (.tup [e.2.1, e.2.2])
  | none => H b
theorem refs_vals : ∀ Ts : List Addr, L2.Vals (Ts.map V.ref) (Ts.map Value.ref)
  | [] => .nil
  | T :: Ts => .cons rfl (refs_vals Ts)
def rLz : R2 := fun v u H Q => ∃ ι h xs ys, HpOk ι H h ∧ Rr ι H v (.tuple xs) ∧ Rr ι H u (.tuple ys) ∧ ∀ w H', Gr H H' → Rp ι H' w (.list (zipD xs ys)) → Q w H'
section
variable {P : Program} {w : World} {K : PySem.W.Frag} {mg : Str → Option Value} {base : Heap} {n : Nat} {S : SC} {X : Cx} {W : WX} {e1 e2 : Expr} {fr1 fr2 : Bool} {m1 m2 : PEnv → PH → Rs PV} {pos p p2 q : Pos} {T : String → Option CDef} {Bs Es : List String}
theorem lz_call {pins : List (Addr × Obj)} {σ : L2.St} {H : Hp} {s : Shared} {v u : V} {x y : Value} {Q : VK} (hc : X.calm = true) (I : L2.Inv X pins σ H s) (rx : L2.RelV v x) (ry : L2.RelV u y) (h : rLz v u H Q) :
    wpAny (model X.prog X.w) X.A (call (.type "zip") [x, y]) (fun z s1 => wpAny (model X.prog X.w) X.A (call (.type "list") [z]) (EP X pins σ Q) X.xe s1) X.xe s := by
  obtain ⟨ι, hh, xs, ys, O, ra, rb, k⟩ := h
  obtain ⟨l, vs, e1, hl, r1, _⟩ := ra.tuple
  obtain ⟨m, us, e2, hm, r2, _⟩ := rb.tuple
  subst e1 e2
  obtain rfl : x = Value.ref l := rx
  obtain rfl : y = Value.ref m := ry
  obtain ⟨its, rv, pl, hz⟩ := I.tuple (.inl hl)
  obtain ⟨jts, ru, pm, hz2⟩ := I.tuple (.inl hm)
  obtain ⟨o1, ho1, _⟩ := id pl
  obtain ⟨o2, ho2, _⟩ := id pm
  refine RZ.call_zipT (show s.heap.IsTuple l its.toArray from pl) (show s.heap.IsTuple m jts.toArray from pm) fun g a1 a2 a3 a4 a5 a6 up => ?_
  have lv : vs.length = its.length := rv.length
  have lu : us.length = jts.length := ru.length
  have hs5 : g.objs.size = s.heap.objs.size + 5 := a6
  have hnn : min its.toArray.size jts.toArray.size ≤ sizeLine := by
    simp only [List.size_toArray]
    exact Nat.le_trans (Nat.min_le_left _ _) (by rw [← lv]; exact hz)
  refine zl_call (I.ok.hd hc) (PySem.W.ktu_apart s.heap.objs.size l m (Heap.lt_size ho1) (Heap.lt_size ho2)) (xs := its.toArray) (ys := jts.toArray) ⟨a1, a2, ⟨_, _, a3⟩, a4, a5, (show s.heap.IsTuple l its.toArray from pl).at fun o e => up _ o e, (show s.heap.IsTuple m jts.toArray from pm).at fun o e => up _ o e⟩ hnn fun g2 tk Ts cc eS pr up2 => ?_
  have up3 : ∀ b o, s.heap.get? b = some o → g2.get? b = some o := fun b o e => up2 b o (fun hb => by
    have lt := Heap.lt_size e
    have hb : b = s.heap.objs.size + 4 ∨ b = s.heap.objs.size + 3 ∨ b = s.heap.objs.size ∨ b = s.heap.objs.size + 1 := by simpa using hb
    have z : ∀ j, b = s.heap.objs.size + j → False := fun j q => absurd (show s.heap.objs.size + j < s.heap.objs.size from q ▸ lt) (by omega)
    rcases hb with q | q | q | q
    · exact z 4 q
    · exact z 3 q
    · exact z 0 q
    · exact z 1 q) (up b o e)
  obtain ⟨tl, tn, tp⟩ := pr
  simp only [List.size_toArray] at tl
  have tge : ∀ T ∈ Ts, s.heap.objs.size ≤ T := fun T hT => by
    obtain ⟨j, hj⟩ := List.getElem?_of_mem hT
    have := (tp j T hj).1
    rw [hs5] at this
    exact Nat.le_trans (Nat.le_add_right _ _) (Nat.le_of_succ_le this)
  have fnd : ∀ b e, (Ts.zip (vs.zip us)).find? (fun e => decide (e.1 = b)) = some e → ∃ j : Nat, Ts[j]? = some b ∧ vs[j]? = some e.2.1 ∧ us[j]? = some e.2.2 := fun b e q => by
    have h1 : e.1 = b := by simpa using List.find?_some q
    obtain ⟨j, hj⟩ := List.getElem?_of_mem (List.mem_of_find?_eq_some q)
    rw [List.getElem?_zip_eq_some] at hj
    obtain ⟨h2, h3⟩ := hj
    rw [List.getElem?_zip_eq_some] at h3
    exact ⟨j, by rw [← h1]; exact h2, h3.1, h3.2⟩
  have old : ∀ b, b < s.heap.objs.size → zipH H g.objs.size Ts vs us b = H b := fun b hb => by
    unfold zipH
    rw [if_neg (Nat.ne_of_lt (by rw [hs5]; exact Nat.lt_of_lt_of_le hb (Nat.le_add_right _ _)))]
    cases q : (Ts.zip (vs.zip us)).find? (fun e => decide (e.1 = b)) with
    | none => rfl
    | some e =>
      obtain ⟨j, hj, _⟩ := fnd b e q
      exact absurd hb (Nat.not_lt.mpr (tge b (List.mem_of_getElem? hj)))
  have atS : zipH H g.objs.size Ts vs us g.objs.size = some (.lst (Ts.map V.ref)) := if_pos rfl
  have atT : ∀ (j : Nat) T v u, Ts[j]? = some T → vs[j]? = some v → us[j]? = some u → zipH H g.objs.size Ts vs us T = some (.tup [v, u]) := fun j T v u h1 h2 h3 => by
    unfold zipH
    rw [if_neg (tp j T h1).2.1]
    have hm : (T, (v, u)) ∈ Ts.zip (vs.zip us) := by
      refine List.mem_of_getElem? (i := j) ?_
      rw [List.getElem?_zip_eq_some]
      refine ⟨h1, ?_⟩
      rw [List.getElem?_zip_eq_some]
      exact ⟨h2, h3⟩
    cases q : (Ts.zip (vs.zip us)).find? (fun e => decide (e.1 = T)) with
    | none =>
      have := List.find?_eq_none.mp q _ hm
      simp at this
    | some e =>
      obtain ⟨j', h1', h2', h3'⟩ := fnd T e q
      obtain ⟨i1, g1⟩ := List.getElem?_eq_some_iff.mp h1
      obtain ⟨i2, g2⟩ := List.getElem?_eq_some_iff.mp h1'
      have : j = j' := (List.getElem_inj tn).mp (g1.trans g2.symm)
      subst this
      rw [h2] at h2'
      rw [h3] at h3'
      cases h2'
      cases h3'
      rfl
  have I2 : L2.Inv X pins σ (zipH H g.objs.size Ts vs us) { s with heap := g2, toks := tk } := by
    refine inv_lays I up3 old fun b o hb e => ?_
    by_cases hS : b = g.objs.size
    · subst hS
      rw [atS] at e
      cases e
      refine ⟨by rw [List.length_map, tl]; simpa using hnn, Ts.map Value.ref, cc, refs_vals Ts, eS⟩
    · have e' := e
      unfold zipH at e'
      rw [if_neg hS] at e'
      cases q : (Ts.zip (vs.zip us)).find? (fun e => decide (e.1 = b)) with
      | none =>
        rw [q] at e'
        have e' : H b = some o := e'
        exact absurd (I.hok.lt e') (Nat.not_lt.mpr hb)
      | some f =>
        rw [q] at e'
        cases e'
        obtain ⟨j, h1, h2, h3⟩ := fnd b f q
        obtain ⟨_, _, x, y, hx, hy, hp⟩ := tp j b h1
        obtain ⟨x', hx', rx'⟩ := rv.get h2
        obtain ⟨y', hy', ry'⟩ := ru.get h3
        have hx : its[j]? = some x := by simpa using hx
        have hy : jts[j]? = some y := by simpa using hy
        rw [hx'] at hx
        rw [hy'] at hy
        cases hx
        cases hy
        exact ⟨by show 2 ≤ sizeLine; decide, [x, y], .cons rx' (.cons ry' .nil), ⟨_, hp, rfl, _, rfl⟩⟩
  have gr : Gr H (zipH H g.objs.size Ts vs us) := fun a o e => by rw [old a (I.hok.lt e)]; exact e
  refine ⟨.ref g.objs.size, _, I2, rfl, k _ _ gr (.lst (.inl atS) (O.fresh (I.hok.fresh (by rw [hs5]; exact Nat.le_add_right _ _))) (rpAll_of ?_ fun j a b h1 h2 => ?_))⟩
  · rw [List.length_map, tl, zipD_length, ← lv, ← lu, r1.length, r2.length]
  · obtain ⟨x, y, hx, hy, rfl⟩ := zipD_at xs ys j b h2
    rw [List.getElem?_map] at h1
    obtain ⟨T, hT, rfl⟩ := Option.map_eq_some_iff.mp h1
    obtain ⟨v', hv, rv'⟩ := r1.get hx
    obtain ⟨u', hu, ru'⟩ := r2.get hy
    exact .tup (.inl (atT j T v' u' hT hv hu)) (O.fresh (I.hok.fresh (tge T (List.mem_of_getElem? hT)))) (.cons (Rp.mono (Mn.grow gr) _ _ rv') (.cons (Rp.mono (Mn.grow gr) _ _ ru') .nil))
theorem pe_lzip {t1 t2 : TE} (hc : X.calm = true) (hg : Gl X "list") (hm : X.mg "list" = none) (hg2 : Gl X "zip") (hm2 : X.mg "zip" = none) (hs1 : notStar e1 = true) (hs2 : notStar e2 = true) (h1 : PE X e1 t1) (h2 : PE X e2 t2) :
    PE X (.Call (.Name "list" p) [.Call (.Name "zip" p2) [e1, e2] [] q] [] pos) (tOp rLz t1 t2) := by
  refine ⟨fun pins s σ H Q I h => Call_ (ld_blt I hg hm (show bootBuiltins "list" = some (.type "list") by decide +kernel) ?_)⟩
  refine PyProof.Rows.callWith_type1 (PyProof.Rows.args_cons ?_ rfl) rfl rfl
  refine Call_ (ld_blt I hg2 hm2 boot_zip (PyProof.Rows.callWith_type1 (PyProof.Rows.args_cons (thn (h1.run pins s σ H _ I h) fun x s1 ⟨v, H1, I1, r1, q1⟩ => ?_) (star_of hs1)) (star_of hs1) (by rw [star_of hs2]; rfl)))
  refine PyProof.Rows.args_cons (thn (h2.run pins s1 σ H1 _ I1 q1) fun y s2 ⟨u, H2, I2, r2, q2⟩ => PyProof.Rows.args_nil ?_) (star_of hs2)
  exact thn (lz_call hc I2 r1 r2 q2) fun z s3 hz => PyProof.Rows.args_nil hz
theorem s_lzip (G : Good P w K mg base n S X W) (PG : Pg P w K mg base T Bs Es n) (hb : "list" ∈ Bs) (hb2 : "zip" ∈ Bs) (hg : S.glb (Str.ofString "list") = true) (hg2 : S.glb (Str.ofString "zip") = true) (hs1 : notStar e1 = true) (hs2 : notStar e2 = true) (h1 : PE X e1 (TD W K fr1 m1)) (h2 : PE X e2 (TD W K fr2 m2)) :
    PE X (.Call (.Name (Str.ofString "list") p) [.Call (.Name (Str.ofString "zip") p2) [e1, e2] [] q] [] pos) (TD W K false fun σ h => (m1 σ h).bind fun x h1 => (m2 σ h1).bind fun y h2 => ofO ((val h2 x).bind fun x => (val h2 y).bind fun y => (b2D .lzip x y).map .d) h2) := by
  obtain ⟨g1, _, _⟩ := G.gl hg
  obtain ⟨g2, _, _⟩ := G.gl hg2
  refine PE.imp (pe_lzip G.calm g1 (G.free PG hb) g2 (G.free PG hb2) hs1 hs2 (unf h1) (unf h2)) fun σ H Q h => td2 h ?_
  intro ι H0 H hh v u x y O rv ru T F
  rw [map2] at F
  cases q : (val hh x).bind fun x => (val hh y).bind fun y => b2D .lzip x y with
  | none => rw [q] at F; exact F.elim
  | some d =>
    rw [q] at F
    obtain ⟨a, b, ea, eb, ed⟩ := bind2 q
    cases a with
    | tuple xs =>
      cases b with
      | tuple ys =>
        cases ed
        exact ⟨ι, hh, xs, ys, O, val_ok O rv ea, val_ok O ru eb, fun w' H' g r => F ι H' (Ext.grow O g) (O.grow g) w' r fun z => nomatch z⟩
      | _ => cases ed
    | _ => cases ed
end
end J
end JZip3

section JWalk
set_option Elab.async false
set_option linter.all false
set_option maxRecDepth 100000
set_option autoImplicit false
set_option maxHeartbeats 4000000
/-! J.Walk: what loops and comprehensions go over; targets; comprehensions. -/
namespace J
open PySem PySem.Spec PyProof.Rows L2
/-- J goes over the data xs, whatever is done meanwhile -/
structure Wk (J : It) (ι : Io) (H : Hp) (xs : List D) : Prop where
  go : ∀ (i : Nat) ι' H' h', i < xs.length → Mn ι H ι' H' → HpOk ι' H' h' → J.go i H'
  yld : ∀ (i : Nat) ι' H' h' v H2, i < xs.length → Mn ι H ι' H' → HpOk ι' H' h' → J.yld i H' v H2 → (∀ a u, H' a = some u → H2 a = some u) ∧ ∃ d, xs[i]? = some d ∧ Rp ι' H2 v d
  stop : ∀ ι' H' h', Mn ι H ι' H' → HpOk ι' H' h' → J.stop xs.length H'
def TIt (W : WX) (K : PySem.W.Frag) (m : PEnv → PH → Rs (List D)) : TI := fun σ H R => ∃ ι σp h, SOk ι H σp σ ∧ HpOk ι H h ∧ Fin W K ι H σ (m σp h) fun xs _ ι' H' => ∀ J, Wk J ι' H' xs → R J H'
section
variable {ι : Io} {H : Hp} {h : PH} {K : PySem.W.Frag}
theorem wk_list {a : Addr} {vs : List V} {ds : List D} (e : Rd H a (.lst vs)) (nl : ¬ Live ι a) (r : RpAll ι H vs ds) : Wk (Itl K a) ι H ds where
  go := fun i ι' H' h' hi E O => by
    obtain ⟨e', _⟩ := E.rd e nl
    obtain ⟨v, ev, _⟩ := r.get (List.getElem?_eq_getElem hi)
    exact ⟨vs, v, .inl e', ev⟩
  yld := fun i ι' H' h' v H2 hi E O y => by
    obtain ⟨rfl, y⟩ := y
    obtain ⟨e', _⟩ := E.rd e nl
    have ev := y vs (.inl e')
    obtain ⟨d, ed, rd⟩ := r.getV ev
    exact ⟨fun _ _ z => z, d, ed, Rp.mono E _ _ rd⟩
  stop := fun ι' H' h' E O => ⟨vs, .inl (E.rd e nl).1, by rw [r.length]; exact Nat.le_refl _⟩
theorem wk_tup {a : Addr} {vs : List V} {ds : List D} (e : Rd H a (.tup vs)) (nl : ¬ Live ι a) (r : RpAll ι H vs ds) : Wk (Itt K a) ι H ds where
  go := fun i ι' H' h' hi E O => by
    obtain ⟨v, ev, _⟩ := r.get (List.getElem?_eq_getElem hi)
    exact ⟨vs, v, .inl (E.rd e nl).1, ev⟩
  yld := fun i ι' H' h' v H2 hi E O y => by
    obtain ⟨rfl, y⟩ := y
    have ev := y vs (.inl (E.rd e nl).1)
    obtain ⟨d, ed, rd⟩ := r.getV ev
    exact ⟨fun _ _ z => z, d, ed, Rp.mono E _ _ rd⟩
  stop := fun ι' H' h' E O => ⟨vs, .inl (E.rd e nl).1, by rw [r.length]; exact Nat.le_refl _⟩
theorem wk_str (z : Str) : Wk (Its z) ι H (z.cps.toList.map fun c => PyData.str ⟨#[c]⟩) where
  go := fun i ι' H' h' hi E O => by
    show i < z.cps.size
    simpa using hi
  yld := fun i ι' H' h' v H2 hi E O y => by
    obtain ⟨rfl, c, ec, ev⟩ := y
    subst ev
    refine ⟨fun _ _ z => z, _, ?_, .str _⟩
    rw [List.getElem?_map, Array.getElem?_toList, ec]
    rfl
  stop := fun ι' H' h' E O => by
    show z.cps.size ≤ _
    simp
theorem rangeD_len : ∀ (n : Nat) (lo : Int), (rangeD lo n).length = n
  | 0, _ => rfl
  | n + 1, lo => by simp only [rangeD, List.length_cons, rangeD_len n]
theorem rangeD_get : ∀ (n : Nat) (lo : Int) (i : Nat), i < n → (rangeD lo n)[i]? = some (.int (lo + i))
  | 0, _, _, h => absurd h (Nat.not_lt_zero _)
  | n + 1, lo, 0, _ => by simp [rangeD]
  | n + 1, lo, i + 1, h => by
    simp only [rangeD, List.getElem?_cons_succ]
    rw [rangeD_get n (lo + 1) i (by omega)]
    have : lo + 1 + (i : Int) = lo + ((i + 1 : Nat) : Int) := by omega
    rw [this]
theorem wk_rng (lo : Int) (n : Nat) : Wk (Itr lo n) ι H (rangeD lo n) where
  go := fun i ι' H' h' hi E O => by rw [rangeD_len] at hi; exact hi
  yld := fun i ι' H' h' v H2 hi E O y => by
    obtain ⟨rfl, rfl⟩ := y
    rw [rangeD_len] at hi
    exact ⟨fun _ _ z => z, _, rangeD_get n lo i hi, .int _⟩
  stop := fun ι' H' h' E O => by show n ≤ _; rw [rangeD_len]; exact Nat.le_refl _
theorem zipD_len : ∀ (xs ys : List D), (zipD xs ys).length = min xs.length ys.length
  | [], _ => by simp [zipD]
  | _ :: _, [] => by simp [zipD]
  | x :: xs, y :: ys => by simp only [zipD, List.length_cons, zipD_len xs ys]; omega
theorem zipD_get : ∀ (xs ys : List D) (i : Nat) (x y : D), xs[i]? = some x → ys[i]? = some y → (zipD xs ys)[i]? = some (.tuple [x, y])
  | [], _, _, _, _, h, _ => by simp at h
  | _ :: _, [], _, _, _, _, h => by simp at h
  | x :: xs, y :: ys, 0, _, _, h, h' => by simp at h h'; subst h h'; rfl
  | x :: xs, y :: ys, i + 1, _, _, h, h' => by simp only [zipD, List.getElem?_cons_succ] at *; exact zipD_get xs ys i _ _ h h'
theorem wk_zipT {a b : Addr} {vs us : List V} {ds es : List D} (e : Rd H a (.tup vs)) (nl : ¬ Live ι a) (r : RpAll ι H vs ds) (e2 : Rd H b (.tup us)) (nl2 : ¬ Live ι b) (r2 : RpAll ι H us es) : Wk (RZ.ItzT K a b) ι H (zipD ds es) where
  go := fun i ι' H' h' hi E O => by
    rw [zipD_len] at hi
    obtain ⟨v, ev, _⟩ := r.get (List.getElem?_eq_getElem (show i < ds.length by omega))
    obtain ⟨u, eu, _⟩ := r2.get (List.getElem?_eq_getElem (show i < es.length by omega))
    exact ⟨vs, us, v, u, .inl (E.rd e nl).1, .inl (E.rd e2 nl2).1, ev, eu⟩
  yld := fun i ι' H' h' v H2 hi E O y => by
    obtain ⟨T, x, y, rfl, nT, rfl, y1, y2⟩ := y
    obtain ⟨d1, ed1, rd1⟩ := r.getV (y1 vs (.inl (E.rd e nl).1))
    obtain ⟨d2, ed2, rd2⟩ := r2.getV (y2 us (.inl (E.rd e2 nl2).1))
    exact ⟨grow_upd nT, _, zipD_get _ _ _ _ _ ed1 ed2, rp_newT O nT (.cons (Rp.mono E _ _ rd1) (.cons (Rp.mono E _ _ rd2) .nil))⟩
  stop := fun ι' H' h' E O => ⟨vs, us, .inl (E.rd e nl).1, .inl (E.rd e2 nl2).1, by rw [zipD_len, r.length, r2.length]; omega⟩
theorem wk_zipL {a b : Addr} {vs us : List V} {ds es : List D} (e : Rd H a (.lst vs)) (nl : ¬ Live ι a) (r : RpAll ι H vs ds) (e2 : Rd H b (.lst us)) (nl2 : ¬ Live ι b) (r2 : RpAll ι H us es) : Wk (Itz K a b) ι H (zipD ds es) where
  go := fun i ι' H' h' hi E O => by
    rw [zipD_len] at hi
    obtain ⟨v, ev, _⟩ := r.get (List.getElem?_eq_getElem (show i < ds.length by omega))
    obtain ⟨u, eu, _⟩ := r2.get (List.getElem?_eq_getElem (show i < es.length by omega))
    exact ⟨vs, us, v, u, .inl (E.rd e nl).1, .inl (E.rd e2 nl2).1, ev, eu⟩
  yld := fun i ι' H' h' v H2 hi E O y => by
    obtain ⟨T, x, y, rfl, nT, rfl, y1, y2⟩ := y
    obtain ⟨d1, ed1, rd1⟩ := r.getV (y1 vs (.inl (E.rd e nl).1))
    obtain ⟨d2, ed2, rd2⟩ := r2.getV (y2 us (.inl (E.rd e2 nl2).1))
    exact ⟨grow_upd nT, _, zipD_get _ _ _ _ _ ed1 ed2, rp_newT O nT (.cons (Rp.mono E _ _ rd1) (.cons (Rp.mono E _ _ rd2) .nil))⟩
  stop := fun ι' H' h' E O => ⟨vs, us, .inl (E.rd e nl).1, .inl (E.rd e2 nl2).1, by rw [zipD_len, r.length, r2.length]; omega⟩
theorem enumD_len : ∀ (xs : List D) (i : Int), (enumD i xs).length = xs.length
  | [], _ => rfl
  | _ :: xs, i => by simp only [enumD, List.length_cons, enumD_len xs]
theorem enumD_get : ∀ (xs : List D) (k : Int) (i : Nat) (x : D), xs[i]? = some x → (enumD k xs)[i]? = some (.tuple [.int (k + i), x])
  | [], _, _, _, h => by simp at h
  | x :: xs, k, 0, _, h => by simp at h; subst h; simp [enumD]
  | x :: xs, k, i + 1, _, h => by
    simp only [enumD, List.getElem?_cons_succ] at *
    rw [enumD_get xs (k + 1) i _ h]
    have : k + 1 + (i : Int) = k + ((i + 1 : Nat) : Int) := by omega
    rw [this]
theorem wk_enum {a : Addr} {vs : List V} {ds : List D} (e : Rd H a (.lst vs)) (nl : ¬ Live ι a) (r : RpAll ι H vs ds) : Wk (Ite K a) ι H (enumD 0 ds) where
  go := fun i ι' H' h' hi E O => by
    rw [enumD_len] at hi
    obtain ⟨v, ev, _⟩ := r.get (List.getElem?_eq_getElem hi)
    exact ⟨vs, v, .inl (E.rd e nl).1, ev⟩
  yld := fun i ι' H' h' v H2 hi E O y => by
    obtain ⟨T, x, rfl, nT, rfl, y1⟩ := y
    obtain ⟨d1, ed1, rd1⟩ := r.getV (y1 vs (.inl (E.rd e nl).1))
    refine ⟨grow_upd nT, _, enumD_get _ _ _ _ ed1, rp_newT O nT (.cons ?_ (.cons (Rp.mono E _ _ rd1) .nil))⟩
    have : (0 : Int) + (i : Int) = i := by omega
    rw [this]
    exact .int _
  stop := fun ι' H' h' E O => ⟨vs, .inl (E.rd e nl).1, by rw [enumD_len, r.length]; exact Nat.le_refl _⟩
end
section
variable {P : Program} {w : World} {K : PySem.W.Frag} {mg : Str → Option Value} {base : Heap} {n : Nat} {S : SC} {X : Cx} {W : WX} {e e1 e2 e3 tg : Expr} {fr fr1 fr2 fr3 : Bool} {m m1 m2 m3 : PEnv → PH → Rs PV} {pos p p2 : Pos} {T : String → Option CDef} {Bs Es : List String}
/-- a list, a tuple or a text, as it comes -/
def iSeq (K : PySem.W.Frag) (te : TE) : TI := fun σ H R => te σ H fun x H1 => (∃ a xs, x = .ref a ∧ SqL K H1 a xs ∧ R (Itl K a) H1) ∨ (∃ a xs, x = .ref a ∧ SqT K H1 a xs ∧ R (Itt K a) H1) ∨ ∃ z, x = .str z ∧ R (Its z) H1
theorem pi_seq {te : TE} (he : PE X e te) : PI X tg e (iSeq X.K te) := by
  refine ⟨fun pins s σ H R I h => ?_⟩
  refine thn (he.run pins s σ H _ I h) fun v s1 ⟨x, H1, I1, r1, q1⟩ => ?_
  rcases q1 with ⟨a, xs, ex, hx, q⟩ | ⟨a, xs, ex, hx, q⟩ | ⟨z, ex, q⟩
  · subst ex
    cases r1
    obtain ⟨its, rv, pl, hz⟩ := I1.list hx
    exact wpAny_pyIter_list pl.isList (pi_one (tk := s1.toks) I1 _ (turn_list a _) ⟨_, Heap.get?_push_size _ rfl, rfl, rfl⟩ q)
  · subst ex
    cases r1
    obtain ⟨its, rv, pl, hz⟩ := I1.tuple hx
    exact wpAny_pyIter_tuple (show s1.heap.IsTuple a its.toArray from pl) (pi_one (tk := s1.toks) I1 _ (turn_tuple a _) ⟨_, Heap.get?_push_size _ rfl, rfl, rfl⟩ q)
  · subst ex
    obtain ⟨t, rfl⟩ := r1
    cases ha : z.cps.all (· < 128)
    · exact wpAny_pyIter_wide ha (pi_one (tk := s1.toks) I1 _ (turn_str _ z t "str_iterator" (.inr rfl)) ⟨_, Heap.get?_push_size _ rfl, rfl, rfl⟩ q)
    · exact wpAny_pyIter_ascii ha (pi_one (tk := s1.toks) I1 _ (turn_str _ z t "str_ascii_iterator" (.inl rfl)) ⟨_, Heap.get?_push_size _ rfl, rfl, rfl⟩ q)
theorem i_seq (h1 : PE X e1 (TD W K fr1 m1)) : PI X tg e1 (TIt W K fun σ h => (m1 σ h).bind fun x h1 => match x with | .d x => ofO (seqItems x) h1 | _ => .stuck) := by
  refine PI.imp (pi_seq (unf h1)) fun σ H R ⟨ι, σp, hh, so, O, F⟩ => ⟨ι, σp, hh, so, O, F.bind.imp ?_⟩
  intro x h1 ι1 H1 E1 O1 F1 v rv _
  cases x with
  | cell k => exact F1.elim
  | k _ => exact F1.elim
  | d x =>
    cases q : seqItems x with
    | none => simp only [q] at F1; exact F1.elim
    | some xs =>
      simp only [q] at F1
      have F2 := F1 ι1 H1 .refl O1
      cases x with
      | list ds => cases q; cases rv with | lst e nl r => exact .inl ⟨_, _, rfl, .inl e, F2 _ (wk_list e nl r)⟩
      | tuple ds => cases q; cases rv with | tup e nl r => exact .inr (.inl ⟨_, _, rfl, .inl e, F2 _ (wk_tup e nl r)⟩)
      | str z => cases q; cases rv; exact .inr (.inr ⟨z, rfl, F2 _ (wk_str z)⟩)
      | none => cases q
      | bool b => cases q
      | int i => cases q
      | dict k => cases q
theorem i_rng (G : Good P w K mg base n S X W) (PG : Pg P w K mg base T Bs Es n) (hb : "range" ∈ Bs) (hg : S.glb (Str.ofString "range") = true) (hs : notStar e1 = true) (h1 : PE X e1 (TD W K fr1 m1)) :
    PI X tg (.Call (.Name (Str.ofString "range") p) [e1] [] pos) (TIt W K fun σ h => (m1 σ h).bind fun x h1 => match x with | .d (.int j) => if -(2 ^ 62) ≤ j ∧ j < 2 ^ 62 then .ok (rangeD 0 j.toNat) h1 else .stuck | _ => .stuck) := by
  refine PI.imp (pi_range1 (G.gl hg).1 (G.free PG hb) (pa_cons (unf h1) pa_nil (star_of hs)) (star_of hs)) fun σ H R ⟨ι, σp, hh, so, O, F⟩ => ⟨ι, σp, hh, so, O, F.bind.imp ?_⟩
  intro x h1 ι1 H1 E1 O1 F1 v rv _
  split at F1
  · split at F1
    · rename_i hj
      cases rv
      exact ⟨_, rfl, hj.1, hj.2, F1 ι1 H1 .refl O1 _ (wk_rng _ _)⟩
    · exact F1.elim
  · exact F1.elim
theorem i_rng2 (G : Good P w K mg base n S X W) (PG : Pg P w K mg base T Bs Es n) (hb : "range" ∈ Bs) (hg : S.glb (Str.ofString "range") = true) (hs : notStar e1 = true) (hs2 : notStar e2 = true) (h1 : PE X e1 (TD W K fr1 m1)) (h2 : PE X e2 (TD W K fr2 m2)) :
    PI X tg (.Call (.Name (Str.ofString "range") p) [e1, e2] [] pos) (TIt W K fun σ h => (m1 σ h).bind fun x h1 => (m2 σ h1).bind fun y h2 => match x, y with
      | .d (.int i), .d (.int j) => if -(2 ^ 62) ≤ i ∧ i < 2 ^ 62 ∧ -(2 ^ 62) ≤ j ∧ j < 2 ^ 62 then .ok (rangeD i (j - i).toNat) h2 else .stuck
      | _, _ => .stuck) := by
  refine PI.imp (pi_range2 (G.gl hg).1 (G.free PG hb) (pa_cons (unf h1) (pa_cons (unf h2) pa_nil (star_of hs2)) (star_of hs)) (by rw [star_of hs, star_of hs2]; rfl) (by rw [star_of hs2]; rfl)) fun σ H R ⟨ι, σp, hh, so, O, F⟩ => ⟨ι, σp, hh, so, O, F.bind.imp ?_⟩
  intro x h1 ι1 H1 E1 O1 F1 v rv _
  refine ⟨ι1, σp, h1, so.mono E1.toMn, O1, F1.bind.imp ?_⟩
  intro y h2 ι2 H2 E2 O2 F2 u ru _
  split at F2
  · split at F2
    · rename_i hj
      cases rv
      cases ru
      exact ⟨_, _, rfl, ⟨hj.1, hj.2.1, hj.2.2.1, hj.2.2.2⟩, F2 ι2 H2 .refl O2 _ (wk_rng _ _)⟩
    · exact F2.elim
  · exact F2.elim
theorem i_zip (G : Good P w K mg base n S X W) (PG : Pg P w K mg base T Bs Es n) {elts : List Expr} {kk : Nat} {tpos : Pos} (hb : "zip" ∈ Bs) (hg : S.glb (Str.ofString "zip") = true) (hs : notStar e1 = true) (hs2 : notStar e2 = true) (h1 : PE X e1 (TD W K fr1 m1)) (h2 : PE X e2 (TD W K fr2 m2)) :
    PI X (.Tuple elts kk tpos) (.Call (.Name (Str.ofString "zip") p) [e1, e2] [] pos) (TIt W K fun σ h => (m1 σ h).bind fun x h1 => (m2 σ h1).bind fun y h2 => match x, y with
      | .d (.tuple xs), .d (.tuple ys) => .ok (zipD xs ys) h2
      | .d (.list xs), .d (.list ys) => .ok (zipD xs ys) h2
      | _, _ => .stuck) := by
  refine PI.imp (RZ.pi_zipA (G.gl hg).1 (G.free PG hb) (pa_cons (unf h1) (pa_cons (unf h2) pa_nil (star_of hs2)) (star_of hs)) (star_of hs) (plain_of (es := [e2]) (by simp only [allPlain, hs2, Bool.and_self]))) fun σ H R ⟨ι, σp, hh, so, O, F⟩ => ⟨ι, σp, hh, so, O, F.bind.imp ?_⟩
  intro x h1 ι1 H1 E1 O1 F1 v rv _
  refine ⟨ι1, σp, h1, so.mono E1.toMn, O1, F1.bind.imp ?_⟩
  intro y h2 ι2 H2 E2 O2 F2 u ru _
  have rv2 := rv.mono E2.toMn
  split at F2
  · cases rv2 with
    | tup e nl r => cases ru with
      | tup e2 nl2 r2 => exact ⟨_, _, _, _, rfl, .inr ⟨.inl e, .inl e2, F2 ι2 H2 .refl O2 _ (wk_zipT e nl r e2 nl2 r2)⟩⟩
  · cases rv2 with
    | lst e nl r => cases ru with
      | lst e2 nl2 r2 => exact ⟨_, _, _, _, rfl, .inl ⟨.inl e, .inl e2, F2 ι2 H2 .refl O2 _ (wk_zipL e nl r e2 nl2 r2)⟩⟩
  · exact F2.elim
theorem i_enum (G : Good P w K mg base n S X W) (PG : Pg P w K mg base T Bs Es n) {elts : List Expr} {kk : Nat} {tpos : Pos} (hb : "enumerate" ∈ Bs) (hg : S.glb (Str.ofString "enumerate") = true) (hs : notStar e1 = true) (h1 : PE X e1 (TD W K fr1 m1)) :
    PI X (.Tuple elts kk tpos) (.Call (.Name (Str.ofString "enumerate") p) [e1] [] pos) (TIt W K fun σ h => (m1 σ h).bind fun x h1 => match x with
      | .d (.list xs) => .ok (enumD 0 xs) h1
      | _ => .stuck) := by
  refine PI.imp (pi_enum (G.gl hg).1 (G.free PG hb) (pa_cons (unf h1) pa_nil (star_of hs)) (star_of hs)) fun σ H R ⟨ι, σp, hh, so, O, F⟩ => ⟨ι, σp, hh, so, O, F.bind.imp ?_⟩
  intro x h1 ι1 H1 E1 O1 F1 v rv _
  split at F1
  · cases rv with
    | lst e nl r => exact ⟨_, _, rfl, .inl e, F1 ι1 H1 .refl O1 _ (wk_enum e nl r)⟩
  · exact F1.elim
end
end J
end JWalk

section JComp
set_option Elab.async false
set_option linter.all false
set_option maxRecDepth 100000
set_option autoImplicit false
set_option maxHeartbeats 4000000
/-! J.Comp: targets; comprehensions. -/
namespace J
open PySem PySem.Spec PyProof.Rows L2
def SC.stor (S : SC) (i : Nat) (x : Str) : Bool := decide (S.N[i]? = some x) && (match S.wr.names.lookup x with | some .local => true | some .cell => true | _ => false)
mutual
def slotsT : Tg → List Nat
  | .nm i => [i]
  | .tup ts => slotsTs ts
def slotsTs : List Tg → List Nat
  | [] => []
  | t :: ts => slotsT t ++ slotsTs ts
end
mutual
def chkT (S : SC) : Expr → Tg → Bool
  | .Name x _, .nm i => S.stor i x
  | .Tuple es _ _, .tup ts => chkTs S es ts
  | _, _ => false
def chkTs (S : SC) : List Expr → List Tg → Bool
  | [], [] => true
  | e :: es, t :: ts => notStar e && (chkT S e t && chkTs S es ts)
  | _, _ => false
end
theorem asg_star {e : Expr} {es : List Expr} {env : Env} (h : notStar e = true) : assignEach (e :: es) env = (false, assign e env) :: assignEach es env := by
  cases e <;> first | rfl | cases h
theorem chkTs_asg {S : SC} {env : Env} : ∀ {es : List Expr} {ts : List Tg}, chkTs S es ts = true → (assignEach es env).length = ts.length ∧ (assignEach es env).findIdx? (·.1) = none
  | [], [], _ => ⟨rfl, rfl⟩
  | [], _ :: _, h => by simp [chkTs] at h
  | _ :: _, [], h => by simp [chkTs] at h
  | e :: es, t :: ts, h => by
    simp only [chkTs] at h
    obtain ⟨h1, h2⟩ := ba h
    obtain ⟨h2, h3⟩ := ba h2
    obtain ⟨i1, i2⟩ := chkTs_asg (env := env) h3
    rw [asg_star h1]
    refine ⟨by simp only [List.length_cons, i1], ?_⟩
    rw [List.findIdx?_cons]
    simp only [i2, Option.map_none]
    rfl
/-- only these slots have changed -/
def Touch (is : List Nat) (σ σ' : L2.St) : Prop := ∀ vs : List Nat, (∀ i ∈ is, i ∈ vs) → wipe σ' vs = wipe σ vs
theorem wipe_set {σ : L2.St} {i : Nat} {v : Option V} : ∀ {vs : List Nat}, i ∈ vs → wipe (σ.set i v) vs = wipe σ vs
  | [], h => by simp at h
  | u :: vs, h => by
    simp only [wipe]
    by_cases e : i = u
    · subst e
      by_cases h' : i ∈ vs
      · rw [wipe_set h']
      · have key : ∀ ws : List Nat, i ∉ ws → (wipe (σ.set i v) ws) = (wipe σ ws).set i v := fun ws => by
          induction ws with
          | nil => intro _; rfl
          | cons w ws ih =>
            intro hn
            simp only [wipe]
            rw [ih fun z => hn (List.mem_cons_of_mem _ z), List.set_comm _ _ fun z => hn (by subst z; exact List.mem_cons_self)]
        rw [key vs h', List.set_set]
    · have h' : i ∈ vs := (List.mem_cons.mp h).resolve_left e
      rw [wipe_set h']
theorem wipe_len (σ : L2.St) : ∀ vs : List Nat, (wipe σ vs).length = σ.length
  | [] => rfl
  | _ :: vs => by simp only [wipe, List.length_set, wipe_len σ vs]
theorem wipe_get {σ : L2.St} : ∀ {vs : List Nat} (j : Nat), (wipe σ vs)[j]? = if j ∈ vs ∧ j < σ.length then some none else σ[j]?
  | [], j => by simp [wipe]
  | v :: vs, j => by
    simp only [wipe]
    rw [List.getElem?_set, wipe_len, wipe_get (vs := vs) j]
    by_cases e : v = j
    · subst e
      by_cases l : v < σ.length
      · simp [l]
      · simp only [l, if_true, if_false, and_false]
        rw [List.getElem?_eq_none (by omega)]
    · have e2 : ¬ j = v := fun z => e z.symm
      simp only [e, if_false, List.mem_cons, e2, false_or]
theorem wipe_idem {σ : L2.St} {vs : List Nat} : wipe (wipe σ vs) vs = wipe σ vs := by
  apply List.ext_getElem?
  intro j
  rw [wipe_get, wipe_get, wipe_len]
  by_cases c : j ∈ vs ∧ j < σ.length
  · rw [if_pos c, if_pos c]
  · rw [if_neg c, if_neg c]
theorem SOk.set {ι : Io} {H : Hp} {σp : PEnv} {σ : L2.St} {i : Nat} {v : V} {pv : PV} (s : SOk ι H σp σ) (r : RelPV ι H v pv) : SOk ι H (σp.set i (some pv)) (σ.set i (some v)) := by
  refine ⟨by rw [List.length_set, List.length_set]; exact s.len, fun j q e => ?_⟩
  by_cases hj : i = j
  · subst hj
    by_cases hl : i < σp.length
    · rw [List.getElem?_set_self hl] at e
      cases e
      exact ⟨v, List.getElem?_set_self (by rw [← s.len]; exact hl), r⟩
    · rw [List.getElem?_eq_none (by rw [List.length_set]; omega)] at e
      cases e
  · rw [List.getElem?_set_ne hj] at e ⊢
    exact s.get j q e
theorem SOk.wipe {ι : Io} {H : Hp} {σp : PEnv} {σ : L2.St} (s : SOk ι H σp σ) : ∀ vs : List Nat, SOk ι H (wipeP σp vs) (L2.wipe σ vs)
  | [] => s
  | v :: vs => by
    have i := SOk.wipe s vs
    refine ⟨by simp only [wipeP, L2.wipe, List.length_set]; exact i.len, fun j q e => ?_⟩
    simp only [wipeP, L2.wipe] at e ⊢
    by_cases hj : v = j
    · subst hj
      rw [List.getElem?_set] at e
      simp only [if_true] at e
      split at e <;> cases e
    · rw [List.getElem?_set_ne hj] at e ⊢
      exact i.get j q e
theorem len_of : ∀ {ts : List Tg} {ds : List D} {σ σ' : PEnv}, assignDs ts ds σ = some σ' → ds.length = ts.length
  | [], [], _, _, _ => rfl
  | [], _ :: _, _, _, h => by simp [assignDs] at h
  | _ :: _, [], _, _, h => by simp [assignDs] at h
  | t :: ts, d :: ds, σ, σ', h => by
    simp only [assignDs] at h
    obtain ⟨σ1, _, h2⟩ := bind1 h
    simp only [List.length_cons, len_of h2]
/-- a datum is stored -/
def TGd (t : Tg) : TG := fun v σ H Q => ∃ ι σp h d σp', Rp ι H v d ∧ SOk ι H σp σ ∧ HpOk ι H h ∧ assignD t d σp = some σp' ∧ ∀ σ', SOk ι H σp' σ' → Touch (slotsT t) σ σ' → Q σ' H
def TGds (ts : List Tg) : TGs := fun vs σ H Q => ∃ ι σp h ds σp', RpAll ι H vs ds ∧ SOk ι H σp σ ∧ HpOk ι H h ∧ assignDs ts ds σp = some σp' ∧ ∀ σ', SOk ι H σp' σ' → Touch (slotsTs ts) σ σ' → Q σ' H
theorem PG.imp {X : Cx} {tg : Expr} {t t' : TG} (h : PG X tg t) (i : ∀ v σ H Q, t' v σ H Q → t v σ H Q) : PG X tg t' := ⟨fun pins s σ H v u Q I r q => h.run pins s σ H v u Q I r (i v σ H Q q)⟩
theorem PGs.imp {X : Cx} {tg : List Expr} {t t' : TGs} (h : PGs X tg t) (i : ∀ v σ H Q, t' v σ H Q → t v σ H Q) : PGs X tg t' := ⟨fun pins s σ H v u Q I r q => h.run pins s σ H v u Q I r (i v σ H Q q)⟩
section
variable {P : Program} {w : World} {K : PySem.W.Frag} {mg : Str → Option Value} {base : Heap} {n : Nat} {S : SC} {X : Cx} {W : WX} {e e1 e2 e3 tg : Expr} {fr fr1 fr2 fr3 : Bool} {m m1 m2 m3 : PEnv → PH → Rs PV} {pos p p2 : Pos} {T : String → Option CDef} {Bs Es : List String}
theorem Good.store (G : Good P w K mg base n S X W) {i : Nat} {x : Str} (h : S.stor i x = true) : X.N.Nodup ∧ X.N[i]? = some x ∧ Loc X.env.scope x ∧ (X.fn x = true ∨ X.env.scope.names.lookup x = some .local) := by
  obtain ⟨h1, h2⟩ := ba h
  have hl : S.wr.names.lookup x = some .local ∨ S.wr.names.lookup x = some .cell := by
    split at h2
    · exact .inl ‹_›
    · exact .inr ‹_›
    · cases h2
  obtain ⟨a, b⟩ := G.st x hl
  rw [G.names, G.scope]
  exact ⟨G.nd, of_decide_eq_true h1, a, b⟩
mutual
theorem g_tg (G : Good P w K mg base n S X W) : ∀ (t : Tg) (e : Expr), chkT S e t = true → PG X e (TGd t)
  | .nm i, e, h => by
    cases e with
    | Name x pos =>
      obtain ⟨a, b, c, d⟩ := G.store (i := i) (x := x) (by simpa only [chkT] using h)
      refine PG.imp (pg_name a b c d) fun v σ H Q ⟨ι, σp, hh, dd, σp', r, so, O, ea, k⟩ => ?_
      simp only [assignD, Option.some.injEq] at ea
      subst ea
      exact k _ (so.set r) fun vs hv => wipe_set (hv i (by simp [slotsT]))
    | _ => simp [chkT] at h
  | .tup ts, e, h => by
    cases e with
    | Tuple es k pos =>
      simp only [chkT] at h
      obtain ⟨l1, l2⟩ := chkTs_asg (env := X.env) h
      refine PG.imp (pg_tup G.calm (g_tgs G ts es h) l1 l2) fun v σ H Q ⟨ι, σp, hh, dd, σp', r, so, O, ea, k⟩ => ?_
      cases r with
      | tup e nl rr =>
        simp only [assignD] at ea
        refine ⟨_, _, rfl, .inl e, ?_, ι, σp, hh, _, σp', rr, so, O, ea, fun σ' s' tc => k σ' s' (by simpa only [slotsT] using tc)⟩
        rw [rr.length]
        clear k e nl l1 l2
        exact len_of ea
      | _ => simp [assignD] at ea
    | _ => simp [chkT] at h
theorem g_tgs (G : Good P w K mg base n S X W) : ∀ (ts : List Tg) (es : List Expr), chkTs S es ts = true → PGs X es (TGds ts)
  | [], [], _ => PGs.imp pgs_nil fun v σ H Q ⟨ι, σp, hh, dd, σp', r, so, O, ea, k⟩ => by
    cases r with
    | nil =>
      simp only [assignDs, Option.some.injEq] at ea
      subst ea
      exact ⟨rfl, k σ so fun _ _ => rfl⟩
    | cons _ _ => simp [assignDs] at ea
  | [], _ :: _, h => by simp [chkTs] at h
  | _ :: _, [], h => by simp [chkTs] at h
  | t :: ts, e :: es, h => by
    simp only [chkTs] at h
    obtain ⟨h1, h2⟩ := ba h
    obtain ⟨h2, h3⟩ := ba h2
    refine PGs.imp (pgs_cons (g_tg G t e h2) (g_tgs G ts es h3) (by rw [asg_star h1]; rfl)) fun v σ H Q ⟨ι, σp, hh, dd, σp', r, so, O, ea, k⟩ => ?_
    cases r with
    | nil => simp [assignDs] at ea
    | cons r rr =>
      simp only [assignDs] at ea
      obtain ⟨σ1, e1, e2⟩ := bind1 ea
      refine ⟨_, _, rfl, ι, σp, hh, _, σ1, r, so, O, e1, fun σ' s' tc => ⟨ι, σ1, hh, _, σp', rr, s', O, e2, fun σ2 s2 tc2 => k σ2 s2 fun vs hv => ?_⟩⟩
      rw [tc2 vs fun i hi => hv i (by simp only [slotsTs]; exact List.mem_append_right _ hi), tc vs fun i hi => hv i (by simp only [slotsTs]; exact List.mem_append_left _ hi)]
end
theorem mn_out {ι2 : Io} {H : Hp} {D : Addr} : Mn ⟨ι2.cs, D :: ι2.ex⟩ H ι2 H :=
  ⟨Nat.le_refl _, fun _ _ => .inr rfl, fun _ _ e _ => e, fun a l n => absurd (show Live ⟨ι2.cs, D :: ι2.ex⟩ a from l.imp id (List.mem_cons_of_mem _)) n, fun _ o e => ⟨o, e⟩⟩
theorem HpOk.out {ι2 : Io} {H : Hp} {h : PH} {D : Addr} (O : HpOk ⟨ι2.cs, D :: ι2.ex⟩ H h) : HpOk ι2 H h := ⟨O.len, fun n a c e1 e2 => by
  have z := O.cell n a c e1 e2
  cases a with
  | none => cases c <;> exact z
  | some a => cases c with
    | dead => exact z
    | lst ds => obtain ⟨xs, q, r⟩ := z; exact ⟨xs, q, Rp.monoAll mn_out _ _ r⟩, O.nd, fun a ha => O.exl a (List.mem_cons_of_mem _ ha), fun a ha => O.exd a (List.mem_cons_of_mem _ ha)⟩
/-- the new list is one longer -/
theorem HpOk.more {ι2 : Io} {H : Hp} {h : PH} {D : Addr} {us us' : List V} (O : HpOk ⟨ι2.cs, D :: ι2.ex⟩ H h) (hD : H D = some (.lst us)) :
    HpOk ⟨ι2.cs, D :: ι2.ex⟩ (upd H D (.lst us')) h ∧ Mn ⟨ι2.cs, D :: ι2.ex⟩ H ⟨ι2.cs, D :: ι2.ex⟩ (upd H D (.lst us')) := by
  have lD : Live ⟨ι2.cs, D :: ι2.ex⟩ D := .inr List.mem_cons_self
  have mn : Mn ⟨ι2.cs, D :: ι2.ex⟩ H ⟨ι2.cs, D :: ι2.ex⟩ (upd H D (.lst us')) := ⟨Nat.le_refl _, fun _ _ => .inr rfl, fun b o q nl => by rw [upd_ne (fun z => nl (by subst z; exact lD))]; exact q, fun _ l nl => absurd l nl, fun b o q => by
    by_cases z : b = D
    · subst z; exact ⟨_, upd_same⟩
    · exact ⟨o, by rw [upd_ne z]; exact q⟩⟩
  refine ⟨⟨O.len, fun n a c e1 e2 => ?_, O.nd, fun a ha => ?_, O.exd⟩, mn⟩
  · have z := O.cell n a c e1 e2
    cases a with
    | none => cases c <;> exact z
    | some a => cases c with
      | dead => exact z
      | lst ds =>
        obtain ⟨xs, q, r⟩ := z
        refine ⟨xs, ?_, Rp.monoAll mn _ _ r⟩
        rw [upd_ne fun z => O.exd D List.mem_cons_self (by subst z; exact List.mem_of_getElem? e1)]
        exact q
  · obtain ⟨o, e⟩ := O.exl a ha
    exact mn.trk a o e
abbrev W0 : WX := fun _ _ _ _ => False
theorem ext_out {ι1 ι2 ι4 : Io} {H1 H4 : Hp} {D : Addr} (M : Mn ι1 H1 ι4 H4) (e : ι4 = ⟨ι4.cs, D :: ι2.ex⟩) (ee : ι2.ex = ι1.ex) (k : ∀ a ∈ ι1.ex, H4 a = H1 a) : Ext ι1 H1 ⟨ι4.cs, ι2.ex⟩ H4 :=
  ⟨⟨M.len, M.pos, M.keep, fun a l n => M.new a (by rw [e]; exact l.imp id (List.mem_cons_of_mem _)) n, M.trk⟩, ee, k⟩
theorem calm_ok {α β : Type} {r : Rs α} {g : α → PH → Rs β} {a : β} {h : PH} : r.calm.bind g = .ok a h → ∃ x h1, r = .ok x h1 ∧ g x h1 = .ok a h := by
  intro q
  cases r with
  | ok x h1 => exact ⟨x, h1, rfl, q⟩
  | exc c h1 => cases q
  | stuck => cases q
theorem ofO_ok {α β : Type} {o : Option α} {h0 : PH} {g : α → PH → Rs β} {a : β} {h : PH} : (ofO o h0).bind g = .ok a h → ∃ x, o = some x ∧ g x h0 = .ok a h := by
  intro q
  cases o with
  | none => cases q
  | some x => exact ⟨x, rfl, q⟩
/-- what a turn has done -/
theorem compF_ok {t : Tg} {own : List Nat} {mc me : PEnv → PH → Rs PV} {σ : PEnv} {x : D} {h h' : PH} {o : Option D} (q : compF t own mc me σ x h = .ok o h') :
    ∃ σ2 k b h3, assignD t x (wipeP σ own) = some σ2 ∧ mc σ2 h = .ok k h3 ∧ (val h3 k).bind truD = some b ∧ ((b = true ∧ ∃ y, me σ2 h3 = .ok (.d y) h' ∧ o = some y) ∨ (b = false ∧ o = none ∧ h' = h3)) := by
  unfold compF at q
  obtain ⟨σ2, e1, q⟩ := ofO_ok q
  obtain ⟨k, h3, e2, q⟩ := calm_ok q
  obtain ⟨b, e3, q⟩ := ofO_ok q
  refine ⟨σ2, k, b, h3, e1, e2, e3, ?_⟩
  cases b with
  | true =>
    obtain ⟨y, h4, e4, q⟩ := calm_ok q
    cases y with
    | cell j => cases q
    | k z => cases q
    | d y => cases q; exact .inl ⟨rfl, y, e4, rfl⟩
  | false => cases q; exact .inr ⟨rfl, rfl, rfl⟩
theorem compF_calm {t : Tg} {own : List Nat} {mc me : PEnv → PH → Rs PV} {σ : PEnv} {x : D} {h h' : PH} {c : String} : compF t own mc me σ x h ≠ .exc c h' := by
  intro q
  unfold compF at q
  cases e1 : assignD t x (wipeP σ own) with
  | none => rw [e1] at q; cases q
  | some σ2 =>
    rw [e1] at q
    simp only [ofO, Rs.bind] at q
    cases e2 : mc σ2 h with
    | exc c h1 => rw [e2] at q; cases q
    | stuck => rw [e2] at q; cases q
    | ok k h3 =>
      rw [e2] at q
      simp only [Rs.calm] at q
      cases e3 : (val h3 k).bind truD with
      | none => rw [e3] at q; cases q
      | some b =>
        rw [e3] at q
        cases b with
        | false => cases q
        | true =>
          simp only at q
          cases e4 : me σ2 h3 with
          | exc c h1 => rw [e4] at q; cases q
          | stuck => rw [e4] at q; cases q
          | ok y h4 => rw [e4] at q; cases y <;> cases q
theorem lc_read {own : List (Str × Nat)} {t : Tg} {mi : PEnv → PH → Rs (List D)} {mc me : PEnv → PH → Rs PV} {σ : L2.St} {H : Hp} {Q : VK} (htg : ∀ i ∈ slotsT t, i ∈ own.map (·.2))
    (h : TD W K true (fun σ h => (mi σ h).bind fun xs h1 => if xs.length ≤ lineN then (compL (compF t (own.map (·.2)) mc me σ) xs h1).bind fun r h2 => .ok (.d (.list r)) h2 else .stuck) σ H Q) :
    tLc (TIt W K mi) (TGd t) (TB W0 K mc) (TD W0 K false me) (own.map (·.2)) σ H Q := by
  obtain ⟨ι, σp, hh, so, O, F⟩ := h
  refine ⟨ι, σp, hh, so, O, F.bind.imp ?_⟩
  intro xs h1 ι1 H1 E1 O1 F1 J wk D nD
  split at F1
  case isFalse => exact F1.elim
  rename_i hlen
  have F2 : Fin W K ι1 H1 σ (compL (compF t (own.map (·.2)) mc me σp) xs h1) fun r h3 ι3 H3 => ∀ v, RelPV ι3 H3 v (.d (.list r)) → NewL H ι3 H3 h3 v (.d (.list r)) → Q v H3 := by
    refine F1.bind.imp fun r h3 ι3 H3 E3 O3 F3 v rv nl => ?_
    exact F3 ι3 H3 .refl O3 v rv fun _ => nl
  have so1 := so.mono E1.toMn
  refine ⟨fun i m Hc => m = xs.length - i ∧ i ≤ xs.length ∧ ∃ ι2 h2 us ds, Ext ι1 H1 ι2 Hc ∧ HpOk ⟨ι2.cs, D :: ι2.ex⟩ Hc h2 ∧ Hc D = some (.lst us) ∧ RpAll ⟨ι2.cs, D :: ι2.ex⟩ Hc us ds ∧ ds.length ≤ i ∧
    Fin W K ι1 H1 σ (compL (compF t (own.map (·.2)) mc me σp) (xs.drop i) h2) fun r h3 ι3 H3 => ∀ v, RelPV ι3 H3 v (.d (.list (ds ++ r))) → NewL H ι3 H3 h3 v (.d (.list (ds ++ r))) → Q v H3, ?_, ?_⟩
  · have gr : ∀ a u, H1 a = some u → upd H1 D (.lst []) a = some u := grow_upd nD
    have O2 := O1.grow gr
    refine ⟨_, rfl, Nat.zero_le _, ι1, h1, [], [], Ext.grow O1 gr, O1.lay nD, upd_same, .nil, Nat.le_refl _, ?_⟩
    · simpa using F2
  · rintro i m Hc ⟨rfl, hi, ι2, h2, us, ds, E2, O2, hD, rr, hds, F3⟩
    have mn := mn_in E2.toMn nD
    by_cases hlt : i < xs.length
    · refine .inr ⟨wk.go i _ Hc h2 hlt mn O2, fun Hn => ∃ m', m' < xs.length - i ∧ (m' = xs.length - (i + 1) ∧ i + 1 ≤ xs.length ∧ ∃ ι2 h2 us ds, Ext ι1 H1 ι2 Hn ∧ HpOk ⟨ι2.cs, D :: ι2.ex⟩ Hn h2 ∧ Hn D = some (.lst us) ∧ RpAll ⟨ι2.cs, D :: ι2.ex⟩ Hn us ds ∧ ds.length ≤ i + 1 ∧
        Fin W K ι1 H1 σ (compL (compF t (own.map (·.2)) mc me σp) (xs.drop (i + 1)) h2) fun r h3 ι3 H3 => ∀ v, RelPV ι3 H3 v (.d (.list (ds ++ r))) → NewL H ι3 H3 h3 v (.d (.list (ds ++ r))) → Q v H3), fun Hn z => z, fun v H3 y => ?_⟩
      obtain ⟨gr, x, ex, rx⟩ := wk.yld i _ Hc h2 v H3 hlt mn O2 y
      have hdrop : xs.drop i = x :: xs.drop (i + 1) := by
        rw [List.drop_eq_getElem_cons hlt]
        rw [List.getElem?_eq_getElem hlt] at ex
        cases ex
        rfl
      rw [hdrop] at F3
      have O3 := O2.grow gr
      have mn3 := mn.trans (Mn.grow gr)
      cases q : compF t (own.map (·.2)) mc me σp x h2 with
      | stuck => simp only [compL, q, Rs.bind] at F3; exact F3.elim
      | exc c h' => exact absurd q compF_calm
      | ok o h' =>
        obtain ⟨σ2, k, b, h3, ea, ec, eb, rest⟩ := compF_ok q
        simp only [compL, q, Rs.bind] at F3
        refine ⟨⟨ι2.cs, D :: ι2.ex⟩, wipeP σp (own.map (·.2)), h2, x, σ2, rx, (so1.mono mn3).wipe _, O3, ea, fun σ' s' tc => ⟨?_, ?_⟩⟩
        · have := tc (own.map (·.2)) htg
          rw [this]
          exact wipe_idem
        · refine ⟨⟨ι2.cs, D :: ι2.ex⟩, σ2, h2, s', O3, ?_⟩
          rw [ec]
          show Fin W0 K _ H3 σ' (ofO ((val h3 k).bind truD) h3) _
          rw [eb]
          intro ι4 H4 E4 O4
          have eD4 : H4 D = some (.lst us) := by rw [E4.exk D List.mem_cons_self]; exact gr _ _ hD
          have rr4 : RpAll ι4 H4 us ds := Rp.monoAll ((Mn.grow gr).trans E4.toMn) _ _ rr
          have eι4 : ι4 = ⟨ι4.cs, D :: ι2.ex⟩ := by cases ι4; cases E4.exe; rfl
          have E24 : Ext ι1 H1 ⟨ι4.cs, ι2.ex⟩ H4 := ext_out (mn.trans ((Mn.grow gr).trans E4.toMn)) eι4 E2.exe (fun a ha => by
            rw [E4.exk a (List.mem_cons_of_mem _ (by rw [E2.exe]; exact ha)), ← E2.exk a ha]
            obtain ⟨o, z⟩ := O2.exl a (List.mem_cons_of_mem _ (by rw [E2.exe]; exact ha))
            rw [gr a o z, z])
          rcases rest with ⟨rfl, y, ey, rfl⟩ | ⟨rfl, rfl, rfl⟩
          · dsimp only
            rw [if_pos rfl]
            refine ⟨ι4, σ2, h3, (s'.mono E4.toMn), O4, ?_⟩
            rw [ey]
            intro ι5 H5 E5 O5 u ru _
            have eι5 : ι5 = ⟨ι5.cs, D :: ι2.ex⟩ := by
              have z := E5.exe
              rw [eι4] at z
              cases ι5
              cases z
              rfl
            have lD4 : D ∈ ι4.ex := by rw [eι4]; exact List.mem_cons_self
            have eD5 : H5 D = some (.lst us) := by rw [E5.exk D lD4]; exact eD4
            have E25 : Ext ι1 H1 ⟨ι5.cs, ι2.ex⟩ H5 := ext_out (mn.trans (((Mn.grow gr).trans E4.toMn).trans E5.toMn)) eι5 E2.exe (fun a ha => by
              rw [E5.exk a (by rw [eι4]; exact List.mem_cons_of_mem _ (by rw [E2.exe]; exact ha))]
              exact E24.exk a ha)
            have rr5 : RpAll ι5 H5 us ds := Rp.monoAll E5.toMn _ _ rr4
            refine ⟨us, eD5, ?_, ?_⟩
            · rw [rr.length, ← lineN_eq]; omega
            rw [eι5] at O5 rr5 ru
            obtain ⟨O6, mn6⟩ := HpOk.more (ι2 := ⟨ι5.cs, ι2.ex⟩) (us' := us ++ [u]) O5 eD5
            refine ⟨xs.length - (i + 1), by omega, rfl, hlt, ⟨ι5.cs, ι2.ex⟩, h', us ++ [u], ds ++ [y], ?_, O6, upd_same, Rp.monoAll mn6 _ _ (rr5.append (.cons ru .nil)), by simp only [List.length_append, List.length_singleton]; omega, ?_⟩
            · refine ⟨⟨E25.len, E25.pos, fun a o q nl => ?_, E25.new, fun a o q => ?_⟩, E25.exe, fun a ha => ?_⟩
              · rw [upd_ne (ne_of_none q nD)]; exact E25.keep a o q nl
              · rw [upd_ne (ne_of_none q nD)]; exact E25.trk a o q
              · obtain ⟨o, z⟩ := O1.exl a ha
                rw [upd_ne (ne_of_none z nD)]; exact E25.exk a ha
            · simp only [List.append_assoc, List.singleton_append]
              cases q2 : compL (compF t (own.map (·.2)) mc me σp) (xs.drop (i + 1)) h' with
              | stuck => rw [q2] at F3; exact F3.elim
              | exc c h9 => rw [q2] at F3; exact F3
              | ok r h9 => rw [q2] at F3; exact F3
          · dsimp only
            rw [if_neg (by decide)]
            refine ⟨xs.length - (i + 1), by omega, rfl, hlt, ⟨ι4.cs, ι2.ex⟩, h', us, ds, E24, ?_, eD4, ?_, by omega, ?_⟩
            · rw [eι4] at O4; exact O4
            · rw [eι4] at rr4; exact rr4
            · cases q2 : compL (compF t (own.map (·.2)) mc me σp) (xs.drop (i + 1)) h' with
              | stuck => rw [q2] at F3; exact F3.elim
              | exc c h9 => rw [q2] at F3; exact F3
              | ok r h9 => rw [q2] at F3; exact F3
    · have e : i = xs.length := by omega
      subst e
      refine .inl ⟨wk.stop _ Hc h2 mn O2, ?_⟩
      rw [List.drop_length] at F3
      have F4 := F3 ι2 Hc E2 O2.out (.ref D)
      rw [List.append_nil] at F4
      refine F4 (.lst (.inl hD) ?_ (Rp.monoAll mn_out _ _ rr)) fun es q => by cases q; exact ⟨D, us, rfl, none_of E1.trk nD, hD, O2, rr⟩
      rintro (l | l)
      · exact O2.exd D List.mem_cons_self l
      · rw [E2.exe] at l
        exact O1.fresh nD (.inr l)
theorem s_lc {iter elt : Expr} {ifs : List Expr} {scope : Scope} {own : List (Str × Nat)} {t : Tg} {mi : PEnv → PH → Rs (List D)} {mc me : PEnv → PH → Rs PV} (G : Good P w K mg base n S X W) (hi : PI X tg iter (TIt W K mi)) (ok : BlkOk X.N X.env.scope scope own)
    (htg : ∀ i ∈ slotsT t, i ∈ own.map (·.2))
    (hg : ∀ (s : Shared) (H : Hp) (C : Addr) (cl : List (Str × Addr)) (fp : List Addr), PG (X.blk s H scope (compEnvC scope cl C X.env) fp) tg (TGd t))
    (ht : ∀ (s : Shared) (H : Hp) (C : Addr) (cl : List (Str × Addr)) (fp : List Addr), PTs (X.blk s H scope (compEnvC scope cl C X.env) fp) ifs (TB W0 K mc))
    (he : ∀ (s : Shared) (H : Hp) (C : Addr) (cl : List (Str × Addr)) (fp : List Addr), PE (X.blk s H scope (compEnvC scope cl C X.env) fp) elt (TD W0 K false me))
    (hs : ∀ x, foldedSetIterable iter X.env x = pure x) :
    PE X (.ListComp elt [⟨tg, iter, ifs, 0⟩] scope pos) (TD W K true fun σ h => (mi σ h).bind fun xs h1 => if xs.length ≤ lineN then (compL (compF t (own.map (·.2)) mc me σ) xs h1).bind fun r h2 => .ok (.d (.list r)) h2 else .stuck) := by
  exact PE.imp (pe_lc G.calm (by rw [G.names]; exact G.nd) hi ok hg ht he hs) fun σ H Q h => lc_read htg h
end
end J
end JComp

section JComp2
set_option Elab.async false
set_option linter.all false
set_option maxRecDepth 100000
set_option autoImplicit false
set_option maxHeartbeats 8000000
/-! J.Comp2: comprehensions of two fors. -/
namespace J
open PySem PySem.Spec PyProof.Rows L2
/-- a list under way at L -/
structure Bld (ι1 : Io) (H1 : Hp) (L : Addr) (ι2 : Io) (Hc : Hp) (h2 : PH) (us : List V) (ds : List D) : Prop where
  E : Ext ι1 H1 ι2 Hc
  O : HpOk ⟨ι2.cs, L :: ι2.ex⟩ Hc h2
  here : Hc L = some (.lst us)
  rr : RpAll ⟨ι2.cs, L :: ι2.ex⟩ Hc us ds
section
variable {ι1 ι2 ι4 : Io} {H1 Hc H3 H4 : Hp} {L : Addr} {h2 h3 : PH} {us : List V} {ds : List D}
theorem Bld.grow (B : Bld ι1 H1 L ι2 Hc h2 us ds) (gr : ∀ a u, Hc a = some u → H3 a = some u) : Bld ι1 H1 L ι2 H3 h2 us ds :=
  ⟨B.E.trans (Ext.grow B.O.out gr), B.O.grow gr, gr _ _ B.here, Rp.monoAll (Mn.grow gr) _ _ B.rr⟩
theorem Bld.step (nL : H1 L = none) (B : Bld ι1 H1 L ι2 Hc h2 us ds) (E4 : Ext ⟨ι2.cs, L :: ι2.ex⟩ Hc ι4 H4) (O4 : HpOk ι4 H4 h3) : ι4 = ⟨ι4.cs, L :: ι2.ex⟩ ∧ Bld ι1 H1 L ⟨ι4.cs, ι2.ex⟩ H4 h3 us ds := by
  have eι4 : ι4 = ⟨ι4.cs, L :: ι2.ex⟩ := by cases ι4; cases E4.exe; rfl
  have mn := mn_in B.E.toMn nL
  have E24 : Ext ι1 H1 ⟨ι4.cs, ι2.ex⟩ H4 := ext_out (mn.trans E4.toMn) eι4 B.E.exe (fun a ha => by
    rw [E4.exk a (List.mem_cons_of_mem _ (by rw [B.E.exe]; exact ha))]
    exact B.E.exk a ha)
  have rr4 : RpAll ι4 H4 us ds := Rp.monoAll E4.toMn _ _ B.rr
  have e4 : H4 L = some (.lst us) := by rw [E4.exk L List.mem_cons_self]; exact B.here
  refine ⟨eι4, E24, ?_, e4, ?_⟩
  · rw [eι4] at O4; exact O4
  · rw [eι4] at rr4; exact rr4
theorem Bld.push (nL : H1 L = none) (O1 : ∃ h, HpOk ι1 H1 h) (B : Bld ι1 H1 L ι2 Hc h2 us ds) {u : V} {y : D} (ru : Rp ⟨ι2.cs, L :: ι2.ex⟩ Hc u y) : Bld ι1 H1 L ι2 (upd Hc L (.lst (us ++ [u]))) h2 (us ++ [u]) (ds ++ [y]) ∧ Mn ⟨ι2.cs, L :: ι2.ex⟩ Hc ⟨ι2.cs, L :: ι2.ex⟩ (upd Hc L (.lst (us ++ [u]))) := by
  obtain ⟨O6, mn6⟩ := HpOk.more (us' := us ++ [u]) B.O B.here
  refine ⟨⟨⟨⟨B.E.len, B.E.pos, fun a o q nl => ?_, B.E.new, fun a o q => ?_⟩, B.E.exe, fun a ha => ?_⟩, O6, upd_same, Rp.monoAll mn6 _ _ (B.rr.append (.cons ru .nil))⟩, mn6⟩
  · rw [upd_ne (ne_of_none q nL)]; exact B.E.keep a o q nl
  · rw [upd_ne (ne_of_none q nL)]; exact B.E.trk a o q
  · obtain ⟨h, O1⟩ := O1
    obtain ⟨o, z⟩ := O1.exl a ha
    rw [upd_ne (ne_of_none z nL)]; exact B.E.exk a ha
end
theorem compF2_ok {t : Tg} {own : List Nat} {mc : PEnv → PH → Rs PV} {mi1 : PEnv → PH → Rs (List D)} {f1 : PEnv → D → PH → Rs (Option D)} {σ : PEnv} {x : D} {h h' : PH} {o : List D} (q : compF2 t own mc mi1 f1 σ x h = .ok o h') :
    ∃ σ2 k b h3, assignD t x (wipeP σ own) = some σ2 ∧ mc σ2 h = .ok k h3 ∧ (val h3 k).bind truD = some b ∧ ((b = true ∧ ∃ xs1 h4, mi1 σ2 h3 = .ok xs1 h4 ∧ compL (f1 σ2) xs1 h4 = .ok o h') ∨ (b = false ∧ o = [] ∧ h' = h3)) := by
  unfold compF2 at q
  obtain ⟨σ2, e1, q⟩ := ofO_ok q
  obtain ⟨k, h3, e2, q⟩ := calm_ok q
  obtain ⟨b, e3, q⟩ := ofO_ok q
  refine ⟨σ2, k, b, h3, e1, e2, e3, ?_⟩
  cases b with
  | true =>
    obtain ⟨xs1, h4, e4, q⟩ := calm_ok q
    exact .inl ⟨rfl, xs1, h4, e4, q⟩
  | false =>
    cases q
    exact .inr ⟨rfl, rfl, rfl⟩
theorem compL_cons {f : D → PH → Rs (Option D)} {x : D} {xs : List D} {h h' : PH} {r : List D} (q : compL f (x :: xs) h = .ok r h') : ∃ o h1 r1, f x h = .ok o h1 ∧ compL f xs h1 = .ok r1 h' ∧ r = (match o with | some y => y :: r1 | none => r1) := by
  simp only [compL] at q
  cases e : f x h with
  | stuck => rw [e] at q; cases q
  | exc c h1 => rw [e] at q; cases q
  | ok o h1 =>
    rw [e] at q
    simp only [Rs.bind] at q
    cases e2 : compL f xs h1 with
    | stuck => rw [e2] at q; cases q
    | exc c h1 => rw [e2] at q; cases q
    | ok r1 h2 => rw [e2] at q; cases q; exact ⟨o, h1, r1, rfl, e2, rfl⟩
theorem compLL_cons {f : D → PH → Rs (List D)} {x : D} {xs : List D} {h h' : PH} {r : List D} (q : compLL f (x :: xs) h = .ok r h') : ∃ o h1 r1, f x h = .ok o h1 ∧ compLL f xs h1 = .ok r1 h' ∧ r = o ++ r1 := by
  simp only [compLL] at q
  cases e : f x h with
  | stuck => rw [e] at q; cases q
  | exc c h1 => rw [e] at q; cases q
  | ok o h1 =>
    rw [e] at q
    simp only [Rs.bind] at q
    cases e2 : compLL f xs h1 with
    | stuck => rw [e2] at q; cases q
    | exc c h1 => rw [e2] at q; cases q
    | ok r1 h2 => rw [e2] at q; cases q; exact ⟨o, h1, r1, rfl, e2, rfl⟩
theorem compL_calm {f : D → PH → Rs (Option D)} (hf : ∀ x h c h', f x h ≠ .exc c h') : ∀ (xs : List D) (h : PH) (c : String) (h' : PH), compL f xs h ≠ .exc c h'
  | [], h, c, h', q => by cases q
  | x :: xs, h, c, h', q => by
    simp only [compL] at q
    cases e : f x h with
    | stuck => rw [e] at q; cases q
    | exc c h1 => exact hf _ _ _ _ e
    | ok o h1 =>
      rw [e] at q
      simp only [Rs.bind] at q
      cases e2 : compL f xs h1 with
      | stuck => rw [e2] at q; cases q
      | exc c h1 => exact compL_calm hf _ _ _ _ e2
      | ok r1 h2 => rw [e2] at q; cases q
theorem compLL_calm {f : D → PH → Rs (List D)} (hf : ∀ x h c h', f x h ≠ .exc c h') : ∀ (xs : List D) (h : PH) (c : String) (h' : PH), compLL f xs h ≠ .exc c h'
  | [], h, c, h', q => by cases q
  | x :: xs, h, c, h', q => by
    simp only [compLL] at q
    cases e : f x h with
    | stuck => rw [e] at q; cases q
    | exc c h1 => exact hf _ _ _ _ e
    | ok o h1 =>
      rw [e] at q
      simp only [Rs.bind] at q
      cases e2 : compLL f xs h1 with
      | stuck => rw [e2] at q; cases q
      | exc c h1 => exact compLL_calm hf _ _ _ _ e2
      | ok r1 h2 => rw [e2] at q; cases q
theorem compF2_calm {t t1 : Tg} {own own1 : List Nat} {mc mc1 me : PEnv → PH → Rs PV} {mi1 : PEnv → PH → Rs (List D)} {σ : PEnv} (x : D) (h : PH) (c : String) (h' : PH) : compF2 t own mc mi1 (fun σ2 => compF t1 own1 mc1 me σ2) σ x h ≠ .exc c h' := by
  intro q
  unfold compF2 at q
  cases e1 : assignD t x (wipeP σ own) with
  | none => rw [e1] at q; cases q
  | some σ2 =>
    rw [e1] at q
    simp only [ofO, Rs.bind] at q
    cases e2 : mc σ2 h with
    | exc c h1 => rw [e2] at q; cases q
    | stuck => rw [e2] at q; cases q
    | ok k h3 =>
      rw [e2] at q
      simp only [Rs.calm] at q
      cases e3 : (val h3 k).bind truD with
      | none => rw [e3] at q; cases q
      | some b =>
        rw [e3] at q
        cases b with
        | false => cases q
        | true =>
          simp only at q
          cases e4 : mi1 σ2 h3 with
          | exc c h1 => rw [e4] at q; cases q
          | stuck => rw [e4] at q; cases q
          | ok xs1 h4 =>
            rw [e4] at q
            exact compL_calm (fun _ _ _ _ => compF_calm) _ _ _ _ q
section
variable {W : WX} {K : PySem.W.Frag}
theorem lc2_read {own own1 : List Nat} {t t1 : Tg} {mi mi1 : PEnv → PH → Rs (List D)} {mc mc1 me : PEnv → PH → Rs PV} {σ : L2.St} {H : Hp} {Q : VK} (htg : ∀ i ∈ slotsT t, i ∈ own) (htg1 : ∀ i ∈ slotsT t1, i ∈ own1)
    (h : TD W K true (fun σ h => (mi σ h).bind fun xs h1 => (compLL (compF2 t own mc mi1 (fun σ2 => compF t1 own1 mc1 me σ2) σ) xs h1).bind fun r h2 => if r.length ≤ lineN then .ok (.d (.list r)) h2 else .stuck) σ H Q) :
    tLc2 (TIt W K mi) (TGd t) (TB W0 K mc) (TIt W0 K mi1) (TGd t1) (TB W0 K mc1) (TD W0 K false me) own own1 σ H Q := by
  obtain ⟨ι, σp, hh, so, O, F⟩ := h
  refine ⟨ι, σp, hh, so, O, F.bind.imp ?_⟩
  intro xs h1 ι1 H1 E1 O1 F1 J wk L nL
  have so1 := so.mono E1.toMn
  obtain ⟨r0, h9, e0, fin0⟩ : ∃ r h9, compLL (compF2 t own mc mi1 (fun σ2 => compF t1 own1 mc1 me σ2) σp) xs h1 = .ok r h9 ∧ r.length ≤ lineN ∧ ∀ ι3 H3, Ext ι1 H1 ι3 H3 → HpOk ι3 H3 h9 → ∀ v, RelPV ι3 H3 v (.d (.list r)) → NewL H ι3 H3 h9 v (.d (.list r)) → Q v H3 := by
    cases e : compLL (compF2 t own mc mi1 (fun σ2 => compF t1 own1 mc1 me σ2) σp) xs h1 with
    | stuck => rw [e] at F1; exact F1.elim
    | exc c h' => exact absurd e (compLL_calm compF2_calm _ _ _ _)
    | ok r h9 =>
      rw [e] at F1
      simp only [Rs.bind] at F1
      split at F1
      · rename_i hl
        exact ⟨r, h9, rfl, hl, fun ι3 H3 E3 O3 v rv nl => F1 ι3 H3 E3 O3 v rv fun _ => nl⟩
      · exact F1.elim
  obtain ⟨hl0, fin0⟩ := fin0
  let Rest : Nat → PH → List D → Prop := fun i h2 ds => ∃ r, compLL (compF2 t own mc mi1 (fun σ2 => compF t1 own1 mc1 me σ2) σp) (xs.drop i) h2 = .ok r h9 ∧ ds ++ r = r0
  refine ⟨fun i m Hc => m = xs.length - i ∧ i ≤ xs.length ∧ ∃ ι2 h2 us ds, Bld ι1 H1 L ι2 Hc h2 us ds ∧ Rest i h2 ds, ⟨_, rfl, Nat.zero_le _, ι1, h1, [], [], ⟨Ext.grow O1 (grow_upd nL), O1.lay nL, upd_same, .nil⟩, r0, by simpa using e0, rfl⟩, ?_⟩
  rintro i m Hc ⟨rfl, hi, ι2, h2, us, ds, B, r, er, eds⟩
  have mn := mn_in B.E.toMn nL
  by_cases hlt : i < xs.length
  · refine .inr ⟨wk.go i _ Hc h2 hlt mn B.O, fun Hn => ∃ m', m' < xs.length - i ∧ (m' = xs.length - (i + 1) ∧ i + 1 ≤ xs.length ∧ ∃ ι2 h2 us ds, Bld ι1 H1 L ι2 Hn h2 us ds ∧ Rest (i + 1) h2 ds), fun Hn z => z, fun v H3 y => ?_⟩
    obtain ⟨gr, x, ex, rx⟩ := wk.yld i _ Hc h2 v H3 hlt mn B.O y
    have hdrop : xs.drop i = x :: xs.drop (i + 1) := by
      rw [List.drop_eq_getElem_cons hlt]
      rw [List.getElem?_eq_getElem hlt] at ex
      cases ex
      rfl
    rw [hdrop] at er
    obtain ⟨o, h', r1, ef, er1, rfl⟩ := compLL_cons er
    obtain ⟨σ2, k, b, h3, ea, ec, eb, rest⟩ := compF2_ok ef
    have B3 := B.grow gr
    have mn3 := mn.trans (Mn.grow gr)
    refine ⟨⟨ι2.cs, L :: ι2.ex⟩, wipeP σp own, h2, x, σ2, rx, (so1.mono mn3).wipe _, B3.O, ea, fun σ' s' tc => ⟨?_, ?_⟩⟩
    · rw [tc own htg]
      exact wipe_idem
    · refine ⟨⟨ι2.cs, L :: ι2.ex⟩, σ2, h2, s', B3.O, ?_⟩
      rw [ec]
      show Fin W0 K _ H3 σ' (ofO ((val h3 k).bind truD) h3) _
      rw [eb]
      intro ι4 H4 E4 O4
      obtain ⟨eι4, B4⟩ := B3.step nL E4 O4
      have s4 := s'.mono E4.toMn
      rcases rest with ⟨rfl, xs1, h4, ei, ecl⟩ | ⟨rfl, rfl, rfl⟩
      · dsimp only
        rw [if_pos rfl]
        refine ⟨ι4, σ2, h3, s4, O4, ?_⟩
        rw [ei]
        intro ι5 H5 E5 O5 J1 wk1
        rw [eι4] at E5
        obtain ⟨eι5, B5⟩ := B4.step nL E5 O5
        have s5 : SOk ι5 H5 σ2 σ' := by
          rw [eι4] at s4
          exact s4.mono E5.toMn
        refine ⟨fun j k Hi => k = xs1.length - j ∧ j ≤ xs1.length ∧ ∃ ι6 h6 us6 ds6, Bld ι1 H1 L ι6 Hi h6 us6 ds6 ∧ Mn ι5 H5 ⟨ι6.cs, L :: ι6.ex⟩ Hi ∧ ∃ q1, compL (compF t1 own1 mc1 me σ2) (xs1.drop j) h6 = .ok q1 h' ∧ ds6 ++ q1 = ds ++ o, ⟨_, rfl, Nat.zero_le _, ⟨ι5.cs, ι2.ex⟩, h4, us, ds, B5, by rw [← eι5]; exact Mn.refl, o, by simpa using ecl, rfl⟩, ?_⟩
        rintro j kk Hi ⟨rfl, hj, ι6, h6, us6, ds6, B6, mn6, q1, eq1, ed6⟩
        by_cases hjl : j < xs1.length
        · refine .inr ⟨wk1.go j _ Hi h6 hjl mn6 B6.O, fun Hn => ∃ k', k' < xs1.length - j ∧ (k' = xs1.length - (j + 1) ∧ j + 1 ≤ xs1.length ∧ ∃ ι6 h6 us6 ds6, Bld ι1 H1 L ι6 Hn h6 us6 ds6 ∧ Mn ι5 H5 ⟨ι6.cs, L :: ι6.ex⟩ Hn ∧ ∃ q1, compL (compF t1 own1 mc1 me σ2) (xs1.drop (j + 1)) h6 = .ok q1 h' ∧ ds6 ++ q1 = ds ++ o), fun Hn z => z, fun v1 H7 y1 => ?_⟩
          obtain ⟨gr1, x1, ex1, rx1⟩ := wk1.yld j _ Hi h6 v1 H7 hjl mn6 B6.O y1
          have hdrop1 : xs1.drop j = x1 :: xs1.drop (j + 1) := by
            rw [List.drop_eq_getElem_cons hjl]
            rw [List.getElem?_eq_getElem hjl] at ex1
            cases ex1
            rfl
          rw [hdrop1] at eq1
          obtain ⟨o1, h7, q2, ef1, eq2, rfl⟩ := compL_cons eq1
          obtain ⟨σ3, k1, b1, h8, ea1, ec1, eb1, rest1⟩ := compF_ok ef1
          have B7 := B6.grow gr1
          have mn7 := mn6.trans (Mn.grow gr1)
          refine ⟨⟨ι6.cs, L :: ι6.ex⟩, wipeP σ2 own1, h6, x1, σ3, rx1, (s5.mono mn7).wipe _, B7.O, ea1, fun σ'' s'' tc1 => ⟨?_, ?_⟩⟩
          · rw [tc1 own1 htg1]
            exact wipe_idem
          · refine ⟨⟨ι6.cs, L :: ι6.ex⟩, σ3, h6, s'', B7.O, ?_⟩
            rw [ec1]
            show Fin W0 K _ H7 σ'' (ofO ((val h8 k1).bind truD) h8) _
            rw [eb1]
            intro ι8 H8 E8 O8
            obtain ⟨eι8, B8⟩ := B7.step nL E8 O8
            have mn8 := mn7.trans E8.toMn
            rcases rest1 with ⟨rfl, y1, ey, rfl⟩ | ⟨rfl, rfl, rfl⟩
            · dsimp only
              rw [if_pos rfl]
              refine ⟨ι8, σ3, h8, s''.mono E8.toMn, O8, ?_⟩
              rw [ey]
              intro ι9 H9 E9 O9 u ru _
              rw [eι8] at E9
              obtain ⟨eι9, B9⟩ := B8.step nL E9 O9
              have mn9 : Mn ι5 H5 ι9 H9 := by
                rw [eι8] at mn8
                exact mn8.trans E9.toMn
              rw [eι9] at ru mn9
              obtain ⟨B10, mn10⟩ := B9.push nL ⟨_, O1⟩ ru
              refine ⟨us6, B9.here, ?_, ?_⟩
              · rw [B9.rr.length, ← lineN_eq]
                have hr : (ds6 ++ y1 :: q2).length ≤ r0.length := by
                  rw [ed6, ← eds]
                  simp only [List.length_append]
                  omega
                simp only [List.length_append, List.length_cons] at hr
                omega
              · exact ⟨xs1.length - (j + 1), by omega, rfl, hjl, ⟨ι9.cs, ι6.ex⟩, h7, us6 ++ [u], ds6 ++ [y1], B10, mn9.trans mn10, q2, eq2, by rw [List.append_assoc]; exact ed6⟩
            · dsimp only
              rw [if_neg (by decide)]
              refine ⟨xs1.length - (j + 1), by omega, rfl, hjl, ⟨ι8.cs, ι6.ex⟩, h7, us6, ds6, B8, ?_, q2, eq2, ed6⟩
              rw [eι8] at mn8
              exact mn8
        · have ej : j = xs1.length := by omega
          subst ej
          rw [List.drop_length] at eq1
          cases eq1
          refine .inl ⟨wk1.stop _ Hi _ mn6 B6.O, xs.length - (i + 1), by omega, rfl, hlt, ι6, _, us6, ds6, B6, r1, er1, ?_⟩
          rw [List.append_nil] at ed6
          rw [ed6, List.append_assoc]
          exact eds
      · dsimp only
        rw [if_neg (by decide)]
        exact ⟨xs.length - (i + 1), by omega, rfl, hlt, ⟨ι4.cs, ι2.ex⟩, h', us, ds, B4, r1, er1, by simpa using eds⟩
  · have e : i = xs.length := by omega
    subst e
    rw [List.drop_length] at er
    cases er
    rw [List.append_nil] at eds
    subst eds
    refine .inl ⟨wk.stop _ Hc _ mn B.O, ?_⟩
    refine fin0 ι2 Hc B.E B.O.out (.ref L) (.lst (.inl B.here) ?_ (Rp.monoAll mn_out _ _ B.rr)) fun es q => by cases q; exact ⟨L, us, rfl, none_of E1.trk nL, B.here, B.O, B.rr⟩
    rintro (l | l)
    · exact B.O.exd L List.mem_cons_self l
    · rw [B.E.exe] at l
      exact O1.fresh nL (.inr l)
end
end J
end JComp2

section JStm
set_option Elab.async false
set_option linter.all false
set_option maxRecDepth 100000
set_option autoImplicit false
set_option maxHeartbeats 4000000
/-! J.Stm: statements. -/
namespace J
open PySem PySem.Spec PyProof.Rows L2
def FinS (W : WX) (K : PySem.W.Frag) (ι : Io) (H : Hp) (r : Rs Fl) (E : Ends) : Prop := match r with
  | .ok (.nx σp') h' => ∀ ι' H' σ', Ext ι H ι' H' → HpOk ι' H' h' → SOk ι' H' σp' σ' → E.nx σ' H'
  | .ok (.rt pv) h' => ∀ ι' H' v, Ext ι H ι' H' → HpOk ι' H' h' → RelPV ι' H' v pv → E.rt v H'
  | .exc c h' => ∀ ι' H' σ', Ext ι H ι' H' → HpOk ι' H' h' → W (.ref (He.ga K (Str.ofString c))) none σ' H'
  | .stuck => False
def TSd (W : WX) (K : PySem.W.Frag) (m : PEnv → PH → Rs Fl) : TS := fun D σ H => ∃ ι σp h, SOk ι H σp σ ∧ HpOk ι H h ∧ FinS W K ι H (m σp h) D
section
variable {P : Program} {w : World} {K : PySem.W.Frag} {mg : Str → Option Value} {base : Heap} {n : Nat} {S : SC} {X : Cx} {W : WX} {e e1 e2 e3 tg : Expr} {fr fr1 fr2 fr3 : Bool} {m m1 m2 m3 : PEnv → PH → Rs PV} {pos p p2 pos' : Pos} {T : String → Option CDef} {Bs Es : List String} {ι ι1 : Io} {H H1 : Hp} {σ : L2.St} {E : Ends}
theorem FinS.rebase {r : Rs Fl} (F : FinS W K ι H r E) (X1 : Ext ι H ι1 H1) : FinS W K ι1 H1 r E := by
  cases r with
  | ok f h' => cases f with
    | nx σ' => exact fun ι' H' σ'' E' O' s' => F ι' H' σ'' (X1.trans E') O' s'
    | rt v => exact fun ι' H' v E' O' r' => F ι' H' v (X1.trans E') O' r'
  | exc c h' => exact fun ι' H' σ' E' O' => F ι' H' σ' (X1.trans E') O'
  | stuck => exact F
/-- first a value, then the rest -/
theorem FinS.bind {α : Type} {r : Rs α} {f : α → PH → Rs Fl} (F : FinS W K ι H (r.bind f) E) (σ : L2.St) : Fin W K ι H σ r fun a h1 ι1 H1 => FinS W K ι1 H1 (f a h1) E := by
  cases r with
  | ok a h1 => exact fun ι1 H1 E1 O1 => FinS.rebase (r := f a h1) F E1
  | exc c h1 => exact fun ι1 H1 E1 O1 => F ι1 H1 σ E1 O1
  | stuck => exact F
/-! ### a name that gives its cell up -/
theorem HpOk.kill {h : PH} {k : Nat} (O : HpOk ι H h) : HpOk ⟨ι.cs.set k none, ι.ex⟩ H (h.set k .dead) ∧ Ext ι H ⟨ι.cs.set k none, ι.ex⟩ H := by
  have back : ∀ (j : Nat) b, (ι.cs.set k none)[j]? = some (some b) → j ≠ k ∧ ι.cs[j]? = some (some b) := fun j b q => by
    by_cases z : k = j
    · subst z
      rw [List.getElem?_set] at q
      simp only [if_true] at q
      split at q <;> cases q
    · rw [List.getElem?_set_ne z] at q
      exact ⟨fun y => z y.symm, q⟩
  have mem : ∀ b, some b ∈ ι.cs.set k none → some b ∈ ι.cs := fun b l => by
    obtain ⟨j, q⟩ := get_of_mem l
    exact List.mem_of_getElem? (back j b q).2
  have mn : Mn ι H ⟨ι.cs.set k none, ι.ex⟩ H := by
    refine ⟨by simp only [List.length_set]; exact Nat.le_refl _, fun j hj => ?_, fun _ _ e _ => e, fun a l nl => absurd (l.imp (mem a) id) nl, fun _ o e => ⟨o, e⟩⟩
    by_cases z : k = j
    · subst z; exact .inl (List.getElem?_set_self hj)
    · exact .inr (List.getElem?_set_ne z)
  refine ⟨⟨by simp only [List.length_set]; exact O.len, fun j a c e1 e2 => ?_, fun j i a q1 q2 => O.nd j i a (back j a q1).2 (back i a q2).2, O.exl, fun a ha l => O.exd a ha (mem a l)⟩, mn, rfl, fun _ _ => rfl⟩
  by_cases z : k = j
  · subst z
    have hl : k < ι.cs.length := by have := (List.getElem?_eq_some_iff.mp e1).1; simpa using this
    simp only [List.getElem?_set_self hl] at e1
    rw [List.getElem?_set_self (by rw [← O.len]; exact hl)] at e2
    cases e1
    cases e2
    trivial
  · simp only [List.getElem?_set_ne z] at e1
    rw [List.getElem?_set_ne z] at e2
    have y := O.cell j a c e1 e2
    cases a with
    | none => cases c <;> exact y
    | some a => cases c with
      | dead => exact y
      | lst ds => obtain ⟨vs, q, r⟩ := y; exact ⟨vs, q, Rp.monoAll mn _ _ r⟩
theorem s_frz (G : Good P w K mg base n S X W) {i : Nat} {x : Str} (h : S.vis i x = true) (Γ : Fns) : PE X (.Name x pos) (TD W K false (ev Γ (.frz i))) := by
  refine PE.imp (G.name h) fun σ H Q ⟨ι, σp, hh, so, O, F⟩ => ?_
  simp only [ev] at F
  split at F
  case h_2 => exact F.elim
  rename_i k q
  split at F
  case h_2 => exact F.elim
  rename_i xs e
  obtain ⟨u, e1, r⟩ := so.get i _ q
  obtain ⟨a, vs, ev, ia, ha, rr⟩ := cell_at O r e
  subst ev
  obtain ⟨O1, E1⟩ := O.kill (k := k)
  refine ⟨.ref a, e1, F _ H E1 O1 (.ref a) ?_ fun z => nomatch z⟩
  refine .lst (.inl ha) ?_ (Rp.monoAll E1.toMn _ _ rr)
  rintro (l | l)
  · obtain ⟨j, q⟩ := get_of_mem l
    by_cases z : k = j
    · subst z
      rw [List.getElem?_set] at q
      simp only [if_true] at q
      split at q <;> cases q
    · simp only [List.getElem?_set_ne z] at q
      exact z (O.nd k j a ia q)
  · exact O.exd a l (List.mem_of_getElem? ia)
/-! ### a new list becomes a cell -/
theorem cell_new {H0 : Hp} {h1 : PH} {v : V} {ds : List D} (E1 : Ext ι H0 ι1 H1) (O1 : HpOk ι1 H1 h1) (nl : NewL H0 ι1 H1 h1 v (.d (.list ds))) :
    ∃ ι2, Ext ι H0 ι2 H1 ∧ HpOk ι2 H1 (h1 ++ [.lst ds]) ∧ RelPV ι2 H1 v (.cell h1.length) := by
  obtain ⟨a, xs, ev, na, ha, O2, rr⟩ := nl ds rfl
  have hlen : ι1.cs.length = h1.length := O1.len
  have live : ∀ b, Live ⟨ι1.cs ++ [some a], ι1.ex⟩ b → Live ⟨ι1.cs, a :: ι1.ex⟩ b := fun b l => by
    rcases l with l | l
    · rcases List.mem_append.mp l with l | l
      · exact .inl l
      · have : b = a := by simpa using l
        subst this
        exact .inr List.mem_cons_self
    · exact .inr (List.mem_cons_of_mem _ l)
  have get : ∀ (j : Nat) b, (ι1.cs ++ [some a])[j]? = some b → (j < ι1.cs.length ∧ ι1.cs[j]? = some b) ∨ (j = ι1.cs.length ∧ b = some a) := fun j b q => by
    by_cases hj : j < ι1.cs.length
    · rw [List.getElem?_append_left hj] at q
      exact .inl ⟨hj, q⟩
    · rw [List.getElem?_append_right (by omega)] at q
      have hz : j - ι1.cs.length = 0 := by
        have := (List.getElem?_eq_some_iff.mp q).1
        simp at this
        omega
      rw [hz] at q
      cases q
      exact .inr ⟨by omega, rfl⟩
  have mn : Mn ⟨ι1.cs, a :: ι1.ex⟩ H1 ⟨ι1.cs ++ [some a], ι1.ex⟩ H1 :=
    ⟨by simp only [List.length_append]; omega, fun j hj => .inr (List.getElem?_append_left hj), fun _ _ e _ => e, fun b l nb => absurd (live b l) nb, fun _ o e => ⟨o, e⟩⟩
  have nac : some a ∉ ι1.cs := O2.exd a List.mem_cons_self
  refine ⟨⟨ι1.cs ++ [some a], ι1.ex⟩, ⟨⟨Nat.le_trans E1.len (by simp only [List.length_append]; omega), fun j hj => ?_, E1.keep, fun b l nb => ?_, E1.trk⟩, E1.exe, E1.exk⟩, ⟨by simp only [List.length_append, hlen]; rfl, fun j b c q1 q2 => ?_, fun j i b q1 q2 => ?_, O1.exl, fun b hb l => ?_⟩, ?_⟩
  · have hj2 : j < ι1.cs.length := Nat.lt_of_lt_of_le hj E1.len
    show (ι1.cs ++ [some a])[j]? = some none ∨ (ι1.cs ++ [some a])[j]? = ι.cs[j]?
    rw [List.getElem?_append_left hj2]
    exact E1.pos j hj
  · rcases live b l with l | l
    · exact E1.new b (.inl l) nb
    · rcases List.mem_cons.mp l with l | l
      · subst l; exact na
      · exact E1.new b (.inr l) nb
  · rcases get j b q1 with ⟨hj, q1⟩ | ⟨hj, rfl⟩
    · rw [List.getElem?_append_left (by rw [← hlen]; exact hj)] at q2
      have z := O2.cell j b c q1 q2
      cases b with
      | none => cases c <;> exact z
      | some b => cases c with
        | dead => exact z
        | lst es => obtain ⟨vs, q, r⟩ := z; exact ⟨vs, q, Rp.monoAll mn _ _ r⟩
    · subst hj
      rw [hlen, List.getElem?_append_right (Nat.le_refl _), Nat.sub_self] at q2
      cases q2
      exact ⟨xs, ha, Rp.monoAll mn _ _ rr⟩
  · rcases get j _ q1 with ⟨hj, q1⟩ | ⟨hj, e1⟩ <;> rcases get i _ q2 with ⟨hi, q2⟩ | ⟨hi, e2⟩
    · exact O1.nd j i b q1 q2
    · cases e2; exact absurd (List.mem_of_getElem? q1) nac
    · cases e1; exact absurd (List.mem_of_getElem? q2) nac
    · omega
  · rcases List.mem_append.mp l with l | l
    · exact O1.exd b hb l
    · have : b = a := by simpa using l
      subst this
      obtain ⟨o, z⟩ := O1.exl b hb
      have hb0 : b ∈ ι.ex := by rw [← E1.exe]; exact hb
      have z0 := E1.exk b hb0
      rw [na, ha] at z0
      cases z0
  · refine ⟨by simp only [List.length_append, hlen]; exact Nat.lt_succ_self _, a, ev, fun b q => ?_⟩
    have : (ι1.cs ++ [some a])[h1.length]? = some (some a) := by rw [← hlen, List.getElem?_append_right (Nat.le_refl _), Nat.sub_self]; rfl
    have q' : (ι1.cs ++ [some a])[h1.length]? = some (some b) := q
    rw [this] at q'
    cases q'
    rfl
/-! ### assignments -/
theorem asg_read {i : Nat} (h : TSd W K (fun σ h => (m1 σ h).bind fun x h1 => .ok (.nx (σ.set i (some x))) h1) E σ H) : TD W K fr m1 σ H fun x H1 => E.nx (σ.set i (some x)) H1 := by
  obtain ⟨ι, σp, hh, so, O, F⟩ := h
  refine ⟨ι, σp, hh, so, O, (F.bind σ).imp ?_⟩
  intro x h1 ι1 H1 E1 O1 F1 v rv _
  exact F1 ι1 H1 _ .refl O1 ((so.mono E1.toMn).set rv)
theorem asgC_read {i : Nat} (h : TSd W K (fun σ h => (m1 σ h).bind fun x h1 => (toCell x h1).bind fun v h2 => .ok (.nx (σ.set i (some v))) h2) E σ H) : TD W K true m1 σ H fun x H1 => E.nx (σ.set i (some x)) H1 := by
  obtain ⟨ι, σp, hh, so, O, F⟩ := h
  refine ⟨ι, σp, hh, so, O, ?_⟩
  cases q : m1 σp hh with
  | stuck => simp only [q, Rs.bind] at F; exact F.elim
  | exc c h1 => simp only [q, Rs.bind] at F; exact fun ι1 H1 E1 O1 => F ι1 H1 σ E1 O1
  | ok x h1 =>
    simp only [q, Rs.bind] at F
    intro ι1 H1 E1 O1 v rv nl
    cases x with
    | cell k => exact F.elim
    | k _ => exact F.elim
    | d y => cases y with
      | list ds =>
        obtain ⟨ι2, E2, O2, r2⟩ := cell_new E1 O1 (nl rfl)
        exact F ι2 H1 _ E2 O2 ((so.mono E2.toMn).set r2)
      | _ => exact F.elim
def isTup : Expr → Bool
  | .Tuple _ _ _ => true
  | _ => false
/-- what stands on the right of a name is no comprehension -/
def notComp : Expr → Bool
  | .ListComp _ _ _ _ => false
  | .SetComp _ _ _ _ => false
  | .DictComp _ _ _ _ _ => false
  | _ => true
theorem noswap {t : Option Expr} {l : Nat} {env : Env} (h : notComp e = true) : swapsWith e t l env = pure false := by
  cases e <;> first | rfl | cases h
theorem noswap1 {t : Expr} {l : Nat} {env : Env} (h : notComp e = true) : swapsWithSole [t] e l env = pure false := by
  cases e <;> first | rfl | cases h
theorem p_asg (G : Good P w K mg base n S X W) {i : Nat} {x : Str} (hx : S.stor i x = true) (h1 : PE X e1 (TD W K fr m1)) (hc : swapsWith e1 (some (.Name x pos')) pos.line X.env = pure false) :
    PS X (.Assign [.Name x pos'] e1 pos) (TSd W K fun σ h => (m1 σ h).bind fun x h1 => .ok (.nx (σ.set i (some x))) h1) := by
  obtain ⟨a, b, c, d⟩ := G.store hx
  exact PS.imp (ps_set a b c h1 hc d) fun D σ H h => asg_read h
theorem p_asgC (G : Good P w K mg base n S X W) {i : Nat} {x : Str} (hx : S.stor i x = true) (h1 : PE X e1 (TD W K true m1)) (hc : swapsWith e1 (some (.Name x pos')) pos.line X.env = pure false) :
    PS X (.Assign [.Name x pos'] e1 pos) (TSd W K fun σ h => (m1 σ h).bind fun x h1 => (toCell x h1).bind fun v h2 => .ok (.nx (σ.set i (some v))) h2) := by
  obtain ⟨a, b, c, d⟩ := G.store hx
  exact PS.imp (ps_set a b c h1 hc d) fun D σ H h => asgC_read h
/-- name = [..], stored by a swap -/
theorem p_asgLc {iter elt : Expr} {ifs : List Expr} {scope : Scope} {own : List (Str × Nat)} {t : Tg} {mi : PEnv → PH → Rs (List D)} {mc me : PEnv → PH → Rs PV} {i : Nat} {y : Str} (G : Good P w K mg base n S X W) (hi : PI X tg iter (TIt W K mi)) (ok : BlkOk X.N X.env.scope scope own)
    (htg : ∀ i ∈ slotsT t, i ∈ own.map (·.2))
    (hg : ∀ (s : Shared) (H : Hp) (C : Addr) (cl : List (Str × Addr)) (fp : List Addr), PG (X.blk s H scope (compEnvC scope cl C X.env) fp) tg (TGd t))
    (ht : ∀ (s : Shared) (H : Hp) (C : Addr) (cl : List (Str × Addr)) (fp : List Addr), PTs (X.blk s H scope (compEnvC scope cl C X.env) fp) ifs (TB W0 K mc))
    (he : ∀ (s : Shared) (H : Hp) (C : Addr) (cl : List (Str × Addr)) (fp : List Addr), PE (X.blk s H scope (compEnvC scope cl C X.env) fp) elt (TD W0 K false me))
    (hs : ∀ x, foldedSetIterable iter X.env x = pure x) (hx : S.stor i y = true) (hl : S.sc.names.lookup y = some .local) (hsw : swapsWith (.ListComp elt [⟨tg, iter, ifs, 0⟩] scope p) (some (.Name y pos')) pos.line X.env = pure true) :
    PS X (.Assign [.Name y pos'] (.ListComp elt [⟨tg, iter, ifs, 0⟩] scope p) pos) (TSd W K fun σ h => ((mi σ h).bind fun xs h1 => if xs.length ≤ lineN then (compL (compF t (own.map (·.2)) mc me σ) xs h1).bind fun r h2 => .ok (.d (.list r)) h2 else .stuck).bind fun x h1 => .ok (.nx (σ.set i (some x))) h1) := by
  obtain ⟨a, b, c, d⟩ := G.store hx
  exact PS.imp (ps_setLc G.calm a b (by rw [G.scope]; exact hl) hsw hi ok hg ht he hs) fun D σ H h => lc_read htg (asg_read h)
theorem s_lc2 {iter elt tg1 iter1 : Expr} {ifs ifs1 : List Expr} {scope : Scope} {own : List (Str × Nat)} {vs1 : List Nat} {t t1 : Tg} {mi mi1 : PEnv → PH → Rs (List D)} {mc mc1 me : PEnv → PH → Rs PV} (G : Good P w K mg base n S X W) (hi : PI X tg iter (TIt W K mi)) (ok : BlkOk X.N X.env.scope scope own) (hv : ∀ i ∈ vs1, i ∈ own.map (·.2))
    (htg : ∀ i ∈ slotsT t, i ∈ own.map (·.2)) (htg1 : ∀ i ∈ slotsT t1, i ∈ vs1)
    (hg : ∀ (s : Shared) (H : Hp) (C : Addr) (cl : List (Str × Addr)) (fp : List Addr), PG (X.blk s H scope (compEnvC scope cl C X.env) fp) tg (TGd t)) (ht : ∀ (s : Shared) (H : Hp) (C : Addr) (cl : List (Str × Addr)) (fp : List Addr), PTs (X.blk s H scope (compEnvC scope cl C X.env) fp) ifs (TB W0 K mc))
    (hi1 : ∀ (s : Shared) (H : Hp) (C : Addr) (cl : List (Str × Addr)) (fp : List Addr), PI (X.blk s H scope (compEnvC scope cl C X.env) fp) tg1 iter1 (TIt W0 K mi1)) (hg1 : ∀ (s : Shared) (H : Hp) (C : Addr) (cl : List (Str × Addr)) (fp : List Addr), PG (X.blk s H scope (compEnvC scope cl C X.env) fp) tg1 (TGd t1))
    (ht1 : ∀ (s : Shared) (H : Hp) (C : Addr) (cl : List (Str × Addr)) (fp : List Addr), PTs (X.blk s H scope (compEnvC scope cl C X.env) fp) ifs1 (TB W0 K mc1)) (he : ∀ (s : Shared) (H : Hp) (C : Addr) (cl : List (Str × Addr)) (fp : List Addr), PE (X.blk s H scope (compEnvC scope cl C X.env) fp) elt (TD W0 K false me))
    (hs : ∀ x, foldedSetIterable iter X.env x = pure x) (hs1 : ∀ env x, foldedSetIterable iter1 env x = pure x) :
    PE X (.ListComp elt [⟨tg, iter, ifs, 0⟩, ⟨tg1, iter1, ifs1, 0⟩] scope pos) (TD W K true fun σ h => ((mi σ h).bind fun xs h1 => (compLL (compF2 t (own.map (·.2)) mc mi1 (fun σ2 => compF t1 vs1 mc1 me σ2) σ) xs h1).bind fun r h2 => if r.length ≤ lineN then .ok (.d (.list r)) h2 else .stuck)) :=
  PE.imp (pe_lc2 G.calm (by rw [G.names]; exact G.nd) hi ok hv hg ht hi1 hg1 ht1 he hs hs1) fun σ H Q h => lc2_read htg htg1 h
theorem p_asgLc2 {iter elt tg1 iter1 : Expr} {ifs ifs1 : List Expr} {scope : Scope} {own : List (Str × Nat)} {vs1 : List Nat} {t t1 : Tg} {mi mi1 : PEnv → PH → Rs (List D)} {mc mc1 me : PEnv → PH → Rs PV} {i : Nat} {y : Str} (G : Good P w K mg base n S X W) (hi : PI X tg iter (TIt W K mi)) (ok : BlkOk X.N X.env.scope scope own) (hv : ∀ i ∈ vs1, i ∈ own.map (·.2))
    (htg : ∀ i ∈ slotsT t, i ∈ own.map (·.2)) (htg1 : ∀ i ∈ slotsT t1, i ∈ vs1)
    (hg : ∀ (s : Shared) (H : Hp) (C : Addr) (cl : List (Str × Addr)) (fp : List Addr), PG (X.blk s H scope (compEnvC scope cl C X.env) fp) tg (TGd t)) (ht : ∀ (s : Shared) (H : Hp) (C : Addr) (cl : List (Str × Addr)) (fp : List Addr), PTs (X.blk s H scope (compEnvC scope cl C X.env) fp) ifs (TB W0 K mc))
    (hi1 : ∀ (s : Shared) (H : Hp) (C : Addr) (cl : List (Str × Addr)) (fp : List Addr), PI (X.blk s H scope (compEnvC scope cl C X.env) fp) tg1 iter1 (TIt W0 K mi1)) (hg1 : ∀ (s : Shared) (H : Hp) (C : Addr) (cl : List (Str × Addr)) (fp : List Addr), PG (X.blk s H scope (compEnvC scope cl C X.env) fp) tg1 (TGd t1))
    (ht1 : ∀ (s : Shared) (H : Hp) (C : Addr) (cl : List (Str × Addr)) (fp : List Addr), PTs (X.blk s H scope (compEnvC scope cl C X.env) fp) ifs1 (TB W0 K mc1)) (he : ∀ (s : Shared) (H : Hp) (C : Addr) (cl : List (Str × Addr)) (fp : List Addr), PE (X.blk s H scope (compEnvC scope cl C X.env) fp) elt (TD W0 K false me))
    (hs : ∀ x, foldedSetIterable iter X.env x = pure x) (hs1 : ∀ env x, foldedSetIterable iter1 env x = pure x) (hx : S.stor i y = true) (hl : S.sc.names.lookup y = some .local) (hsw : swapsWith (.ListComp elt [⟨tg, iter, ifs, 0⟩, ⟨tg1, iter1, ifs1, 0⟩] scope p) (some (.Name y pos')) pos.line X.env = pure true) :
    PS X (.Assign [.Name y pos'] (.ListComp elt [⟨tg, iter, ifs, 0⟩, ⟨tg1, iter1, ifs1, 0⟩] scope p) pos) (TSd W K fun σ h => ((mi σ h).bind fun xs h1 => (compLL (compF2 t (own.map (·.2)) mc mi1 (fun σ2 => compF t1 vs1 mc1 me σ2) σ) xs h1).bind fun r h2 => if r.length ≤ lineN then .ok (.d (.list r)) h2 else .stuck).bind fun x h1 => .ok (.nx (σ.set i (some x))) h1) := by
  obtain ⟨a, b, c, d⟩ := G.store hx
  exact PS.imp (ps_setLc2 G.calm a b (by rw [G.scope]; exact hl) hsw hi ok hv hg ht hi1 hg1 ht1 he hs hs1) fun D σ H h => lc2_read htg htg1 (asg_read h)
/-- a tuple is taken apart -/
theorem p_asgT (G : Good P w K mg base n S X W) {ts : List Tg} {es : List Expr} {k : Nat} (hx : chkTs S es ts = true) (h1 : PE X e1 (TD W K fr m1)) (hc : notComp e1 = true) (hn : isTup e1 = false) :
    PS X (.Assign [.Tuple es k pos'] e1 pos) (TSd W K fun σ h => (m1 σ h).bind fun x h1 => match x with | .d x => (ofO (assignD (.tup ts) x σ) h1).bind fun σ' h2 => .ok (.nx σ') h2 | _ => .stuck) := by
  have hw : swappedStores [.Tuple es k pos'] e1 X.env = pure none := by cases e1 <;> first | rfl | cases hn
  refine PS.imp (ps_asg (unf h1) (g_tg G (.tup ts) (.Tuple es k pos') (by simpa only [chkT] using hx)) (noswap1 hc) hw) fun D σ H ⟨ι, σp, hh, so, O, F⟩ => ⟨ι, σp, hh, so, O, (F.bind σ).imp ?_⟩
  intro x h1 ι1 H1 E1 O1 F1 v rv _
  cases x with
  | cell k => exact F1.elim
  | k _ => exact F1.elim
  | d x =>
    cases q : assignD (.tup ts) x σp with
    | none => simp only [q] at F1; exact F1.elim
    | some σ' =>
      simp only [q] at F1
      exact ⟨ι1, σp, h1, x, σ', rv, so.mono E1.toMn, O1, q, fun σ2 s2 _ => F1 ι1 H1 σ2 .refl O1 s2⟩
/-! ### small statements -/
theorem p_expr (h1 : PE X e1 (TD W K fr m1)) (hc : notComp e1 = true) : PS X (.Expr e1 pos) (TSd W K fun σ h => (m1 σ h).bind fun _ h1 => .ok (.nx σ) h1) := by
  refine PS.imp (ps_expr (unf h1) (noswap hc)) fun D σ H ⟨ι, σp, hh, so, O, F⟩ => ⟨ι, σp, hh, so, O, (F.bind σ).imp ?_⟩
  intro x h1 ι1 H1 E1 O1 F1 v rv _
  exact F1 ι1 H1 σ .refl O1 (so.mono E1.toMn)
theorem p_ret (h1 : PE X e1 (TD W K fr m1)) : PS X (.Return (some e1) pos) (TSd W K fun σ h => (m1 σ h).bind fun x h1 => .ok (.rt x) h1) := by
  refine PS.imp (ps_ret (unf h1)) fun D σ H ⟨ι, σp, hh, so, O, F⟩ => ⟨ι, σp, hh, so, O, (F.bind σ).imp ?_⟩
  intro x h1 ι1 H1 E1 O1 F1 v rv _
  exact F1 ι1 H1 v .refl O1 rv
theorem p_pass : PS X (.Pass pos) (TSd W K fun σ h => .ok (.nx σ) h) := PS.imp ps_pass fun D σ H ⟨ι, σp, hh, so, O, F⟩ => F ι H σ .refl O so
theorem p_aug (G : Good P w K mg base n S X W) {i : Nat} {x : Str} (hx : S.stor i x = true) (h1 : PE X e1 (TD W K fr m1)) :
    PS X (.AugAssign (.Name x pos') .Add e1 pos) (TSd W K fun σ h => match σ[i]? with
      | some (some (.d (.int k))) => (m1 σ h).bind fun x h1 => (match x with
        | .d (.int j) => .ok (.nx (σ.set i (some (.d (.int (k + j)))))) h1
        | _ => .stuck)
      | _ => .stuck) := by
  obtain ⟨a, b, c, d⟩ := G.store hx
  refine PS.imp (ps_aug a b c (unf h1) ip_add d) fun D σ H ⟨ι, σp, hh, so, O, F⟩ => ?_
  dsimp only at F
  split at F
  case h_2 => exact F.elim
  rename_i k q
  obtain ⟨u, eu, ru⟩ := so.get i _ q
  cases ru
  refine ⟨_, eu, ι, σp, hh, so, O, (F.bind σ).imp ?_⟩
  intro x h1 ι1 H1 E1 O1 F1 v rv _
  split at F1
  case h_2 => exact F1.elim
  cases rv
  exact ⟨_, _, rfl, rfl, F1 ι1 H1 _ .refl O1 ((so.mono E1.toMn).set (pv := .d (.int _)) (.int _))⟩
theorem p_app (G : Good P w K mg base n S X W) {i : Nat} {x : Str} {apos : Pos} (hv : S.vis i x = true) (hs : notStar e1 = true) (hl : (apos.endLine == p2.line) = true) (h1 : PE X e1 (TD W K fr1 m1)) :
    PS X (.Expr (.Call (.Attribute (.Name x p) (Str.ofString "append") apos) [e1] [] p2) pos) (TSd W K fun σ h => match σ[i]? with
      | some (some (.cell n)) => if isC h n then (m1 σ h).bind fun x h1 => (appAt n x h1).bind fun _ h2 => .ok (.nx σ) h2 else .stuck
      | _ => .stuck) := by
  refine PS.imp (ps_expr (pe_bm PySem.F.plainAttrs_list PySem.F.slot_list_append PySem.F.type_list_append (mt_append (X := X)) (G.name (pos := p) hv) (pa_cons (unf h1) pa_nil (star_of hs)) rfl (by rw [star_of hs]; rfl) hl (star_of hs)) rfl) fun D σ H ⟨ι, σp, hh, so, O, F⟩ => ?_
  dsimp only at F
  split at F
  case h_2 => exact F.elim
  rename_i k q
  split at F
  case isFalse => exact F.elim
  rename_i c
  obtain ⟨u, eu, ru⟩ := so.get i _ q
  refine ⟨u, eu, isC_ty O ru c, ι, σp, hh, so, O, (F.bind σ).imp ?_⟩
  intro y h1 ι1 H1 E1 O1 F1 v rv nl
  clear nl
  unfold appAt at F1
  split at F1
  case h_2 => exact F1.elim
  rename_i y xs e
  split at F1
  case isFalse => exact F1.elim
  rename_i hlt
  obtain ⟨a, vs, eu, ia, ha, rr⟩ := cell_at O1 (ru.mono E1.toMn) e
  subst eu
  refine ⟨a, vs, v, rfl, rfl, ha, by rw [rr.length, ← lineN_eq]; exact hlt, ?_⟩
  obtain ⟨O2, E2⟩ := O1.put e ia (rr.append (.cons rv .nil))
  exact F1 ι1 _ σ E2 O2 ((so.mono E1.toMn).mono E2.toMn)
theorem p_put (G : Good P w K mg base n S X W) {i : Nat} {x : Str} (hv : S.vis i x = true) (h1 : PE X e1 (TD W K fr1 m1)) (h2 : PE X e2 (TD W K fr2 m2)) (hc : notComp e1 = true)
    (ha : ∀ v, assign (.Subscript (.Name x p) e2 p2) X.env v = (do
      let ov ← holding [v] (eval (.Name x p) X.env)
      let iv ← holding [v, ov] (eval e2 X.env)
      standAt p2
      holding [v, ov, iv] (setItem ov iv v)
      release [v, ov, iv] [])) :
    PS X (.Assign [.Subscript (.Name x p) e2 p2] e1 pos) (TSd W K fun σ h => (m1 σ h).bind fun x h1 => match σ[i]? with
      | some (some (.cell n)) => (m2 σ h1).bind fun j h2 => (putAt n j x h2).bind fun _ h3 => .ok (.nx σ) h3
      | _ => .stuck) := by
  refine PS.imp (ps_asg (unf h1) (pg_sub (G.name (pos := p) hv) (unf h2) set_list ha) (noswap1 hc) (by cases e1 <;> rfl)) fun D σ H ⟨ι, σp, hh, so, O, F⟩ => ⟨ι, σp, hh, so, O, (F.bind σ).imp ?_⟩
  intro y h1 ι1 H1 E1 O1 F1 v rv nl0
  clear nl0
  have so1 := so.mono E1.toMn
  split at F1
  case h_2 => exact F1.elim
  rename_i k q
  obtain ⟨u, eu, ru⟩ := so1.get i _ q
  refine ⟨u, eu, ι1, σp, h1, so1, O1, (F1.bind σ).imp ?_⟩
  intro j h2 ι2 H2 E2 O2 F2 z rz nl
  clear nl
  unfold putAt at F2
  split at F2
  case h_2 => exact F2.elim
  rename_i y j xs e
  split at F2
  case h_2 => exact F2.elim
  rename_i jj ej
  obtain ⟨a, vs, eu, ia, ha, rr⟩ := cell_at O2 (ru.mono E2.toMn) e
  subst eu
  cases rz
  refine ⟨a, vs, j, jj, rfl, rfl, ha, by rw [rr.length]; exact ej, ?_⟩
  obtain ⟨O3, E3⟩ := O2.put e ia (rr.set (Rp.mono E2.toMn _ _ rv) jj)
  exact F2 ι2 _ σ E3 O3 ((so1.mono E2.toMn).mono E3.toMn)
/-! ### blocks, if -/
theorem b_nil : PSs X [] (TSd W K fun σ h => .ok (.nx σ) h) := PSs.imp pss_nil fun D σ H ⟨ι, σp, hh, so, O, F⟩ => F ι H σ .refl O so
theorem b_cons {st : Stmt} {rest : List Stmt} {ms mr : PEnv → PH → Rs Fl} (h1 : PS X st (TSd W K ms)) (h2 : PSs X rest (TSd W K mr)) : PSs X (st :: rest) (TSd W K fun σ h => (ms σ h).bind fun r h1 => match r with | .nx σ' => mr σ' h1 | .rt v => .ok (.rt v) h1) := by
  refine PSs.imp (pss_cons h1 h2) fun D σ H ⟨ι, σp, hh, so, O, F⟩ => ⟨ι, σp, hh, so, O, ?_⟩
  cases q : ms σp hh with
  | stuck => simp only [q, Rs.bind] at F; exact F.elim
  | exc c h1 => simp only [q, Rs.bind] at F; exact F
  | ok f h1 =>
    simp only [q, Rs.bind] at F
    cases f with
    | nx σ' => exact fun ι1 H1 σ1 E1 O1 s1 => ⟨ι1, σ', h1, s1, O1, F.rebase E1⟩
    | rt v => exact F
theorem p_ite {a b : List Stmt} {ma mb : PEnv → PH → Rs Fl} (hc : PT X e1 (TB W K m1)) (ha : PSs X a (TSd W K ma)) (hb : PSs X b (TSd W K mb)) :
    PS X (.If e1 a b pos) (TSd W K fun σ h => (m1 σ h).bind fun x h1 => (ofO ((val h1 x).bind truD) h1).bind fun k h2 => match k with | true => ma σ h2 | false => mb σ h2) := by
  refine PS.imp (ps_if hc ha hb) fun D σ H ⟨ι, σp, hh, so, O, F⟩ => ⟨ι, σp, hh, so, O, ?_⟩
  have F1 : FinS W K ι H (((m1 σp hh).bind fun x h1 => ofO ((val h1 x).bind truD) h1).bind fun k h2 => match k with | true => ma σp h2 | false => mb σp h2) D := by
    dsimp only at F
    cases q : m1 σp hh with
    | stuck => rw [q] at F; exact F.elim
    | exc c h1 => rw [q] at F; exact F
    | ok x h1 => rw [q] at F; exact F
  refine (F1.bind σ).imp ?_
  intro k h1 ι1 H1 E1 O1 F2
  cases k with
  | true => rw [if_pos rfl]; exact ⟨ι1, σp, h1, so.mono E1.toMn, O1, F2⟩
  | false => rw [if_neg (by decide)]; exact ⟨ι1, σp, h1, so.mono E1.toMn, O1, F2⟩
end
end J
end JStm

section JStm2
set_option Elab.async false
set_option linter.all false
set_option maxRecDepth 100000
set_option autoImplicit false
set_option maxHeartbeats 4000000
/-! J.Stm2: loops, raise, try, parallel stores. -/
namespace J
open PySem PySem.Spec PyProof.Rows L2
section
variable {P : Program} {w : World} {K : PySem.W.Frag} {mg : Str → Option Value} {base : Heap} {n : Nat} {S : SC} {X : Cx} {W : WX} {e e1 e2 e3 tg iter : Expr} {fr fr1 fr2 fr3 : Bool} {m m1 m2 m3 : PEnv → PH → Rs PV} {pos p p2 pos' : Pos} {T : String → Option CDef} {Bs Es : List String} {ι ι1 : Io} {H H1 : Hp} {σ : L2.St} {E : Ends}
theorem p_for (G : Good P w K mg base n S X W) (Po : PassesOwn (model X.prog X.w) X.A X.env X.xe) {t : Tg} {b : List Stmt} {mi : PEnv → PH → Rs (List D)} {mb : PEnv → PH → Rs Fl} (hi : PI X tg iter (TIt W K mi)) (hg : PG X tg (TGd t)) (hb : PSs X b (TSd W K mb)) (hs : ∀ x, foldedSetIterable iter X.env x = pure x) :
    PS X (.For tg iter b [] pos) (TSd W K fun σ h => (mi σ h).bind fun xs h1 => forL (fun x σ h => (ofO (assignD t x σ) h).bind fun σ' h => mb σ' h) xs σ h1) := by
  refine PS.imp (ps_for Po G.calm hi hg hb hs) fun D σ H ⟨ι, σp, hh, so, O, F⟩ => ⟨ι, σp, hh, so, O, (F.bind σ).imp ?_⟩
  intro xs h1 ι1 H1 E1 O1 F1 J wk
  refine ⟨fun i m σ' H' => m = xs.length - i ∧ i ≤ xs.length ∧ ∃ ι2 σp2 h2, Mn ι1 H1 ι2 H' ∧ HpOk ι2 H' h2 ∧ SOk ι2 H' σp2 σ' ∧ FinS W K ι2 H' (forL (fun x σ h => (ofO (assignD t x σ) h).bind fun σ' h => mb σ' h) (xs.drop i) σp2 h2) D, ⟨_, rfl, Nat.zero_le _, ι1, σp, h1, .refl, O1, so.mono E1.toMn, by simpa using F1⟩, ?_⟩
  rintro i m σ' H' ⟨rfl, hi, ι2, σp2, h2, mn, O2, s2, F2⟩
  by_cases hlt : i < xs.length
  · refine .inr ⟨wk.go i ι2 H' h2 hlt mn O2, fun σ3 H3 => ∃ m', m' < xs.length - i ∧ (m' = xs.length - (i + 1) ∧ i + 1 ≤ xs.length ∧ ∃ ι2 σp2 h2, Mn ι1 H1 ι2 H3 ∧ HpOk ι2 H3 h2 ∧ SOk ι2 H3 σp2 σ3 ∧ FinS W K ι2 H3 (forL (fun x σ h => (ofO (assignD t x σ) h).bind fun σ' h => mb σ' h) (xs.drop (i + 1)) σp2 h2) D), fun σ3 H3 z => z, fun v H3 y => ?_⟩
    obtain ⟨gr, x, ex, rx⟩ := wk.yld i ι2 H' h2 v H3 hlt mn O2 y
    have hdrop : xs.drop i = x :: xs.drop (i + 1) := by
      rw [List.drop_eq_getElem_cons hlt]
      rw [List.getElem?_eq_getElem hlt] at ex
      cases ex
      rfl
    rw [hdrop] at F2
    have O3 := O2.grow gr
    have F3 := F2.rebase (Ext.grow O2 gr)
    simp only [forL] at F3
    cases ea : assignD t x σp2 with
    | none => rw [ea] at F3; exact F3.elim
    | some σ4 =>
      rw [ea] at F3
      refine ⟨ι2, σp2, h2, x, σ4, rx, s2.mono (Mn.grow gr), O3, ea, fun σ5 s5 _ => ⟨ι2, σ4, h2, s5, O3, ?_⟩⟩
      have F4 : FinS W K ι2 H3 ((mb σ4 h2).bind fun r h1 => match r with | .nx σ' => forL (fun x σ h => (ofO (assignD t x σ) h).bind fun σ' h => mb σ' h) (xs.drop (i + 1)) σ' h1 | .rt v => .ok (.rt v) h1) D := F3
      cases q : mb σ4 h2 with
      | stuck => rw [q] at F4; exact F4.elim
      | exc c h5 => rw [q] at F4; exact F4
      | ok f h5 =>
        rw [q] at F4
        cases f with
        | nx σ6 =>
          intro ι7 H7 σ7 E7 O7 s7
          exact ⟨_, by omega, rfl, hlt, ι7, σ6, h5, (mn.trans (Mn.grow gr)).trans E7.toMn, O7, s7, FinS.rebase (r := forL _ _ _ _) F4 E7⟩
        | rt v => exact F4
  · have e : i = xs.length := by omega
    subst e
    rw [List.drop_length] at F2
    exact .inl ⟨wk.stop ι2 H' h2 mn O2, F2 ι2 H' σ' .refl O2 s2⟩
theorem p_whl (Po : PassesOwn (model X.prog X.w) X.A X.env X.xe) {b : List Stmt} {mb : PEnv → PH → Rs Fl} (hc : PT X e1 (TB W K m1)) (hb : PSs X b (TSd W K mb)) :
    PS X (.While e1 b [] pos) (TSd W K fun σ h => whlL (fun σ h => (m1 σ h).bind fun x h1 => ofO ((val h1 x).bind truD) h1) (fun σ h => mb σ h) whlMost σ h) := by
  refine PS.imp (ps_while Po hc hb) fun D σ H ⟨ι, σp, hh, so, O, F⟩ => ?_
  refine ⟨fun k σ H => ∃ ι σp h, SOk ι H σp σ ∧ HpOk ι H h ∧ FinS W K ι H (whlL (fun σ h => (m1 σ h).bind fun x h1 => ofO ((val h1 x).bind truD) h1) (fun σ h => mb σ h) k σp h) D, ⟨whlMost, ι, σp, hh, so, O, F⟩, ?_⟩
  rintro k σ H ⟨ι, σp, hh, so, O, F⟩
  cases k with
  | zero => exact F.elim
  | succ k =>
    simp only [whlL] at F
    refine ⟨ι, σp, hh, so, O, (F.bind σ).imp ?_⟩
    intro b h1 ι1 H1 E1 O1 F1
    cases b with
    | false => rw [if_neg (by decide)]; exact F1 ι1 H1 σ .refl O1 (so.mono E1.toMn)
    | true =>
      rw [if_pos rfl]
      refine ⟨fun σ' H' => ∃ ι σp h, SOk ι H' σp σ' ∧ HpOk ι H' h ∧ FinS W K ι H' (whlL (fun σ h => (m1 σ h).bind fun x h1 => ofO ((val h1 x).bind truD) h1) (fun σ h => mb σ h) k σp h) D, fun σ' H' z => ⟨k, Nat.lt_succ_self _, z⟩, ι1, σp, h1, so.mono E1.toMn, O1, ?_⟩
      have F2 : FinS W K ι1 H1 ((mb σp h1).bind fun r h2 => match r with | .nx σ' => whlL (fun σ h => (m1 σ h).bind fun x h1 => ofO ((val h1 x).bind truD) h1) (fun σ h => mb σ h) k σ' h2 | .rt v => .ok (.rt v) h2) D := F1
      cases q : mb σp h1 with
      | stuck => rw [q] at F2; exact F2.elim
      | exc c h5 => rw [q] at F2; exact F2
      | ok f h5 =>
        rw [q] at F2
        cases f with
        | nx σ6 => exact fun ι7 H7 σ7 E7 O7 s7 => ⟨ι7, σ6, h5, s7, O7, FinS.rebase (r := whlL _ _ _ _ _) F2 E7⟩
        | rt v => exact F2
/-! ### raise, try -/
theorem p_raise (G : Good P w K mg base n S X W) (PG : Pg P w K mg base T Bs Es n) {c : String} (hc : c ∈ Es) (hg : S.glb (Str.ofString c) = true) :
    PS X (.Raise (some (.Call (.Name (Str.ofString c) p) [] [] p2)) none pos) (TSd W K fun _ h => .exc c h) := by
  obtain ⟨a1, a2, a3, a4, a5⟩ := PG.exc c hc
  obtain ⟨g1, g2, g3⟩ := G.gl hg
  have k1 := G.frag
  have k2 := G.glob
  refine PS.imp (ps_raise G.calm G.takes (pmk_own0 PySem.F.excBase_ValueError (by rw [k1]; exact a2) (by rw [k2]; exact a1) (by rw [k1]; exact a3) (raises_own (by rw [k1]; exact a4) (by rw [k1]; exact a5)) g1 g2)) fun D σ H ⟨ι, σp, hh, so, O, F⟩ => F ι H σ .refl O
theorem Good.tr (G : Good P w K mg base n S X W) {W' : WX} {pn : List (Addr × Obj)} {xe : Value → Shared → Prop} (tk : Takes (X.tr pn xe) W') : Good P w K mg base n S (X.tr pn xe) W' :=
  ⟨G.prog, G.world, G.frag, G.glob, G.bas, G.names, G.nd, G.scope, G.kind, G.st, G.calm, G.room, tk⟩
/-- the clauses: each returns a text -/
inductive Hds (S : SC) (Es : List String) : List ExceptHandler → List (String × String) → Prop
  | nil : Hds S Es [] []
  | cons {x s : String} {np rp cp pos : Pos} {j : Nat} {hds : List ExceptHandler} {l : List (String × String)} (hx : x ∈ Es) (hg : S.glb (Str.ofString x) = true) (r : Hds S Es hds l) :
    Hds S Es (.ExceptHandler (some (.Name (Str.ofString x) np)) none [.Return (some (.Constant (.str (Str.ofString s)) j cp)) rp] pos :: hds) ((x, s) :: l)
def hdL (K : PySem.W.Frag) (l : List (String × String)) : List (Value × (Addr → Value → Option Addr → TS)) := l.map fun q => (.ref (He.ga K (Str.ofString q.1)), fun _ _ _ => tRet (tC (.str (Str.ofString q.2))))
theorem Hds.ok (G : Good P w K mg base n S X W) (PG : Pg P w K mg base T Bs Es n) {hds : List ExceptHandler} {l : List (String × String)} (h : Hds S Es hds l) : HdsOk X hds (hdL K l) := by
  induction h with
  | nil => exact .nil
  | cons hx hg r ih =>
    obtain ⟨g1, g2, g3⟩ := G.gl hg
    obtain ⟨a1, _⟩ := PG.exc _ hx
    exact .cons ⟨g1, g2, .inl (by rw [G.glob]; exact a1)⟩ (fun a oe cls d pn _ _ => pss_one (ps_ret pe_str)) ih
theorem wMany_hit {Wout : WX} {D : Ends} (PG : Pg P w K mg base T Bs Es n) {c : String} {s : String} {σ : L2.St} {H : Hp} : ∀ {l : List (String × String)}, (∀ q ∈ l, q.1 ∈ Es) → l.lookup c = some s → D.rt (.str (Str.ofString s)) H → wMany K Wout D (hdL K l) (.ref (He.ga K (Str.ofString c))) none σ H
  | [], _, h, _ => by cases h
  | (x, t) :: l, hE, h, k => by
    simp only [List.lookup_cons] at h
    have hx : x ∈ Es := hE (x, t) List.mem_cons_self
    by_cases e : c = x
    · subst e
      simp only [beq_self_eq_true] at h
      cases h
      exact ⟨true, by rw [PG.exm c hx c hx, beq_self_eq_true], fun _ a ha => k, fun z => nomatch z⟩
    · have e' : (c == x) = false := beq_eq_false_iff_ne.mpr e
      rw [e'] at h
      have hc : c ∈ Es := by
        have : ∀ {l : List (String × String)}, l.lookup c = some s → ∃ q ∈ l, q.1 = c := fun {l} => by
          induction l with
          | nil => intro z; cases z
          | cons q l ih =>
            intro z
            obtain ⟨x, t⟩ := q
            simp only [List.lookup_cons] at z
            split at z
            · rename_i y; exact ⟨(x, t), List.mem_cons_self, (eq_of_beq y).symm⟩
            · obtain ⟨q', h1, h2⟩ := ih z; exact ⟨q', List.mem_cons_of_mem _ h1, h2⟩
        obtain ⟨q, h1, h2⟩ := this h
        have := hE q (List.mem_cons_of_mem _ h1)
        rw [h2] at this
        exact this
      exact ⟨false, by rw [PG.exm c hc x hx, e'], (fun z => nomatch z), fun _ => wMany_hit PG (fun q hq => hE q (List.mem_cons_of_mem _ hq)) h k⟩
theorem p_try (G : Good P w K mg base n S X W) (PG : Pg P w K mg base T Bs Es n) (hs : X.stack = X.env :: X.outer) (hf : X.env.frame = some X.env.locals) {h0 : ExceptHandler} {hds : List ExceptHandler} {l : List (String × String)}
    (hb : ∀ (W' : WX) (pn : List (Addr × Obj)) (xe : Value → Shared → Prop), Takes (X.tr pn xe) W' → PE (X.tr pn xe) e1 (TD W' K fr m1)) (hl : ∀ q ∈ l, q.1 ∈ Es) (hh : Hds S Es (h0 :: hds) l) :
    PS X (.Try [.Return (some e1) p] (h0 :: hds) [] [] pos) (TSd W K fun σ h => match m1 σ h with
      | .ok x h1 => .ok (.rt x) h1
      | .exc c h1 => (match (l.map fun q => (q.1, Lit.str q.2)).lookup c with
        | some l => .ok (.rt (.d l.dat)) h1
        | none => .stuck)
      | .stuck => .stuck) := by
  refine PS.imp (ps_try_many (Wout := W) (tb := fun W' => TSd W' K fun σ h => (m1 σ h).bind fun x h1 => .ok (.rt x) h1) hs hf G.takes (fun W' pn xe tk _ => pss_one (p_ret (hb W' pn xe tk))) (hh.ok G PG)) fun D σ H ⟨ι, σp, hhp, so, O, F⟩ => ⟨ι, σp, hhp, so, O, ?_⟩
  dsimp only at F
  show FinS _ K ι H ((m1 σp hhp).bind fun x h1 => .ok (.rt x) h1) D
  cases q : m1 σp hhp with
  | stuck => rw [q] at F; exact F.elim
  | ok x h1 => rw [q] at F; exact F
  | exc c h1 =>
    rw [q] at F
    intro ι' H' σ' E' O'
    dsimp only at F
    split at F
    case h_2 => exact F.elim
    rename_i lt el
    have key : ∀ {l : List (String × String)}, (l.map fun q => (q.1, Lit.str q.2)).lookup c = some lt → ∃ s, l.lookup c = some s ∧ lt = .str s := fun {l} => by
      induction l with
      | nil => intro z; cases z
      | cons q l ih =>
        intro z
        obtain ⟨x, t⟩ := q
        simp only [List.map_cons, List.lookup_cons] at z ⊢
        cases y : c == x with
        | true => rw [y] at z; cases z; exact ⟨t, rfl, rfl⟩
        | false => rw [y] at z; exact ih z
    obtain ⟨s, es, rfl⟩ := key el
    have k1 := G.frag
    rw [k1]
    exact wMany_hit PG hl es (F ι' H' (.str (Str.ofString s)) E' O' (.str _))
end
end J
end JStm2

section JPar
set_option Elab.async false
set_option linter.all false
set_option maxRecDepth 100000
set_option autoImplicit false
set_option maxHeartbeats 4000000
/-! J.Par: a, b = x, y. -/
namespace J
open PySem PySem.Spec PyProof.Rows L2
/-- which plain local names stand on the left, on one line -/
def swN (sc : Scope) (ts : List Expr) : List Str :=
  let line := (ts.head?.map (·.pos.line)).getD 0
  ts.filterMap fun
    | .Name id pos => if sc.names.lookup id == some .local && pos.line == line then some id else none
    | _ => none
/-- the stores go by the tuple -/
def swNo (sc : Scope) (ts vs : List Expr) : Bool := (!(ts.length == 2 || ts.length == 3) || vs.length != ts.length) || (allPlain vs && ((swN sc ts).length != ts.length || vs.all (foldedForSure 8)))
/-- the stores are swapped -/
def swYes (sc : Scope) (ts vs : List Expr) : Bool := !(!(ts.length == 2 || ts.length == 3) || vs.length != ts.length) && (allPlain vs && (!((swN sc ts).length != ts.length || (swN sc ts).eraseDups.length != (swN sc ts).length) && (!vs.all (foldedForSure 8) && !vs.all (constantsAlone 8))))
theorem anyStar : ∀ {vs : List Expr}, allPlain vs = true → (vs.any fun | .Starred .. => true | _ => false) = false
  | [], _ => rfl
  | e :: es, h => by
    obtain ⟨h1, h2⟩ := ba h
    rw [List.any_cons, anyStar h2]
    cases e <;> first | rfl | cases h1
theorem blk_fn {env : Env} (hk : env.scope.kind = .function) : (env.blockKind != .function) = false := by
  unfold Env.blockKind
  rw [hk]
  rfl
theorem sw_none {env : Env} {ts vs : List Expr} {k k2 : Nat} {p p2 : Pos} (hk : env.scope.kind = .function) (h : swNo env.scope ts vs = true) : swappedStores [.Tuple ts k p] (.Tuple vs k2 p2) env = pure none := by
  unfold swappedStores
  show (if (!(ts.length == 2 || ts.length == 3) || vs.length != ts.length || env.blockKind != .function) = true then pure none else if (vs.any fun | .Starred .. => true | _ => false) = true then pure none else
    if ((swN env.scope ts).length != ts.length || (swN env.scope ts).eraseDups.length != (swN env.scope ts).length) = true then pure none else if vs.all (foldedForSure 8) = true then pure none else _) = pure none
  unfold swNo at h
  by_cases c : (!(ts.length == 2 || ts.length == 3) || vs.length != ts.length) = true
  · rw [if_pos (by rw [c, Bool.true_or])]
  · have c' : (!(ts.length == 2 || ts.length == 3) || vs.length != ts.length) = false := by simpa using c
    rw [c', Bool.false_or] at h
    obtain ⟨h1, h2⟩ := ba h
    rw [if_neg (by rw [c', blk_fn hk]; decide), if_neg (by rw [anyStar h1]; decide)]
    by_cases d : ((swN env.scope ts).length != ts.length || (swN env.scope ts).eraseDups.length != (swN env.scope ts).length) = true
    · rw [if_pos d]
    · rw [if_neg d]
      have d1 : ((swN env.scope ts).length != ts.length) = false := by
        cases z : ((swN env.scope ts).length != ts.length) with
        | false => rfl
        | true => rw [z, Bool.true_or] at d; exact absurd rfl d
      rw [d1, Bool.false_or] at h2
      rw [if_pos h2]
theorem sw_some {env : Env} {ts vs : List Expr} {k k2 : Nat} {p p2 : Pos} (hk : env.scope.kind = .function) (h : swYes env.scope ts vs = true) : swappedStores [.Tuple ts k p] (.Tuple vs k2 p2) env = pure (some (swN env.scope ts)) := by
  unfold swappedStores
  show (if (!(ts.length == 2 || ts.length == 3) || vs.length != ts.length || env.blockKind != .function) = true then pure none else if (vs.any fun | .Starred .. => true | _ => false) = true then pure none else
    if ((swN env.scope ts).length != ts.length || (swN env.scope ts).eraseDups.length != (swN env.scope ts).length) = true then pure none else if vs.all (foldedForSure 8) = true then pure none else if vs.all (constantsAlone 8) = true then _ else pure (some (swN env.scope ts))) = _
  unfold swYes at h
  obtain ⟨h1, h⟩ := ba h
  obtain ⟨h2, h⟩ := ba h
  obtain ⟨h3, h⟩ := ba h
  obtain ⟨h4, h5⟩ := ba h
  rw [if_neg (by rw [nt h1, blk_fn hk]; decide), if_neg (by rw [anyStar h2]; decide), if_neg (by rw [nt h3]; decide), if_neg (by rw [nt h4]; decide), if_neg (by rw [nt h5]; decide)]
section
variable {P : Program} {w : World} {K : PySem.W.Frag} {mg : Str → Option Value} {base : Heap} {n : Nat} {S : SC} {X : Cx} {W : WX} {e e1 e2 e3 tg iter : Expr} {fr fr1 fr2 fr3 : Bool} {m m1 m2 m3 : PEnv → PH → Rs PV} {pos p p2 pos' : Pos} {T : String → Option CDef} {Bs Es : List String} {ι ι1 : Io} {H H1 : Hp} {σ : L2.St} {E : Ends}
theorem a_consC {es : List Expr} {ma : PEnv → PH → Rs (List PV)} (h1 : PE X e1 (TD W K true m1)) (h2 : PA X es (TAa W K ma)) (hs : notStar e1 = true) :
    PA X (e1 :: es) (TAa W K fun σ h => (m1 σ h).bind fun x h1 => (toCell x h1).bind fun x h1 => (ma σ h1).bind fun xs h2 => .ok (x :: xs) h2) := by
  refine PA.imp (pa_cons h1 h2 (star_of hs)) fun σ H Q ⟨ι, σp, hh, so, O, F⟩ => ?_
  refine ⟨ι, σp, hh, so, O, ?_⟩
  cases q : m1 σp hh with
  | stuck => simp only [q, Rs.bind] at F; exact F.elim
  | exc c h1 => simp only [q, Rs.bind] at F; exact F
  | ok x h1 =>
    simp only [q, Rs.bind] at F
    intro ι1 H1 E1 O1 v rv nl
    cases x with
    | cell k => exact F.elim
    | k _ => exact F.elim
    | d y => cases y with
      | list ds =>
        obtain ⟨ι2, E2, O2, r2⟩ := cell_new E1 O1 (nl rfl)
        refine ⟨ι2, σp, _, so.mono E2.toMn, O2, ?_⟩
        have F1 : Fin W K ι H σ ((ma σp (h1 ++ [.lst ds])).bind fun xs h2 => .ok (PV.cell h1.length :: xs) h2) fun pvs _ ι' H' => ∀ vs, Paired (RelPV ι' H') vs pvs → Q vs H' := F
        have F2 := Fin.bind (r := .ok () (h1 ++ [.lst ds])) (f := fun _ _ => (ma σp (h1 ++ [.lst ds])).bind fun xs h2 => .ok (PV.cell h1.length :: xs) h2) F1 ι2 H1 E2 O2
        refine F2.bind.imp ?_
        intro xs h2 ι3 H3 E3 O3 F3 vs rvs
        exact F3 ι3 H3 .refl O3 (v :: vs) (.cons (r2.mono E3.toMn) rvs)
      | _ => exact F.elim
/-- names on the left -/
def chkNs (S : SC) : List Expr → List (Nat × Bool) → Bool
  | [], [] => true
  | .Name x _ :: es, (i, _) :: is => S.stor i x && chkNs S es is
  | _, _ => false
def setV : List (Nat × Bool) → List V → L2.St → L2.St
  | (i, _) :: is, v :: vs, σ => setV is vs (σ.set i (some v))
  | _, _, σ => σ
theorem SOk.par : ∀ {is : List (Nat × Bool)} {vs : List V} {pvs : List PV} {σp : PEnv} {σ : L2.St}, SOk ι H σp σ → Paired (RelPV ι H) vs pvs → SOk ι H (parSet is pvs σp) (setV is vs σ)
  | [], _, _, _, _, s, _ => by simpa only [parSet, setV] using s
  | _ :: _, _, _, _, _, s, .nil => by simpa only [parSet, setV] using s
  | (i, _) :: is, _, _, _, _, s, .cons r rr => by simp only [parSet, setV]; exact SOk.par (s.set r) rr
def gNms (is : List (Nat × Bool)) : TGs := fun vs σ H Q => vs.length = is.length ∧ Q (setV is vs σ) H
theorem g_nms (G : Good P w K mg base n S X W) : ∀ {es : List Expr} {is : List (Nat × Bool)}, chkNs S es is = true → PGs X es (gNms is) ∧ (assignEach es X.env).length = is.length ∧ (assignEach es X.env).findIdx? (·.1) = none
  | [], [], _ => by
    refine ⟨PGs.imp pgs_nil fun vs σ H Q ⟨hl, q⟩ => ?_, rfl, rfl⟩
    cases vs with
    | nil => exact ⟨rfl, q⟩
    | cons _ _ => cases hl
  | [], _ :: _, h => by simp [chkNs] at h
  | _ :: _, [], h => by simp [chkNs] at h
  | e :: es, (i, b) :: is, h => by
    cases e with
    | Name x pos =>
      simp only [chkNs] at h
      obtain ⟨h1, h2⟩ := ba h
      obtain ⟨i1, i2, i3⟩ := g_nms G h2
      obtain ⟨a, b, c, d⟩ := G.store h1
      refine ⟨PGs.imp (pgs_cons (pg_name a b c d) i1 rfl) fun vs σ H Q ⟨hl, q⟩ => ?_, ?_, ?_⟩
      · cases vs with
        | nil => cases hl
        | cons v vs => exact ⟨v, vs, rfl, Nat.succ.inj hl, q⟩
      · rw [asg_star rfl]; simp only [List.length_cons, i2]
      · rw [asg_star rfl, List.findIdx?_cons]
        simp only [i3, Option.map_none]
        rfl
    | _ => simp [chkNs] at h
theorem p_par (G : Good P w K mg base n S X W) {is : List (Nat × Bool)} {ts vs : List Expr} {k k2 : Nat} {ma : PEnv → PH → Rs (List PV)} (hn : chkNs S ts is = true) (hw : swNo S.sc ts vs = true) (hsz : is.length ≤ 1000) (ha : PA X vs (TAa W K ma)) (hl : ∀ σ h pvs h', ma σ h = .ok pvs h' → pvs.length = is.length) :
    PS X (.Assign [.Tuple ts k pos'] (.Tuple vs k2 p2) pos) (TSd W K fun σ h => (ma σ h).bind fun vs h1 => .ok (.nx (parSet is vs σ)) h1) := by
  obtain ⟨g1, g2, g3⟩ := g_nms G hn
  refine PS.imp (ps_asg (pe_tup ha) (pg_tup G.calm g1 g2 g3) rfl (sw_none (by rw [G.scope]; exact G.kind) (by rw [G.scope]; exact hw)) rfl) fun D σ H ⟨ι, σp, hh, so, O, F⟩ => ⟨ι, σp, hh, so, O, ?_⟩
  cases q : ma σp hh with
  | stuck => simp only [q, Rs.bind] at F; exact F.elim
  | exc c h1 => simp only [q, Rs.bind] at F; exact fun ι1 H1 E1 O1 => F ι1 H1 σ E1 O1
  | ok pvs h1 =>
    simp only [q, Rs.bind] at F
    have hlen := hl _ _ _ _ q
    intro ι1 H1 E1 O1 vs rvs
    have lv : vs.length = is.length := (paired_len rvs).trans hlen
    refine ⟨by rw [lv, sizeLine_eq]; omega, fun p np => ⟨p, vs, rfl, SqT.of upd_same, lv, lv, ?_⟩⟩
    have gr := grow_upd (o := .tup vs) np
    have E2 := E1.trans (Ext.grow O1 gr)
    refine F ι1 _ _ E2 (O1.grow gr) (SOk.par (so.mono E2.toMn) ?_)
    exact Paired.mapP rvs fun _ _ r => r.mono (Mn.grow gr)
theorem p_par2 (G : Good P w K mg base n S X W) {i j : Nat} {bi bj : Bool} {x y : Str} {px py : Pos} {k k2 : Nat} {ma : PEnv → PH → Rs (List PV)} (hx : S.stor i x = true) (hy : S.stor j y = true) (hw : swYes S.sc [.Name x px, .Name y py] ([e1, e2] : List Expr) = true) (n1 : swN S.sc [.Name x px, .Name y py] = [x, y]) (n2 : S.sc.names.lookup x = some .local) (n3 : S.sc.names.lookup y = some .local) (n4 : x ≠ y) (ha : PA X [e1, e2] (TAa W K ma)) (hl : ∀ σ h pvs h', ma σ h = .ok pvs h' → pvs.length = 2) :
    PS X (.Assign [.Tuple [.Name x px, .Name y py] k pos'] (.Tuple [e1, e2] k2 p2) pos) (TSd W K fun σ h => (ma σ h).bind fun vs h1 => .ok (.nx (parSet [(i, bi), (j, bj)] vs σ)) h1) := by
  obtain ⟨a, b, c, d⟩ := G.store hx
  obtain ⟨a', b', c', d'⟩ := G.store hy
  have hsw := sw_some (env := X.env) (k := k) (k2 := k2) (p := pos') (p2 := p2) (by rw [G.scope]; exact G.kind) (by rw [G.scope]; exact hw)
  rw [G.scope, n1] at hsw
  refine PS.imp (ps_par G.calm a b b' (fun z => n4 (by rw [z, b'] at b; exact (Option.some.inj b).symm)) (by rw [G.scope]; exact n2) (by rw [G.scope]; exact n3) ha hsw) fun D σ H ⟨ι, σp, hh, so, O, F⟩ => ⟨ι, σp, hh, so, O, ?_⟩
  cases q : ma σp hh with
  | stuck => simp only [q, Rs.bind] at F; exact F.elim
  | exc c h1 => simp only [q, Rs.bind] at F; exact fun ι1 H1 E1 O1 => F ι1 H1 σ E1 O1
  | ok pvs h1 =>
    simp only [q, Rs.bind] at F
    have hlen := hl _ _ _ _ q
    intro ι1 H1 E1 O1 vs rvs
    have lv : vs.length = 2 := (paired_len rvs).trans hlen
    match vs, lv, rvs with
    | [v, u], _, rvs => exact ⟨v, u, rfl, F ι1 H1 _ E1 O1 (SOk.par (is := [(i, bi), (j, bj)]) (so.mono E1.toMn) rvs)⟩
theorem p_par3 (G : Good P w K mg base n S X W) {i j l : Nat} {bi bj bl : Bool} {x y z : Str} {px py pz : Pos} {k k2 : Nat} {ma : PEnv → PH → Rs (List PV)} (hx : S.stor i x = true) (hy : S.stor j y = true) (hz : S.stor l z = true) (hw : swYes S.sc [.Name x px, .Name y py, .Name z pz] ([e1, e2, e3] : List Expr) = true)
    (n1 : swN S.sc [.Name x px, .Name y py, .Name z pz] = [x, y, z]) (n2 : S.sc.names.lookup x = some .local) (n3 : S.sc.names.lookup y = some .local) (n5 : S.sc.names.lookup z = some .local) (n4 : x ≠ y ∧ x ≠ z ∧ y ≠ z) (ha : PA X [e1, e2, e3] (TAa W K ma)) (hl : ∀ σ h pvs h', ma σ h = .ok pvs h' → pvs.length = 3) :
    PS X (.Assign [.Tuple [.Name x px, .Name y py, .Name z pz] k pos'] (.Tuple [e1, e2, e3] k2 p2) pos) (TSd W K fun σ h => (ma σ h).bind fun vs h1 => .ok (.nx (parSet [(i, bi), (j, bj), (l, bl)] vs σ)) h1) := by
  obtain ⟨a, b, c, d⟩ := G.store hx
  obtain ⟨a', b', c', d'⟩ := G.store hy
  obtain ⟨a2, b2, c2, d2⟩ := G.store hz
  have hsw := sw_some (env := X.env) (k := k) (k2 := k2) (p := pos') (p2 := p2) (by rw [G.scope]; exact G.kind) (by rw [G.scope]; exact hw)
  rw [G.scope, n1] at hsw
  refine PS.imp (ps_par3 G.calm a b b' b2 (fun z => n4.1 (by rw [z, b'] at b; exact (Option.some.inj b).symm)) (fun z => n4.2.1 (by rw [z, b2] at b; exact (Option.some.inj b).symm)) (fun z => n4.2.2 (by rw [z, b2] at b'; exact (Option.some.inj b').symm)) (by rw [G.scope]; exact n2) (by rw [G.scope]; exact n3) (by rw [G.scope]; exact n5) ha hsw) fun D σ H ⟨ι, σp, hh, so, O, F⟩ => ⟨ι, σp, hh, so, O, ?_⟩
  cases q : ma σp hh with
  | stuck => simp only [q, Rs.bind] at F; exact F.elim
  | exc c h1 => simp only [q, Rs.bind] at F; exact fun ι1 H1 E1 O1 => F ι1 H1 σ E1 O1
  | ok pvs h1 =>
    simp only [q, Rs.bind] at F
    have hlen := hl _ _ _ _ q
    intro ι1 H1 E1 O1 vs rvs
    have lv : vs.length = 3 := (paired_len rvs).trans hlen
    match vs, lv, rvs with
    | [v, u, t], _, rvs => exact ⟨v, u, t, rfl, F ι1 H1 _ E1 O1 (SOk.par (is := [(i, bi), (j, bj), (l, bl)]) (so.mono E1.toMn) rvs)⟩
end
end J
end JPar

section JChk
set_option Elab.async false
set_option linter.all false
set_option maxRecDepth 100000
set_option autoImplicit false
set_option maxHeartbeats 4000000
/-! J.Chk: the core syntax against the text; its reading is kept. -/
namespace J
open PySem PySem.Spec PyProof.Rows L2
def binOk : Bin → Operator → Bool
  | .add, .Add | .sub, .Sub | .mul, .Mult | .fdiv, .FloorDiv | .mod, .Mod => true
  | _, _ => false
def cmpOk : Cmp → CmpOp → Bool
  | .eq, .Eq | .ne, .NotEq | .lt, .Lt | .le, .LtE | .gt, .Gt | .ge, .GtE | .in_, .In | .nin, .NotIn => true
  | _, _ => false
theorem binOk_eq {o : Bin} {p : Operator} (h : binOk o p = true) : p = opB o := by
  cases o <;> cases p <;> first | rfl | cases h
theorem cmpOk_eq {o : Cmp} {p : CmpOp} (h : cmpOk o p = true) : p = opC o := by
  cases o <;> cases p <;> first | rfl | cases h
def notSet : Expr → Bool
  | .Set _ _ _ => false
  | _ => true
def notSlice : Expr → Bool
  | .Slice _ _ _ _ => false
  | _ => true
theorem marks_of {e : Expr} {op : CmpOp} (h : notSet e = true) : behindInMarks op e = false := by cases e <;> first | rfl | cases h
theorem marks2_of {e e2 : Expr} {op op2 : CmpOp} (h : notSet e2 = true) : lastMarks [op, op2] [e, e2] = false := by
  show lastMarks [op2] [e2] = false
  exact marks_of h
theorem plainIx_of {e : Expr} (h : notSlice e = true) : PlainIx e := fun o i => by cases e <;> first | rfl | cases h
theorem folded_of {e : Expr} {env : Env} (h : notSet e = true) : ∀ x, foldedSetIterable e env x = pure x := fun x => by cases e <;> first | rfl | cases h
def litOk : Lit → Const → Bool
  | .non, .none => true
  | .bl b, .bool b' => b == b'
  | .int i, .int i' => i == i'
  | .str s, .str s' => Str.ofString s == s'
  | _, _ => false
/-- the comprehension's own names with their slots -/
def ownN (S : SC) (own : List Nat) : List (Str × Nat) := own.map fun i => (S.N.getD i Str.empty, i)
def SC.blk (S : SC) (scope : Scope) : SC := ⟨S.N, relS scope S.sc, scope⟩
def b2N : B2 → String
  | .dzip => "dict" | .lzip => "list"
def b2Ok : B2 → Bool
  | .dzip => true
  | .lzip => true
def mthOk : Mth → Bool
  | .index | .join | .tindex => true
  | _ => false
def mthN : Mth → String
  | .index => "index" | .join => "join" | .tindex => "index" | _ => "?"
def plainO : Expr → Bool
  | .Name _ _ => true
  | .Constant _ _ _ => true
  | _ => false
theorem plainO_base {o : Expr} {a : Str} {env : Env} (h : plainO o = true) : attributeBase o a env (eval o env) = eval o env := by cases o <;> first | rfl | cases h
def isTru : CE → Bool
  | .lit (.bl true) => true
  | _ => false
def lenS : Blt → Bool
  | .lenset => true
  | _ => false
theorem lenS_eq {f : Blt} (h : lenS f = true) : f = .lenset := by cases f <;> first | rfl | cases h
section
variable (T : String → Option CDef) (Bs Es : List String)
mutual
def chkE : CE → SC → Expr → Bool
  | .var i, S, e => (match e with | .Name x _ => S.vis i x | _ => false)
  | .frz i, S, e => (match e with | .Name x _ => S.vis i x | _ => false)
  | .kvar i, S, e => (match e with | .Name x _ => S.vis i x | _ => false)
  | .ktup a, S, e => (match e with | .Call (.Name g _) [x] [] _ => decide (g = Str.ofString "tuple") && (Bs.contains "tuple" && (S.glb (Str.ofString "tuple") && (notStar x && chkE a S x))) | _ => false)
  | .b2 f a b, S, e => (match e with | .Call (.Name g _) [.Call (.Name g2 _) [x, y] [] _] [] _ => b2Ok f && (decide (g = Str.ofString (b2N f)) && (decide (g2 = Str.ofString "zip") && (Bs.contains (b2N f) && (Bs.contains "zip" && (S.glb (Str.ofString (b2N f)) && (S.glb (Str.ofString "zip") && (notStar x && (notStar y && (chkE a S x && chkE b S y))))))))) | _ => false)
  | .lit l, S, e => (match e with | .Constant c _ _ => litOk l c | _ => false)
  | .tup es, S, e => (match e with | .Tuple vs _ _ => chkA es S vs | _ => false)
  | .lst es, S, e => (match e with | .List vs _ => chkA es S vs | _ => false)
  | .bin o a b, S, e => (match e with | .BinOp x op y _ => binOk o op && (chkE a S x && chkE b S y) | _ => false)
  | .neg a, S, e => (match e with | .UnaryOp .USub x _ => chkE a S x | _ => false)
  | .not a, S, e => (match e with | .UnaryOp .Not x _ => chkE a S x | _ => false)
  | .cmp o a b, S, e => (match e with | .Compare x [op] [y] _ => cmpOk o op && (notSet y && (chkE a S x && chkE b S y)) | _ => false)
  | .chain o o' a b c, S, e => (match e with | .Compare x [op, op'] [y, z] _ => cmpOk o op && (cmpOk o' op' && (notSet z && (chkE a S x && (chkE b S y && chkE c S z)))) | _ => false)
  | .isn a, S, e => (match e with | .Compare x [.Is] [.Constant .none _ _] _ => chkE a S x | _ => false)
  | .notn a, S, e => (match e with | .Compare x [.IsNot] [.Constant .none _ _] _ => chkE a S x | _ => false)
  | .and a b, S, e => (match e with
    | .BoolOp .And [x, y] _ => chkE a S x && chkE b S y
    | .BoolOp .And (x :: y :: z :: r) p => chkE a S x && chkE b S (.BoolOp .And (y :: z :: r) p)
    | _ => false)
  | .or a b, S, e => (match e with
    | .BoolOp .Or [x, y] _ => chkE a S x && chkE b S y
    | .BoolOp .Or (x :: y :: z :: r) p => chkE a S x && chkE b S (.BoolOp .Or (y :: z :: r) p)
    | _ => false)
  | .ife c a b, S, e => (match e with | .IfExp t x y _ => chkE c S t && (chkE a S x && chkE b S y) | _ => false)
  | .ix a b, S, e => (match e with | .Subscript x y _ => notSlice y && (chkE a S x && chkE b S y) | _ => false)
  | .sl a lo hi, S, e => (match e with | .Subscript x (.Slice l h none _) _ => chkE a S x && (chkO lo S l && chkO hi S h) | _ => false)
  | .rev a, S, e => (match e with | .Subscript x (.Slice none none (some (.UnaryOp .USub (.Constant (.int 1) _ _) _)) _) _ => chkE a S x | _ => false)
  | .blt f a, S, e => (if lenS f then (match e with | .Call (.Name g _) [.Call (.Name g2 _) [x] [] _] [] _ => decide (g = Str.ofString "len") && (decide (g2 = Str.ofString "set") && (Bs.contains "len" && (Bs.contains "set" && (S.glb (Str.ofString "len") && (S.glb (Str.ofString "set") && (notStar x && chkE a S x)))))) | _ => false) else (match e with | .Call (.Name g _) [x] [] _ => bltOk f && (decide (g = Str.ofString (bltN f)) && (Bs.contains (bltN f) && (S.glb (Str.ofString (bltN f)) && (notStar x && chkE a S x)))) | _ => false))
  | .min2 a b, S, e => (match e with | .Call (.Name g _) [x, y] [] _ => decide (g = Str.ofString "min") && (Bs.contains "min" && (S.glb (Str.ofString "min") && (notStar x && (notStar y && (chkE a S x && chkE b S y))))) | _ => false)
  | .isi a t, S, e => (match e with | .Call (.Name g _) [x, .Name ty _] [] _ => decide (g = Str.ofString "isinstance") && (decide (ty = Str.ofString (tyN t)) && (Bs.contains "isinstance" && (Bs.contains (tyN t) && (S.glb (Str.ofString "isinstance") && (S.glb (Str.ofString (tyN t)) && (notStar x && chkE a S x)))))) | _ => false)
  | .mth m a b, S, e => (match e with | .Call (.Attribute o nm apos) [y] [] cpos => mthOk m && (decide (nm = Str.ofString (mthN m)) && (plainO o && (notStar y && ((apos.endLine == cpos.line) && (chkE a S o && chkE b S y))))) | _ => false)
  | .pop i a, S, e => (match e with | .Call (.Attribute (.Name x _) m apos) [y] [] cpos => decide (m = Str.ofString "pop") && (S.vis i x && (notStar y && ((apos.endLine == cpos.line) && chkE a S y))) | _ => false)
  | .call f as, S, e => (match e with | .Call (.Name g _) (x :: xs) [] _ => decide (g = Str.ofString f) && (S.glb (Str.ofString f) && ((T f).isSome && (notStar x && (allPlain xs && chkA as S (x :: xs))))) | _ => false)
  | .lc it t c b own, S, e => (match e with
    | .ListComp elt [⟨tg, iter, [], 0⟩] scope _ => chkI it S tg iter && (notSet iter && (blkC S.N S.sc scope (ownN S own) && ((slotsT t).all (own.contains ·) && (chkT (S.blk scope) tg t && ((match c with | .lit (.bl true) => true | _ => false) && chkE b (S.blk scope) elt)))))
    | .ListComp elt [⟨tg, iter, [i], 0⟩] scope _ => chkI it S tg iter && (notSet iter && (blkC S.N S.sc scope (ownN S own) && ((slotsT t).all (own.contains ·) && (chkT (S.blk scope) tg t && (chkE c (S.blk scope) i && chkE b (S.blk scope) elt)))))
    | _ => false)
  | .lc2 it t c it1 t1 c1 b own own1, S, e => (match e with
    | .ListComp elt [⟨tg, iter, [], 0⟩, ⟨tg1, iter1, [], 0⟩] scope _ => chkI it S tg iter && (notSet iter && (notSet iter1 && (blkC S.N S.sc scope (ownN S own) && ((slotsT t).all (own.contains ·) && ((slotsT t1).all (own1.contains ·) && (own1.all (own.contains ·) && (chkT (S.blk scope) tg t && (chkT (S.blk scope) tg1 t1 && (isTru c && (isTru c1 && (chkI it1 (S.blk scope) tg1 iter1 && chkE b (S.blk scope) elt)))))))))))
    | .ListComp elt [⟨tg, iter, [], 0⟩, ⟨tg1, iter1, [i], 0⟩] scope _ => chkI it S tg iter && (notSet iter && (notSet iter1 && (blkC S.N S.sc scope (ownN S own) && ((slotsT t).all (own.contains ·) && ((slotsT t1).all (own1.contains ·) && (own1.all (own.contains ·) && (chkT (S.blk scope) tg t && (chkT (S.blk scope) tg1 t1 && (isTru c && (chkE c1 (S.blk scope) i && (chkI it1 (S.blk scope) tg1 iter1 && chkE b (S.blk scope) elt)))))))))))
    | _ => false)
def chkA : CA → SC → List Expr → Bool
  | .nil, _, es => (match es with | [] => true | _ => false)
  | .cons a as, S, es => (match es with | x :: xs => notStar x && (chkE a S x && chkA as S xs) | _ => false)
def chkO : CO → SC → Option Expr → Bool
  | .no, _, e => (match e with | none => true | _ => false)
  | .so a, S, e => (match e with | some x => chkE a S x | _ => false)
def chkI : CI → SC → Expr → Expr → Bool
  | .seq a, S, _, e => chkE a S e
  | .rng a, S, _, e => (match e with | .Call (.Name g _) [x] [] _ => decide (g = Str.ofString "range") && (Bs.contains "range" && (S.glb (Str.ofString "range") && (notStar x && chkE a S x))) | _ => false)
  | .rng2 a b, S, _, e => (match e with | .Call (.Name g _) [x, y] [] _ => decide (g = Str.ofString "range") && (Bs.contains "range" && (S.glb (Str.ofString "range") && (notStar x && (notStar y && (chkE a S x && chkE b S y))))) | _ => false)
  | .zip a b, S, tg, e => isTup tg && (match e with | .Call (.Name g _) [x, y] [] _ => decide (g = Str.ofString "zip") && (Bs.contains "zip" && (S.glb (Str.ofString "zip") && (notStar x && (notStar y && (chkE a S x && chkE b S y))))) | _ => false)
  | .enum a, S, tg, e => isTup tg && (match e with | .Call (.Name g _) [x] [] _ => decide (g = Str.ofString "enumerate") && (Bs.contains "enumerate" && (S.glb (Str.ofString "enumerate") && (notStar x && chkE a S x))) | _ => false)
end
end
/-- what yields a new list, if a list -/
def fresh : CE → Bool
  | .lst _ => true
  | .bin _ _ _ => true
  | .sl _ _ _ => true
  | .blt _ _ => true
  | .lc _ _ _ _ _ => true
  | .lc2 _ _ _ _ _ _ _ _ _ => true
  | _ => false
section
variable {P : Program} {w : World} {K : PySem.W.Frag} {mg : Str → Option Value} {base : Heap} {n : Nat} {S : SC} {X : Cx} {W : WX} {e e1 e2 e3 tg iter : Expr} {fr fr1 fr2 fr3 : Bool} {m m1 m2 m3 : PEnv → PH → Rs PV} {pos p p2 pos' : Pos} {T : String → Option CDef} {Bs Es : List String}
theorem Good.blk (G : Good P w K mg base n S X W) {scope : Scope} (hk : scope.kind = .function) (s : Shared) (H : Hp) (C : Addr) (cl : List (Str × Addr)) (fp : List Addr) : Good P w K mg base n (S.blk scope) (X.blk s H scope (compEnvC scope cl C X.env) fp) W0 := by
  refine ⟨G.prog, G.world, G.frag, G.glob, G.bas, G.names, G.nd, ?_, hk, fun x hx => ?_, G.calm, G.room, takes_none5⟩
  · show relabel scope X.env = relS scope S.sc
    rw [← G.scope]
    rfl
  · have hw : scope.names.lookup x = some .local ∨ scope.names.lookup x = some .cell := hx
    rcases hw with h | h
    · have := lookup_relS_keep (sc := S.sc) (by decide) h
      exact ⟨.inl this, .inr this⟩
    · have := lookup_relS_keep (sc := S.sc) (by decide) h
      refine ⟨.inr this, .inl ?_⟩
      show (scope.names.lookup x == some .cell) = true
      rw [h]
      rfl
theorem own_eq (S : SC) (own : List Nat) : (ownN S own).map (·.2) = own := by
  unfold ownN
  rw [List.map_map]
  induction own with
  | nil => rfl
  | cons a l ih => rw [List.map_cons, ih]; rfl
/-- a test whose truth is its value's -/
def plainTest : Expr → Bool
  | .BoolOp _ _ _ => false
  | .UnaryOp .Not _ _ => false
  | .IfExp _ _ _ _ => false
  | .Compare _ _ _ _ => false
  | _ => true
theorem test_of {env : Env} (h : plainTest e = true) : ∀ whole, isTrue e env whole = (do let v ← whole; standAt e.pos; holding [v] (truthy v)) := fun whole => by
  cases e with
  | UnaryOp op x p => cases op <;> first | rfl | cases h
  | _ => first | rfl | cases h
def All (X : Cx) (W : WX) (K : PySem.W.Frag) (fr : Bool) (m : PEnv → PH → Rs PV) (e : Expr) : Prop := PE X e (TD W K fr m) ∧ PT X e (TB W K m) ∧ ∀ op l p, e = .BoolOp op l p → PW X e (TB W K m)
theorem all_plain (h : PE X e (TD W K fr m)) (hp : plainTest e = true) : All X W K fr m e := ⟨h, t_val h (test_of hp), fun op l p q => by subst q; cases hp⟩
end
end J
end JChk

section JOk
set_option Elab.async false
set_option linter.all false
set_option maxRecDepth 100000
set_option autoImplicit false
set_option maxHeartbeats 4000000
/-! J.Ok: every expression that the check takes is read as the core says. -/
namespace J
open PySem PySem.Spec PyProof.Rows L2
theorem bind_ok {α β : Type} {r : Rs α} {g : α → PH → Rs β} {a : β} {h : PH} : r.bind g = .ok a h → ∃ x h1, r = .ok x h1 ∧ g x h1 = .ok a h := by
  intro q
  cases r with
  | ok x h1 => exact ⟨x, h1, rfl, q⟩
  | exc c h1 => cases q
  | stuck => cases q
theorem ofO_eq {α : Type} {o : Option α} {h0 h : PH} {a : α} (q : ofO o h0 = .ok a h) : o = some a ∧ h = h0 := by
  cases o with
  | none => cases q
  | some x => cases q; exact ⟨rfl, rfl⟩
theorem map_some {α β : Type} {o : Option α} {f : α → β} {b : β} (q : o.map f = some b) : ∃ a, o = some a ∧ b = f a := by
  cases o with
  | none => cases q
  | some a => cases q; exact ⟨a, rfl, rfl⟩
section
variable {P : Program} {w : World} {K : PySem.W.Frag} {mg : Str → Option Value} {base : Heap} {n : Nat} {S : SC} {X : Cx} {W : WX} {e e1 e2 e3 tg iter : Expr} {fr fr1 fr2 fr3 : Bool} {m m1 m2 m3 : PEnv → PH → Rs PV} {pos p p2 pos' : Pos} {T : String → Option CDef} {Bs Es : List String}
theorem a_cmp (G : Good P w K mg base n S X W) (o : Cmp) (h1 : PE X e1 (TD W K fr1 m1)) (h2 : PE X e2 (TD W K fr2 m2)) (hm : behindInMarks (opC o) e2 = false) :
    All X W K false (fun σ h => (m1 σ h).bind fun x h1 => (m2 σ h1).bind fun y h2 => ofO ((val h2 x).bind fun x => (val h2 y).bind fun y => (cmpD o x y).map fun b => .d (.bool b)) h2) (.Compare e1 [opC o] [e2] pos) := by
  refine ⟨s_cmp G o h1 h2 hm, t_bool (PT.imp (pt_cmpR (op_cmp G.units o) (unf h1) (unf h2) hm) fun σ H Q h => td2 h ?_) ?_, fun _ _ _ q => nomatch q⟩
  · intro ι H0 H hh v u x y O rv ru T F
    rw [map2] at F
    obtain ⟨d, e, k⟩ := bool_of O F
    obtain ⟨a, b, ea, eb, ed⟩ := bind2 e
    exact ⟨ι, hh, a, b, d, O, val_ok O rv ea, val_ok O ru eb, ed, k⟩
  · intro σp h x h1 q
    obtain ⟨_, _, _, q⟩ := bind_ok q
    obtain ⟨_, _, _, q⟩ := bind_ok q
    obtain ⟨q, _⟩ := ofO_eq q
    rw [map2] at q
    obtain ⟨b, _, e⟩ := map_some q
    exact ⟨b, e⟩
theorem a_isn {j : Nat} (h1 : PE X e1 (TD W K fr1 m1)) : All X W K false (fun σ h => (m1 σ h).bind fun x h1 => .ok (.d (.bool (isNoneV x))) h1) (.Compare e1 [.Is] [.Constant .none j p2] pos) := by
  refine ⟨s_isn h1, t_bool (PT.imp (pt_cmp (pc_isN (unf h1))) fun σ H Q h => td1 (r := fun v H Q => Q (.bl (decide (v = .non))) H) h ?_) ?_, fun _ _ _ q => nomatch q⟩
  · intro ι H0 H hh v x O rv T F
    have e : decide (v = .non) = isNoneV x := by
      cases x with
      | cell n => obtain ⟨_, a, e, _⟩ := rv; subst e; rfl
      | k y => obtain ⟨_, ⟨a, _, _, e, _⟩, _⟩ := rv; subst e; rfl
      | d y => cases rv <;> rfl
    rw [e]
    exact F ι H .refl O _ (.bl _) fun z => nomatch z
  · intro σp h x h1 q
    obtain ⟨_, _, _, q⟩ := bind_ok q
    cases q
    exact ⟨_, rfl⟩
theorem a_notn {j : Nat} (h1 : PE X e1 (TD W K fr1 m1)) : All X W K false (fun σ h => (m1 σ h).bind fun x h1 => .ok (.d (.bool (!isNoneV x))) h1) (.Compare e1 [.IsNot] [.Constant .none j p2] pos) := by
  refine ⟨s_notn h1, t_bool (PT.imp (pt_cmp (pc_notN (unf h1))) fun σ H Q h => td1 (r := fun v H Q => Q (.bl (!decide (v = .non))) H) h ?_) ?_, fun _ _ _ q => nomatch q⟩
  · intro ι H0 H hh v x O rv T F
    have e : decide (v = .non) = isNoneV x := by
      cases x with
      | cell n => obtain ⟨_, a, e, _⟩ := rv; subst e; rfl
      | k y => obtain ⟨_, ⟨a, _, _, e, _⟩, _⟩ := rv; subst e; rfl
      | d y => cases rv <;> rfl
    rw [e]
    exact F ι H .refl O _ (.bl _) fun z => nomatch z
  · intro σp h x h1 q
    obtain ⟨_, _, _, q⟩ := bind_ok q
    cases q
    exact ⟨_, rfl⟩
theorem chain_read (G : Good P w K mg base n S X W) {o o' : Cmp} {σ : L2.St} {H : Hp} {Q : VK} (h : TD W K false (fun σ h => (m1 σ h).bind fun x h1 => (m2 σ h1).bind fun y h2 => (ofO ((val h2 x).bind fun x => (val h2 y).bind fun y => cmpD o x y) h2).bind fun k h3 =>
      match k with
      | true => (m3 σ h3).bind fun z h4 => ofO ((val h4 y).bind fun y => (val h4 z).bind fun z => (cmpD o' y z).map fun b => .d (.bool b)) h4
      | false => .ok (.d (.bool false)) h3) σ H Q) : tChain (rCmp o) (rCmp o') (TD W K false m1) (TD W K false m2) (TD W K false m3) σ H Q := by
  obtain ⟨ι, σp, hh, so, O, F⟩ := h
  refine ⟨ι, σp, hh, so, O, F.bind.imp ?_⟩
  intro x h1 ι1 H1 E1 O1 F1 v rv _
  refine ⟨ι1, σp, h1, so.mono E1.toMn, O1, F1.bind.imp ?_⟩
  intro y h2 ι2 H2 E2 O2 F2 u ru _
  have F3 := F2.bind
  cases q : (val h2 x).bind fun x => (val h2 y).bind fun y => cmpD o x y with
  | none => rw [q] at F3; exact F3.elim
  | some k =>
    rw [q] at F3
    obtain ⟨a, b, ea, eb, ed⟩ := bind2 q
    refine ⟨ι2, h2, a, b, k, O2, val_ok O2 (rv.mono E2.toMn) ea, val_ok O2 ru eb, ed, k, rfl, ?_⟩
    have F4 := F3 ι2 H2 .refl O2
    cases k with
    | false => rw [if_neg (by decide)]; exact F4 ι2 H2 .refl O2 _ (.bl _) fun z => nomatch z
    | true =>
      rw [if_pos rfl]
      refine ⟨ι2, σp, h2, (so.mono E1.toMn).mono E2.toMn, O2, Fin.imp (Fin.bind F4) ?_⟩
      intro z h4 ι4 H4 E4 O4 F5 t rt _
      rw [map2] at F5
      obtain ⟨d, e, kk⟩ := bool_of O4 F5
      obtain ⟨a', b', ea', eb', ed'⟩ := bind2 e
      exact ⟨ι4, h4, a', b', d, O4, val_ok O4 (ru.mono E4.toMn) ea', val_ok O4 rt eb', ed', kk⟩
theorem a_chain (G : Good P w K mg base n S X W) (o o' : Cmp) (h1 : PE X e1 (TD W K fr1 m1)) (h2 : PE X e2 (TD W K fr2 m2)) (h3 : PE X e3 (TD W K fr3 m3)) (hm : lastMarks [opC o, opC o'] [e2, e3] = false) :
    All X W K false (fun σ h => (m1 σ h).bind fun x h1 => (m2 σ h1).bind fun y h2 => (ofO ((val h2 x).bind fun x => (val h2 y).bind fun y => cmpD o x y) h2).bind fun k h3 =>
      match k with
      | true => (m3 σ h3).bind fun z h4 => ofO ((val h4 y).bind fun y => (val h4 z).bind fun z => (cmpD o' y z).map fun b => .d (.bool b)) h4
      | false => .ok (.d (.bool false)) h3) (.Compare e1 [opC o, opC o'] [e2, e3] pos) := by
  refine ⟨s_chain G o o' h1 h2 h3 hm, t_bool (PT.imp (pt_chain (op_cmp G.units o) (op_cmp G.units o') (unf h1) (unf h2) (unf h3) hm) fun σ H Q h => chain_read G h) ?_, fun _ _ _ q => nomatch q⟩
  intro σp h x h1 q
  obtain ⟨_, _, _, q⟩ := bind_ok q
  obtain ⟨_, _, _, q⟩ := bind_ok q
  obtain ⟨k, _, _, q⟩ := bind_ok q
  cases k with
  | false => cases q; exact ⟨_, rfl⟩
  | true =>
    obtain ⟨_, _, _, q⟩ := bind_ok q
    obtain ⟨q, _⟩ := ofO_eq q
    rw [map2] at q
    obtain ⟨b, _, e⟩ := map_some q
    exact ⟨b, e⟩
theorem a_not (h : All X W K fr1 m1 e1) : All X W K false (fun σ h => (m1 σ h).bind fun x h1 => ofO ((val h1 x).bind fun x => (truD x).map fun b => .d (.bool (!b))) h1) (.UnaryOp .Not e1 pos) :=
  ⟨s_not h.1, t_not h.2.1, fun _ _ _ q => nomatch q⟩
theorem a_ife {me : PEnv → PH → Rs PV} (hc : All X W K fr1 m1 e1) (h2 : All X W K fr2 m2 e2) (h3 : All X W K fr3 m3 e3) : All X W K false (fun σ h => (m1 σ h).bind fun x h1 => (ofO ((val h1 x).bind truD) h1).bind fun k h2 => match k with | true => m2 σ h2 | false => m3 σ h2) (.IfExp e1 e2 e3 pos) := by
  have pe : PE X (.IfExp e1 e2 e3 pos) (TD W K false fun σ h => (m1 σ h).bind fun x h1 => (ofO ((val h1 x).bind truD) h1).bind fun k h2 => match k with | true => m2 σ h2 | false => m3 σ h2) := s_ife hc.2.1 h2.1 h3.1
  refine ⟨pe, ⟨fun pins s σ H Q I ⟨ι, σp, hh, so, O, F⟩ => ?_⟩, fun _ _ _ q => nomatch q⟩
  have F1 : Fin W K ι H σ (((m1 σp hh).bind fun x h1 => ofO ((val h1 x).bind truD) h1).bind fun k h2 => (match k with | true => m2 σp h2 | false => m3 σp h2).bind fun x h1 => ofO ((val h1 x).bind truD) h1) fun b _ _ H' => Q b H' := by
    dsimp only at F
    cases q : m1 σp hh with
    | stuck => rw [q] at F; exact F.elim
    | exc c h1 => rw [q] at F; exact F
    | ok x h1 =>
      rw [q] at F
      cases q2 : (val h1 x).bind truD with
      | none => simp only [Rs.bind, q2] at F; exact F.elim
      | some k => simp only [Rs.bind, q2] at F ⊢; exact F
  have step := hc.2.1.run pins s σ H (fun b H1 => if b = true then TB W K m2 σ H1 Q else TB W K m3 σ H1 Q) I ⟨ι, σp, hh, so, O, F1.bind.imp fun k h1 ι1 H1 E1 O1 F2 => by
    cases k with
    | true => rw [if_pos rfl]; exact ⟨ι1, σp, h1, so.mono E1.toMn, O1, F2⟩
    | false => rw [if_neg (by decide)]; exact ⟨ι1, σp, h1, so.mono E1.toMn, O1, F2⟩⟩
  show wpAny (model X.prog X.w) X.A (PySem.isTrue (.IfExp e1 e2 e3 pos) X.env _) _ _ _
  simp only [PySem.isTrue]
  refine wpAny_bind (thn step fun b s1 ⟨H1, I1, q1⟩ => ?_)
  cases b with
  | true =>
    rw [if_pos rfl] at q1 ⊢
    exact h2.2.1.run pins s1 σ H1 Q I1 q1
  | false =>
    rw [if_neg (by decide)] at q1
    exact h3.2.1.run pins s1 σ H1 Q I1 q1
end
end J
end JOk

section JAll
set_option Elab.async false
set_option linter.all false
set_option maxRecDepth 100000
set_option autoImplicit false
set_option maxHeartbeats 8000000
/-! J.All: the whole of an expression. -/
namespace J
open PySem PySem.Spec PyProof.Rows L2
theorem mem_of {x : String} {l : List String} (h : l.contains x = true) : x ∈ l := by simpa using h
theorem dec_of {a b : Str} (h : decide (a = b) = true) : a = b := of_decide_eq_true h
theorem tru_pts {K : PySem.W.Frag} {X : Cx} {Γ : Fns} {c : CE} (hc : isTru c = true) : PTs X [] (TB W0 K (ev Γ c)) := by
  refine ⟨fun pins s1 σ H1 Q I q => pts_nil.run pins s1 σ H1 Q I ?_⟩
  obtain ⟨ι, σp, hh, so, O, F⟩ := q
  unfold isTru at hc
  split at hc
  · exact F ι H1 .refl O
  · cases hc
section
variable {P : Program} {w : World} {K : PySem.W.Frag} {mg : Str → Option Value} {base : Heap} {n : Nat} {T : String → Option CDef} {Bs Es : List String} (PG : Pg P w K mg base T Bs Es n)
include PG
mutual
theorem okE : ∀ (c : CE) (S : SC) (X : Cx) (W : WX) (e : Expr), Good P w K mg base n S X W → chkE T Bs c S e = true → All X W K (fresh c) (ev (run T n) c) e
  | .var i, S, X, W, e, G, h => by
    simp only [chkE] at h
    split at h
    · exact all_plain (s_var G h _) rfl
    · cases h
  | .frz i, S, X, W, e, G, h => by
    simp only [chkE] at h
    split at h
    · exact all_plain (s_frz G h _) rfl
    · cases h
  | .lit l, S, X, W, e, G, h => by
    simp only [chkE] at h
    split at h
    · refine all_plain (s_lit (x := l) (run T n) ?_) rfl
      unfold litOk at h
      exact h
    · cases h
  | .tup es, S, X, W, e, G, h => by
    simp only [chkE] at h
    split at h
    · exact all_plain (by exact s_tup (okA es S X W _ G h).2) rfl
    · cases h
  | .lst es, S, X, W, e, G, h => by
    simp only [chkE] at h
    split at h
    · exact all_plain (by exact s_lst (okA es S X W _ G h).2) rfl
    · cases h
  | .bin o a b, S, X, W, e, G, h => by
    simp only [chkE] at h
    split at h
    · obtain ⟨h1, h2⟩ := ba h
      obtain ⟨h2, h3⟩ := ba h2
      rw [binOk_eq h1]
      exact all_plain (by exact s_bin o (okE a S X W _ G h2).1 (okE b S X W _ G h3).1) rfl
    · cases h
  | .neg a, S, X, W, e, G, h => by
    simp only [chkE] at h
    split at h
    · exact all_plain (by exact s_neg (okE a S X W _ G h).1) rfl
    · cases h
  | .not a, S, X, W, e, G, h => by
    simp only [chkE] at h
    split at h
    · exact a_not (okE a S X W _ G h)
    · cases h
  | .cmp o a b, S, X, W, e, G, h => by
    simp only [chkE] at h
    split at h
    · obtain ⟨h1, h2⟩ := ba h
      obtain ⟨h2, h3⟩ := ba h2
      obtain ⟨h3, h4⟩ := ba h3
      rw [cmpOk_eq h1]
      exact a_cmp G o (okE a S X W _ G h3).1 (okE b S X W _ G h4).1 (marks_of h2)
    · cases h
  | .chain o o' a b c, S, X, W, e, G, h => by
    simp only [chkE] at h
    split at h
    · obtain ⟨h1, h2⟩ := ba h
      obtain ⟨h2, h3⟩ := ba h2
      obtain ⟨h3, h4⟩ := ba h3
      obtain ⟨h4, h5⟩ := ba h4
      obtain ⟨h5, h6⟩ := ba h5
      rw [cmpOk_eq h1, cmpOk_eq h2]
      exact a_chain G o o' (okE a S X W _ G h4).1 (okE b S X W _ G h5).1 (okE c S X W _ G h6).1 (marks2_of h3)
    · cases h
  | .isn a, S, X, W, e, G, h => by
    simp only [chkE] at h
    split at h
    · exact a_isn (okE a S X W _ G h).1
    · cases h
  | .notn a, S, X, W, e, G, h => by
    simp only [chkE] at h
    split at h
    · exact a_notn (okE a S X W _ G h).1
    · cases h
  | .and a b, S, X, W, e, G, h => by
    simp only [chkE] at h
    split at h
    · obtain ⟨h1, h2⟩ := ba h
      have A := okE a S X W _ G h1
      have B := okE b S X W _ G h2
      have pw := t_and A.2.1 (pw_and1 (pos := by assumption) B.2.1)
      refine ⟨by exact s_and A.1 (s_one B.1), by exact pw.pt, fun _ _ _ _ => by exact pw⟩
    · obtain ⟨h1, h2⟩ := ba h
      have A := okE a S X W _ G h1
      have B := okE b S X W _ G h2
      have pw := t_and A.2.1 (B.2.2 _ _ _ rfl)
      refine ⟨by exact s_and A.1 B.1, by exact pw.pt, fun _ _ _ _ => by exact pw⟩
    · cases h
  | .or a b, S, X, W, e, G, h => by
    simp only [chkE] at h
    split at h
    · obtain ⟨h1, h2⟩ := ba h
      have A := okE a S X W _ G h1
      have B := okE b S X W _ G h2
      have pw := t_or A.2.1 (pw_or1 (pos := by assumption) B.2.1)
      refine ⟨by exact s_or A.1 (s_one B.1), by exact pw.pt, fun _ _ _ _ => by exact pw⟩
    · obtain ⟨h1, h2⟩ := ba h
      have A := okE a S X W _ G h1
      have B := okE b S X W _ G h2
      have pw := t_or A.2.1 (B.2.2 _ _ _ rfl)
      refine ⟨by exact s_or A.1 B.1, by exact pw.pt, fun _ _ _ _ => by exact pw⟩
    · cases h
  | .ife c a b, S, X, W, e, G, h => by
    simp only [chkE] at h
    split at h
    · obtain ⟨h1, h2⟩ := ba h
      obtain ⟨h2, h3⟩ := ba h2
      exact a_ife (me := ev (run T n) c) (okE c S X W _ G h1) (okE a S X W _ G h2) (okE b S X W _ G h3)
    · cases h
  | .ix a b, S, X, W, e, G, h => by
    simp only [chkE] at h
    split at h
    · obtain ⟨h1, h2⟩ := ba h
      obtain ⟨h2, h3⟩ := ba h2
      exact all_plain (by exact s_ix G (okE a S X W _ G h2).1 (okE b S X W _ G h3).1 (plainIx_of h1)) rfl
    · cases h
  | .sl a lo hi, S, X, W, e, G, h => by
    simp only [chkE] at h
    split at h
    · obtain ⟨h1, h2⟩ := ba h
      obtain ⟨h2, h3⟩ := ba h2
      exact all_plain (by exact s_sl (okE a S X W _ G h1).1 (okO lo S X W _ G h2) (okO hi S X W _ G h3)) rfl
    · cases h
  | .rev a, S, X, W, e, G, h => by
    simp only [chkE] at h
    split at h
    · exact all_plain (by exact s_rev (okE a S X W _ G h).1) rfl
    · cases h
  | .blt f a, S, X, W, e, G, h => by
    simp only [chkE] at h
    split at h
    · rename_i hf
      rw [lenS_eq hf]
      split at h
      · obtain ⟨h1, h⟩ := ba h
        obtain ⟨h2, h⟩ := ba h
        obtain ⟨h3, h⟩ := ba h
        obtain ⟨h4, h⟩ := ba h
        obtain ⟨h5, h⟩ := ba h
        obtain ⟨h6, h⟩ := ba h
        obtain ⟨h7, h8⟩ := ba h
        rw [dec_of h1, dec_of h2]
        exact all_plain (by exact s_lenS G PG (mem_of h3) (mem_of h4) h5 h6 h7 (okE a S X W _ G h8).1) rfl
      · cases h
    · split at h
      · obtain ⟨h1, h⟩ := ba h
        obtain ⟨h2, h⟩ := ba h
        obtain ⟨h3, h⟩ := ba h
        obtain ⟨h4, h⟩ := ba h
        obtain ⟨h5, h6⟩ := ba h
        rw [dec_of h2]
        exact all_plain (by exact s_blt G PG h1 (mem_of h3) h4 h5 (okE a S X W _ G h6).1) rfl
      · cases h
  | .min2 a b, S, X, W, e, G, h => by
    simp only [chkE] at h
    split at h
    · obtain ⟨h2, h⟩ := ba h
      obtain ⟨h3, h⟩ := ba h
      obtain ⟨h4, h⟩ := ba h
      obtain ⟨h5, h⟩ := ba h
      obtain ⟨h6, h⟩ := ba h
      obtain ⟨h7, h8⟩ := ba h
      rw [dec_of h2]
      exact all_plain (by exact s_min2 G PG (mem_of h3) h4 h5 h6 (okE a S X W _ G h7).1 (okE b S X W _ G h8).1) rfl
    · cases h
  | .isi a t, S, X, W, e, G, h => by
    simp only [chkE] at h
    split at h
    · obtain ⟨h1, h⟩ := ba h
      obtain ⟨h2, h⟩ := ba h
      obtain ⟨h3, h⟩ := ba h
      obtain ⟨h4, h⟩ := ba h
      obtain ⟨h5, h⟩ := ba h
      obtain ⟨h6, h⟩ := ba h
      obtain ⟨h7, h8⟩ := ba h
      rw [dec_of h1, dec_of h2]
      exact all_plain (by exact s_isi G PG (mem_of h3) (mem_of h4) h5 h6 h7 (okE a S X W _ G h8).1) rfl
    · cases h
  | .mth m a b, S, X, W, e, G, h => by
    simp only [chkE] at h
    split at h
    · obtain ⟨h1, h⟩ := ba h
      obtain ⟨h2, h⟩ := ba h
      obtain ⟨h3, h⟩ := ba h
      obtain ⟨h4, h⟩ := ba h
      obtain ⟨h5, h⟩ := ba h
      obtain ⟨h6, h7⟩ := ba h
      rw [dec_of h2]
      cases m with
      | index => exact all_plain (by exact s_index (okE a S X W _ G h6).1 (okE b S X W _ G h7).1 h4 (plainO_base h3) h5) rfl
      | join => exact all_plain (by exact s_join (okE a S X W _ G h6).1 (okE b S X W _ G h7).1 h4 (plainO_base h3) h5) rfl
      | tindex => exact all_plain (by exact s_tindex (okE a S X W _ G h6).1 (okE b S X W _ G h7).1 h4 (plainO_base h3) h5) rfl
      | count => cases h1
      | split => cases h1
    · cases h
  | .kvar i, S, X, W, e, G, h => by
    simp only [chkE] at h
    split at h
    · exact all_plain (s_kvar G h _) rfl
    · cases h
  | .ktup a, S, X, W, e, G, h => by
    simp only [chkE] at h
    split at h
    · obtain ⟨h1, h⟩ := ba h
      obtain ⟨h2, h⟩ := ba h
      obtain ⟨h3, h⟩ := ba h
      obtain ⟨h4, h5⟩ := ba h
      rw [dec_of h1]
      exact all_plain (by exact s_ktup G PG (mem_of h2) h3 h4 (okE a S X W _ G h5).1) rfl
    · cases h
  | .b2 f a b, S, X, W, e, G, h => by
    simp only [chkE] at h
    split at h
    · obtain ⟨h0, h⟩ := ba h
      obtain ⟨h1, h⟩ := ba h
      obtain ⟨h2, h⟩ := ba h
      obtain ⟨h3, h⟩ := ba h
      obtain ⟨h4, h⟩ := ba h
      obtain ⟨h5, h⟩ := ba h
      obtain ⟨h6, h⟩ := ba h
      obtain ⟨h7, h⟩ := ba h
      obtain ⟨h8, h⟩ := ba h
      obtain ⟨h9, h10⟩ := ba h
      rw [dec_of h1, dec_of h2]
      cases f with
      | dzip => exact all_plain (by exact unf (s_dzip G PG (mem_of h3) (mem_of h4) h5 h6 h7 h8 (okE a S X W _ G h9).1 (okE b S X W _ G h10).1)) rfl
      | lzip => exact all_plain (by exact s_lzip G PG (mem_of h3) (mem_of h4) h5 h6 h7 h8 (okE a S X W _ G h9).1 (okE b S X W _ G h10).1) rfl
    · cases h
  | .pop i a, S, X, W, e, G, h => by
    simp only [chkE] at h
    split at h
    · obtain ⟨h1, h⟩ := ba h
      obtain ⟨h2, h⟩ := ba h
      obtain ⟨h3, h⟩ := ba h
      obtain ⟨h4, h5⟩ := ba h
      rw [dec_of h1]
      exact all_plain (by exact s_pop G h2 h3 h4 (okE a S X W _ G h5).1) rfl
    · cases h
  | .call f as, S, X, W, e, G, h => by
    simp only [chkE] at h
    split at h
    · obtain ⟨h1, h⟩ := ba h
      obtain ⟨h2, h⟩ := ba h
      obtain ⟨h3, h⟩ := ba h
      obtain ⟨h4, h⟩ := ba h
      obtain ⟨h5, h6⟩ := ba h
      rw [dec_of h1]
      obtain ⟨c, hc⟩ := Option.isSome_iff_exists.mp h3
      exact all_plain (by exact s_call G PG hc h2 h4 h5 (okA as S X W _ G h6).1) rfl
    · cases h
  | .lc it t c b own, S, X, W, e, G, h => by
    simp only [chkE] at h
    split at h
    · rename_i elt tg iter scope pos
      obtain ⟨h1, h⟩ := ba h
      obtain ⟨h2, h⟩ := ba h
      obtain ⟨h3, h⟩ := ba h
      obtain ⟨h4, h⟩ := ba h
      obtain ⟨h5, h⟩ := ba h
      obtain ⟨h6, h7⟩ := ba h
      have hb : BlkOk X.N X.env.scope scope (ownN S own) := by rw [G.names, G.scope]; exact blkOk_by h3
      have gb := fun s H C cl fp => G.blk hb.kind s H C cl fp
      have key := s_lc (own := ownN S own) (mc := ev (run T n) c) G (okI it S X W tg iter G h1) hb (fun i hi => by
          rw [own_eq]
          have := List.all_eq_true.mp h4 i hi
          simpa using this)
        (fun s H C cl fp => g_tg (gb s H C cl fp) t tg h5)
        (fun s H C cl fp => by
          refine ⟨fun pins s1 σ H1 Q I q => pts_nil.run pins s1 σ H1 Q I ?_⟩
          obtain ⟨ι, σp, hh, so, O, F⟩ := q
          split at h6
          · exact F ι H1 .refl O
          · cases h6)
        (fun s H C cl fp => unf (okE b _ _ _ _ (gb s H C cl fp) h7).1) (folded_of h2) (pos := pos)
      rw [own_eq] at key
      exact all_plain (by exact key) rfl
    · rename_i elt tg iter i scope pos
      obtain ⟨h1, h⟩ := ba h
      obtain ⟨h2, h⟩ := ba h
      obtain ⟨h3, h⟩ := ba h
      obtain ⟨h4, h⟩ := ba h
      obtain ⟨h5, h⟩ := ba h
      obtain ⟨h6, h7⟩ := ba h
      have hb : BlkOk X.N X.env.scope scope (ownN S own) := by rw [G.names, G.scope]; exact blkOk_by h3
      have gb := fun s H C cl fp => G.blk hb.kind s H C cl fp
      have key := s_lc (own := ownN S own) (mc := ev (run T n) c) G (okI it S X W tg iter G h1) hb (fun i hi => by
          rw [own_eq]
          have := List.all_eq_true.mp h4 i hi
          simpa using this)
        (fun s H C cl fp => g_tg (gb s H C cl fp) t tg h5)
        (fun s H C cl fp => pts_one (okE c _ _ _ _ (gb s H C cl fp) h6).2.1)
        (fun s H C cl fp => unf (okE b _ _ _ _ (gb s H C cl fp) h7).1) (folded_of h2) (pos := pos)
      rw [own_eq] at key
      exact all_plain (by exact key) rfl
    · cases h
  | .lc2 it t c it1 t1 c1 b own own1, S, X, W, e, G, h => by
    simp only [chkE] at h
    split at h
    · rename_i elt tg iter tg1 iter1 scope pos
      obtain ⟨h1, h⟩ := ba h
      obtain ⟨h2, h⟩ := ba h
      obtain ⟨h3, h⟩ := ba h
      obtain ⟨h4, h⟩ := ba h
      obtain ⟨h5, h⟩ := ba h
      obtain ⟨h6, h⟩ := ba h
      obtain ⟨h7, h⟩ := ba h
      obtain ⟨h8, h⟩ := ba h
      obtain ⟨h9, h⟩ := ba h
      obtain ⟨h10, h⟩ := ba h
      obtain ⟨h11, h⟩ := ba h
      obtain ⟨h12, h13⟩ := ba h
      have hb : BlkOk X.N X.env.scope scope (ownN S own) := by rw [G.names, G.scope]; exact blkOk_by h4
      have gb := fun s H C cl fp => G.blk hb.kind s H C cl fp
      have key := s_lc2 (own := ownN S own) (vs1 := own1) (mc := ev (run T n) c) (mc1 := ev (run T n) c1) G (okI it S X W tg iter G h1) hb (fun i hi => by
          rw [own_eq]
          have := List.all_eq_true.mp h7 i hi
          simpa using this) (fun i hi => by
          rw [own_eq]
          have := List.all_eq_true.mp h5 i hi
          simpa using this) (fun i hi => by
          skip
          have := List.all_eq_true.mp h6 i hi
          simpa using this)
        (fun s H C cl fp => g_tg (gb s H C cl fp) t tg h8) (fun s H C cl fp => tru_pts h10)
        (fun s H C cl fp => okI it1 _ _ _ tg1 iter1 (gb s H C cl fp) h12) (fun s H C cl fp => g_tg (gb s H C cl fp) t1 tg1 h9) (fun s H C cl fp => tru_pts h11)
        (fun s H C cl fp => unf (okE b _ _ _ _ (gb s H C cl fp) h13).1) (folded_of h2) (fun env => folded_of h3) (pos := pos)
      rw [own_eq] at key
      exact all_plain (by exact key) rfl
    · rename_i elt tg iter tg1 iter1 i scope pos
      obtain ⟨h1, h⟩ := ba h
      obtain ⟨h2, h⟩ := ba h
      obtain ⟨h3, h⟩ := ba h
      obtain ⟨h4, h⟩ := ba h
      obtain ⟨h5, h⟩ := ba h
      obtain ⟨h6, h⟩ := ba h
      obtain ⟨h7, h⟩ := ba h
      obtain ⟨h8, h⟩ := ba h
      obtain ⟨h9, h⟩ := ba h
      obtain ⟨h10, h⟩ := ba h
      obtain ⟨h11, h⟩ := ba h
      obtain ⟨h12, h13⟩ := ba h
      have hb : BlkOk X.N X.env.scope scope (ownN S own) := by rw [G.names, G.scope]; exact blkOk_by h4
      have gb := fun s H C cl fp => G.blk hb.kind s H C cl fp
      have key := s_lc2 (own := ownN S own) (vs1 := own1) (mc := ev (run T n) c) (mc1 := ev (run T n) c1) G (okI it S X W tg iter G h1) hb (fun i hi => by
          rw [own_eq]
          have := List.all_eq_true.mp h7 i hi
          simpa using this) (fun i hi => by
          rw [own_eq]
          have := List.all_eq_true.mp h5 i hi
          simpa using this) (fun i hi => by
          skip
          have := List.all_eq_true.mp h6 i hi
          simpa using this)
        (fun s H C cl fp => g_tg (gb s H C cl fp) t tg h8) (fun s H C cl fp => tru_pts h10)
        (fun s H C cl fp => okI it1 _ _ _ tg1 iter1 (gb s H C cl fp) h12) (fun s H C cl fp => g_tg (gb s H C cl fp) t1 tg1 h9) (fun s H C cl fp => pts_one (okE c1 _ _ _ _ (gb s H C cl fp) h11).2.1)
        (fun s H C cl fp => unf (okE b _ _ _ _ (gb s H C cl fp) h13).1) (folded_of h2) (fun env => folded_of h3) (pos := pos)
      rw [own_eq] at key
      exact all_plain (by exact key) rfl
    · cases h
theorem okA : ∀ (as : CA) (S : SC) (X : Cx) (W : WX) (es : List Expr), Good P w K mg base n S X W → chkA T Bs as S es = true → PA X es (TAa W K (evA (run T n) as)) ∧ PA X es (TAd W K (evD (run T n) as))
  | .nil, S, X, W, es, G, h => by
    simp only [chkA] at h
    split at h
    · exact ⟨by exact a_nil, by exact d_nil⟩
    · cases h
  | .cons a as, S, X, W, es, G, h => by
    simp only [chkA] at h
    split at h
    · obtain ⟨h1, h⟩ := ba h
      obtain ⟨h2, h3⟩ := ba h
      have A := okE a S X W _ G h2
      have B := okA as S X W _ G h3
      exact ⟨by exact a_cons A.1 B.1 h1, by exact d_cons A.1 B.2 h1⟩
    · cases h
theorem okO : ∀ (o : CO) (S : SC) (X : Cx) (W : WX) (e : Option Expr), Good P w K mg base n S X W → chkO T Bs o S e = true → PO X e (TOp W K (evO (run T n) o))
  | .no, S, X, W, e, G, h => by
    simp only [chkO] at h
    split at h
    · exact o_no
    · cases h
  | .so a, S, X, W, e, G, h => by
    simp only [chkO] at h
    split at h
    · exact o_so (okE a S X W _ G h).1
    · cases h
theorem okI : ∀ (i : CI) (S : SC) (X : Cx) (W : WX) (tg e : Expr), Good P w K mg base n S X W → chkI T Bs i S tg e = true → PI X tg e (TIt W K (evI (run T n) i))
  | .seq a, S, X, W, tg, e, G, h => by
    simp only [chkI] at h
    exact i_seq (okE a S X W _ G h).1
  | .rng a, S, X, W, tg, e, G, h => by
    simp only [chkI] at h
    split at h
    · obtain ⟨h2, h⟩ := ba h
      obtain ⟨h3, h⟩ := ba h
      obtain ⟨h4, h⟩ := ba h
      obtain ⟨h5, h6⟩ := ba h
      rw [dec_of h2]
      exact i_rng G PG (mem_of h3) h4 h5 (okE a S X W _ G h6).1
    · cases h
  | .rng2 a b, S, X, W, tg, e, G, h => by
    simp only [chkI] at h
    split at h
    · obtain ⟨h2, h⟩ := ba h
      obtain ⟨h3, h⟩ := ba h
      obtain ⟨h4, h⟩ := ba h
      obtain ⟨h5, h⟩ := ba h
      obtain ⟨h6, h⟩ := ba h
      obtain ⟨h7, h8⟩ := ba h
      rw [dec_of h2]
      exact i_rng2 G PG (mem_of h3) h4 h5 h6 (okE a S X W _ G h7).1 (okE b S X W _ G h8).1
    · cases h
  | .zip a b, S, X, W, tg, e, G, h => by
    simp only [chkI] at h
    obtain ⟨ht, hq⟩ := ba h
    clear h
    cases tg with
    | Tuple es k pos =>
      split at hq
      · obtain ⟨h2, h⟩ := ba hq
        obtain ⟨h3, h⟩ := ba h
        obtain ⟨h4, h⟩ := ba h
        obtain ⟨h5, h⟩ := ba h
        obtain ⟨h6, h⟩ := ba h
        obtain ⟨h7, h8⟩ := ba h
        rw [dec_of h2]
        exact i_zip G PG (mem_of h3) h4 h5 h6 (okE a S X W _ G h7).1 (okE b S X W _ G h8).1
      · cases hq
    | _ => cases ht
  | .enum a, S, X, W, tg, e, G, h => by
    simp only [chkI] at h
    obtain ⟨ht, hq⟩ := ba h
    clear h
    cases tg with
    | Tuple es k pos =>
      split at hq
      · obtain ⟨h2, h⟩ := ba hq
        obtain ⟨h3, h⟩ := ba h
        obtain ⟨h4, h⟩ := ba h
        obtain ⟨h5, h6⟩ := ba h
        rw [dec_of h2]
        exact i_enum G PG (mem_of h3) h4 h5 (okE a S X W _ G h6).1
      · cases hq
    | _ => cases ht
end
end
end J
end JAll

section JBlk
set_option Elab.async false
set_option linter.all false
set_option maxRecDepth 100000
set_option autoImplicit false
set_option maxHeartbeats 8000000
/-! J.Blk: statements against the text. -/
namespace J
open PySem PySem.Spec PyProof.Rows L2
def lcSwap (sc : Scope) (x : Str) (p vp : Pos) (scope : Scope) : Bool := (sc.names.lookup x == some .local && p.line == vp.line) && !(scope.names.any fun (n, k) => n == x && (k == .local || k == .cell))
theorem sw_lc {elt : Expr} {gs : List Comprehension} {scope : Scope} {vp p : Pos} {x : Str} {l : Nat} {env : Env} (hk : env.scope.kind = .function) : swapsWith (.ListComp elt gs scope vp) (some (.Name x p)) l env = pure (lcSwap env.scope x p vp scope) := by
  have e : (env.blockKind == .function) = true := by
    unfold Env.blockKind
    rw [hk]
    rfl
  unfold swapsWith
  show (pure (env.blockKind == .function && env.scope.names.lookup x == some .local && p.line == vp.line && !(scope.names.any fun (n, k) => n == x && (k == .local || k == .cell))) : Sem Bool) = _
  rw [e, Bool.true_and]
  rfl
section
variable (T : String → Option CDef) (Bs Es : List String)
def chkP : List (Nat × Bool) → CA → SC → List Expr → Bool
  | [], .nil, _, [] => true
  | (_, b) :: is, .cons a as, S, x :: xs => notStar x && ((!b || fresh a) && (chkE T Bs a S x && chkP is as S xs))
  | _, _, _, _ => false
def chkH (S : SC) : List (String × Lit) → List ExceptHandler → Bool
  | [], [] => true
  | (x, .str s) :: hs, .ExceptHandler (some (.Name g _)) none [.Return (some (.Constant (.str z) _ _)) _] _ :: hds => decide (g = Str.ofString x) && (decide (z = Str.ofString s) && (Es.contains x && (S.glb (Str.ofString x) && chkH S hs hds)))
  | _, _ => false
def isLc : Expr → Bool
  | .ListComp _ _ _ _ => true
  | _ => false
mutual
def chkS : CS → SC → Stmt → Bool
  | .asg i e, S, st => (match st with | .Assign [.Name x _] v _ => S.stor i x && ((notComp v || isLc v) && chkE T Bs e S v) | _ => false)
  | .asgT t e, S, st => (match st with | .Assign [.Tuple es _ _] v _ => (match t with | .tup ts => chkTs S es ts | _ => false) && (notComp v && ((!isTup v) && chkE T Bs e S v)) | _ => false)
  | .asgC i e, S, st => (match st with | .Assign [.Name x _] v _ => S.stor i x && (fresh e && (notComp v && chkE T Bs e S v)) | _ => false)
  | .par is es, S, st => (match st with
    | .Assign [.Tuple ts _ _] (.Tuple vs _ _) _ => chkNs S ts is && (chkP T Bs is es S vs && (decide (is.length ≤ 1000) && (swNo S.sc ts vs ||
      (match ts, vs with
      | [.Name x _, .Name y _], [_, _] => swYes S.sc ts vs && (decide (swN S.sc ts = [x, y]) && (decide (S.sc.names.lookup x = some .local) && (decide (S.sc.names.lookup y = some .local) && decide (x ≠ y))))
      | [.Name x _, .Name y _, .Name z _], [_, _, _] => swYes S.sc ts vs && (decide (swN S.sc ts = [x, y, z]) && (decide (S.sc.names.lookup x = some .local) && (decide (S.sc.names.lookup y = some .local) && (decide (S.sc.names.lookup z = some .local) && decide (x ≠ y ∧ x ≠ z ∧ y ≠ z)))))
      | _, _ => false))))
    | _ => false)
  | .aug i e, S, st => (match st with | .AugAssign (.Name x _) .Add v _ => S.stor i x && chkE T Bs e S v | _ => false)
  | .expr e, S, st => (match st with | .Expr v _ => notComp v && chkE T Bs e S v | _ => false)
  | .app i e, S, st => (match st with | .Expr (.Call (.Attribute (.Name x _) m apos) [v] [] p2) _ => decide (m = Str.ofString "append") && (S.vis i x && (notStar v && ((apos.endLine == p2.line) && chkE T Bs e S v))) | _ => false)
  | .put i k e, S, st => (match st with | .Assign [.Subscript (.Name x _) kx _] v _ => S.vis i x && (notComp v && (notSlice kx && (chkE T Bs e S v && chkE T Bs k S kx))) | _ => false)
  | .ret e, S, st => (match st with | .Return (some v) _ => chkE T Bs e S v | _ => false)
  | .ite c a b, S, st => (match st with | .If t x y _ => chkE T Bs c S t && (chkB a S x && chkB b S y) | _ => false)
  | .for_ it t b, S, st => (match st with | .For tg iter body [] _ => chkI T Bs it S tg iter && (notSet iter && (chkT S tg t && chkB b S body)) | _ => false)
  | .whl c b, S, st => (match st with | .While t body [] _ => chkE T Bs c S t && chkB b S body | _ => false)
  | .raise c, S, st => (match st with | .Raise (some (.Call (.Name g _) [] [] _)) none _ => decide (g = Str.ofString c) && (Es.contains c && S.glb (Str.ofString c)) | _ => false)
  | .try_ e hs, S, st => (match st with | .Try [.Return (some v) _] (h :: hds) [] [] _ => chkE T Bs e S v && chkH Es S hs (h :: hds) | _ => false)
  | .pass, _, st => (match st with | .Pass _ => true | _ => false)
def chkB : CB → SC → List Stmt → Bool
  | .nil, _, l => (match l with | [] => true | _ => false)
  | .cons s b, S, l => (match l with | st :: r => chkS s S st && chkB b S r | _ => false)
end
end
theorem chkH_ok {S : SC} {Es : List String} : ∀ {hs : List (String × Lit)} {hds : List ExceptHandler}, chkH Es S hs hds = true → ∃ l : List (String × String), hs = l.map (fun q => (q.1, Lit.str q.2)) ∧ (∀ q ∈ l, q.1 ∈ Es) ∧ Hds S Es hds l := by
  intro hs
  induction hs with
  | nil =>
    intro hds h
    cases hds with
    | nil => exact ⟨[], rfl, (fun _ q => nomatch q), .nil⟩
    | cons _ _ => simp [chkH] at h
  | cons q hs ih =>
    intro hds h
    unfold chkH at h
    split at h
    · rename_i e1 e2; cases e2
    · rename_i x s hs' g np z j cp rp pos hds' e1 
      cases e1
      obtain ⟨h1, h⟩ := ba h
      obtain ⟨h2, h⟩ := ba h
      obtain ⟨h3, h⟩ := ba h
      obtain ⟨h4, h5⟩ := ba h
      obtain ⟨l, e, hE, hH⟩ := ih h5
      have h1' := of_decide_eq_true h1
      have h2' := of_decide_eq_true h2
      subst h1' h2'
      refine ⟨(x, s) :: l, by rw [e]; rfl, fun q hq => ?_, .cons (mem_of h3) h4 hH⟩
      rcases List.mem_cons.mp hq with z | z
      · subst z; exact mem_of h3
      · exact hE q z
    · cases h
theorem asg_sub {x : Str} {p p2 : Pos} {kx : Expr} {env : Env} (h : notSlice kx = true) (v : Value) : assign (.Subscript (.Name x p) kx p2) env v = (do
      let ov ← holding [v] (eval (.Name x p) env)
      let iv ← holding [v, ov] (eval kx env)
      standAt p2
      holding [v, ov, iv] (setItem ov iv v)
      release [v, ov, iv] []) := by cases kx <;> first | rfl | cases h
theorem evP_len {Γ : Fns} : ∀ {is : List (Nat × Bool)} {es : CA} {σ : PEnv} {h h' : PH} {pvs : List PV}, evP Γ is es σ h = .ok pvs h' → pvs.length = is.length
  | [], .nil, _, _, _, _, q => by simp only [evP, Rs.ok.injEq] at q; rw [← q.1]; rfl
  | [], .cons _ _, _, _, _, _, q => by simp [evP] at q
  | (_, _) :: _, .nil, _, _, _, _, q => by simp [evP] at q
  | (_, false) :: is, .cons a as, _, _, _, _, q => by
    simp only [evP] at q
    obtain ⟨_, _, _, q⟩ := bind_ok q
    obtain ⟨xs, _, q1, q⟩ := bind_ok q
    cases q
    simp only [List.length_cons, evP_len q1]
  | (_, true) :: is, .cons a as, _, _, _, _, q => by
    simp only [evP] at q
    obtain ⟨_, _, _, q⟩ := bind_ok q
    obtain ⟨_, _, _, q⟩ := bind_ok q
    obtain ⟨xs, _, q1, q⟩ := bind_ok q
    cases q
    simp only [List.length_cons, evP_len q1]
section
variable {P : Program} {w : World} {K : PySem.W.Frag} {mg : Str → Option Value} {base : Heap} {n : Nat} {T : String → Option CDef} {Bs Es : List String} (PG : Pg P w K mg base T Bs Es n) {S : SC} {X : Cx} {W : WX} (G : Good P w K mg base n S X W)
include PG G
theorem okP : ∀ (is : List (Nat × Bool)) (es : CA) (vs : List Expr), chkP T Bs is es S vs = true → PA X vs (TAa W K (evP (run T n) is es))
  | [], .nil, [], _ => by exact a_nil
  | [], .nil, _ :: _, h => by simp [chkP] at h
  | [], .cons _ _, _, h => by simp [chkP] at h
  | _ :: _, .nil, _, h => by simp [chkP] at h
  | _ :: _, .cons _ _, [], h => by simp [chkP] at h
  | (i, b) :: is, .cons a as, v :: vs, h => by
    simp only [chkP] at h
    obtain ⟨h1, h⟩ := ba h
    obtain ⟨h2, h⟩ := ba h
    obtain ⟨h3, h4⟩ := ba h
    have A := (okE PG a S X W v G h3).1
    have B := okP is as vs h4
    cases b with
    | false => exact a_cons A B h1
    | true =>
      rw [show fresh a = true by simpa using h2] at A
      exact a_consC A B h1
omit G
theorem asgLc_ok {elt : Expr} {gs : List Comprehension} {scope : Scope} {vp p pos : Pos} {x : Str} {i : Nat} {c : CE} (G : Good P w K mg base n S X W) (h : chkE T Bs c S (.ListComp elt gs scope vp) = true) (hx : S.stor i x = true) (hsw : lcSwap S.sc x p vp scope = true) :
    PS X (.Assign [.Name x p] (.ListComp elt gs scope vp) pos) (TSd W K fun σ h => (ev (run T n) c σ h).bind fun x h1 => .ok (.nx (σ.set i (some x))) h1) := by
  have sw : swapsWith (.ListComp elt gs scope vp) (some (.Name x p)) pos.line X.env = pure true := by rw [sw_lc (by rw [G.scope]; exact G.kind), G.scope, hsw]
  have hl : S.sc.names.lookup x = some .local := eq_of_beq (ba (ba hsw).1).1
  cases c with
  | lc it t c b own =>
    simp only [chkE] at h
    split at h
    · rename_i elt' tg iter scope' vp' e
      cases e
      obtain ⟨h1, h⟩ := ba h
      obtain ⟨h2, h⟩ := ba h
      obtain ⟨h3, h⟩ := ba h
      obtain ⟨h4, h⟩ := ba h
      obtain ⟨h5, h⟩ := ba h
      obtain ⟨h6, h7⟩ := ba h
      have hb : BlkOk X.N X.env.scope scope (ownN S own) := by rw [G.names, G.scope]; exact blkOk_by h3
      have gb := fun s H C cl fp => G.blk hb.kind s H C cl fp
      have key := p_asgLc (own := ownN S own) (mc := ev (run T n) c) (i := i) (pos := pos) G (okI PG it S X W tg iter G h1) hb (fun i hi => by
          rw [own_eq]
          have := List.all_eq_true.mp h4 i hi
          simpa using this)
        (fun s H C cl fp => g_tg (gb s H C cl fp) t tg h5)
        (fun s H C cl fp => by
          refine ⟨fun pins s1 σ H1 Q I q => pts_nil.run pins s1 σ H1 Q I ?_⟩
          obtain ⟨ι, σp, hh, so, O, F⟩ := q
          split at h6
          · exact F ι H1 .refl O
          · cases h6)
        (fun s H C cl fp => unf (okE PG b _ _ _ _ (gb s H C cl fp) h7).1) (folded_of h2) hx hl sw
      rw [own_eq] at key
      exact key
    · rename_i elt' tg iter ic scope' vp' e
      cases e
      obtain ⟨h1, h⟩ := ba h
      obtain ⟨h2, h⟩ := ba h
      obtain ⟨h3, h⟩ := ba h
      obtain ⟨h4, h⟩ := ba h
      obtain ⟨h5, h⟩ := ba h
      obtain ⟨h6, h7⟩ := ba h
      have hb : BlkOk X.N X.env.scope scope (ownN S own) := by rw [G.names, G.scope]; exact blkOk_by h3
      have gb := fun s H C cl fp => G.blk hb.kind s H C cl fp
      have key := p_asgLc (own := ownN S own) (mc := ev (run T n) c) (i := i) (pos := pos) G (okI PG it S X W tg iter G h1) hb (fun i hi => by
          rw [own_eq]
          have := List.all_eq_true.mp h4 i hi
          simpa using this)
        (fun s H C cl fp => g_tg (gb s H C cl fp) t tg h5)
        (fun s H C cl fp => pts_one (okE PG c _ _ _ _ (gb s H C cl fp) h6).2.1)
        (fun s H C cl fp => unf (okE PG b _ _ _ _ (gb s H C cl fp) h7).1) (folded_of h2) hx hl sw
      rw [own_eq] at key
      exact key
    · cases h
  | lc2 it t c it1 t1 c1 b own own1 =>
    simp only [chkE] at h
    split at h
    · rename_i elt' tg iter tg1 iter1 scope' vp' e
      cases e
      obtain ⟨h1, h⟩ := ba h
      obtain ⟨h2, h⟩ := ba h
      obtain ⟨h3, h⟩ := ba h
      obtain ⟨h4, h⟩ := ba h
      obtain ⟨h5, h⟩ := ba h
      obtain ⟨h6, h⟩ := ba h
      obtain ⟨h7, h⟩ := ba h
      obtain ⟨h8, h⟩ := ba h
      obtain ⟨h9, h⟩ := ba h
      obtain ⟨h10, h⟩ := ba h
      obtain ⟨h11, h⟩ := ba h
      obtain ⟨h12, h13⟩ := ba h
      have hb : BlkOk X.N X.env.scope scope (ownN S own) := by rw [G.names, G.scope]; exact blkOk_by h4
      have gb := fun s H C cl fp => G.blk hb.kind s H C cl fp
      have key := p_asgLc2 (own := ownN S own) (vs1 := own1) (mc := ev (run T n) c) (mc1 := ev (run T n) c1) (i := i) (pos := pos) G (okI PG it S X W tg iter G h1) hb (fun i hi => by
          rw [own_eq]
          have := List.all_eq_true.mp h7 i hi
          simpa using this) (fun i hi => by
          rw [own_eq]
          have := List.all_eq_true.mp h5 i hi
          simpa using this) (fun i hi => by
          skip
          have := List.all_eq_true.mp h6 i hi
          simpa using this)
        (fun s H C cl fp => g_tg (gb s H C cl fp) t tg h8) (fun s H C cl fp => tru_pts h10)
        (fun s H C cl fp => okI PG it1 _ _ _ tg1 iter1 (gb s H C cl fp) h12) (fun s H C cl fp => g_tg (gb s H C cl fp) t1 tg1 h9) (fun s H C cl fp => tru_pts h11)
        (fun s H C cl fp => unf (okE PG b _ _ _ _ (gb s H C cl fp) h13).1) (folded_of h2) (fun env => folded_of h3) hx hl sw
      rw [own_eq] at key
      exact key
    · rename_i elt' tg iter tg1 iter1 ic scope' vp' e
      cases e
      obtain ⟨h1, h⟩ := ba h
      obtain ⟨h2, h⟩ := ba h
      obtain ⟨h3, h⟩ := ba h
      obtain ⟨h4, h⟩ := ba h
      obtain ⟨h5, h⟩ := ba h
      obtain ⟨h6, h⟩ := ba h
      obtain ⟨h7, h⟩ := ba h
      obtain ⟨h8, h⟩ := ba h
      obtain ⟨h9, h⟩ := ba h
      obtain ⟨h10, h⟩ := ba h
      obtain ⟨h11, h⟩ := ba h
      obtain ⟨h12, h13⟩ := ba h
      have hb : BlkOk X.N X.env.scope scope (ownN S own) := by rw [G.names, G.scope]; exact blkOk_by h4
      have gb := fun s H C cl fp => G.blk hb.kind s H C cl fp
      have key := p_asgLc2 (own := ownN S own) (vs1 := own1) (mc := ev (run T n) c) (mc1 := ev (run T n) c1) (i := i) (pos := pos) G (okI PG it S X W tg iter G h1) hb (fun i hi => by
          rw [own_eq]
          have := List.all_eq_true.mp h7 i hi
          simpa using this) (fun i hi => by
          rw [own_eq]
          have := List.all_eq_true.mp h5 i hi
          simpa using this) (fun i hi => by
          skip
          have := List.all_eq_true.mp h6 i hi
          simpa using this)
        (fun s H C cl fp => g_tg (gb s H C cl fp) t tg h8) (fun s H C cl fp => tru_pts h10)
        (fun s H C cl fp => okI PG it1 _ _ _ tg1 iter1 (gb s H C cl fp) h12) (fun s H C cl fp => g_tg (gb s H C cl fp) t1 tg1 h9) (fun s H C cl fp => pts_one (okE PG c1 _ _ _ _ (gb s H C cl fp) h11).2.1)
        (fun s H C cl fp => unf (okE PG b _ _ _ _ (gb s H C cl fp) h13).1) (folded_of h2) (fun env => folded_of h3) hx hl sw
      rw [own_eq] at key
      exact key
    · cases h
  | _ => simp [chkE] at h
variable (Po : PassesOwn (model X.prog X.w) X.A X.env X.xe) (hs : X.stack = X.env :: X.outer) (hf : X.env.frame = some X.env.locals)
include G Po hs hf
mutual
theorem okS : ∀ (c : CS) (st : Stmt), chkS T Bs Es c S st = true → PS X st (TSd W K (ex (run T n) c))
  | .asg i e, st, h => by
    simp only [chkS] at h
    split at h
    · rename_i x p v pos
      obtain ⟨h1, h⟩ := ba h
      obtain ⟨h2, h3⟩ := ba h
      cases hn : notComp v with
      | true => exact p_asg G h1 (okE PG e S X W _ G h3).1 (noswap hn)
      | false =>
        rw [hn, Bool.false_or] at h2
        cases v with
        | ListComp elt gs scope vp =>
          cases hc : lcSwap S.sc x p vp scope with
          | true => exact asgLc_ok PG G h3 h1 hc
          | false => exact p_asg G h1 (okE PG e S X W _ G h3).1 (by rw [sw_lc (by rw [G.scope]; exact G.kind), G.scope, hc])
        | _ => cases h2
    · cases h
  | .asgT t e, st, h => by
    simp only [chkS] at h
    split at h
    · obtain ⟨h1, h⟩ := ba h
      obtain ⟨h2, h⟩ := ba h
      obtain ⟨h3, h4⟩ := ba h
      split at h1
      · exact p_asgT G h1 (okE PG e S X W _ G h4).1 h2 (nt h3)
      · cases h1
    · cases h
  | .asgC i e, st, h => by
    simp only [chkS] at h
    split at h
    · obtain ⟨h1, h⟩ := ba h
      obtain ⟨h2, h⟩ := ba h
      obtain ⟨h3, h4⟩ := ba h
      have A := (okE PG e S X W _ G h4).1
      rw [h2] at A
      exact p_asgC G h1 A (noswap h3)
    · cases h
  | .par is es, st, h => by
    simp only [chkS] at h
    split at h
    · rename_i ts k p vs k2 p2 pos
      obtain ⟨h1, h⟩ := ba h
      obtain ⟨h2, h⟩ := ba h
      obtain ⟨h3, h⟩ := ba h
      have A := okP PG G is es vs h2
      cases hn : swNo S.sc ts vs with
      | true => exact p_par G h1 hn (of_decide_eq_true h3) A fun _ _ _ _ q => evP_len q
      | false =>
        rw [hn, Bool.false_or] at h
        split at h
        · rename_i x px y py v1 v2
          obtain ⟨y1, h⟩ := ba h
          obtain ⟨y2, h⟩ := ba h
          obtain ⟨y3, h⟩ := ba h
          obtain ⟨y4, y5⟩ := ba h
          match is, h1, A with
          | [(i, bi), (j, bj)], h1, A =>
            simp only [chkNs] at h1
            obtain ⟨z1, h1⟩ := ba h1
            obtain ⟨z2, _⟩ := ba h1
            exact p_par2 G z1 z2 y1 (of_decide_eq_true y2) (of_decide_eq_true y3) (of_decide_eq_true y4) (of_decide_eq_true y5) A fun _ _ _ _ q => evP_len q
          | [], h1, _ => simp [chkNs] at h1
          | [_], h1, _ => simp [chkNs] at h1
          | _ :: _ :: _ :: _, h1, _ => simp [chkNs] at h1
        · rename_i x px y py z pz v1 v2 v3
          obtain ⟨y1, h⟩ := ba h
          obtain ⟨y2, h⟩ := ba h
          obtain ⟨y3, h⟩ := ba h
          obtain ⟨y4, h⟩ := ba h
          obtain ⟨y5, y6⟩ := ba h
          match is, h1, A with
          | [(i, bi), (j, bj), (l, bl)], h1, A =>
            simp only [chkNs] at h1
            obtain ⟨z1, h1⟩ := ba h1
            obtain ⟨z2, h1⟩ := ba h1
            obtain ⟨z3, _⟩ := ba h1
            exact p_par3 G z1 z2 z3 y1 (of_decide_eq_true y2) (of_decide_eq_true y3) (of_decide_eq_true y4) (of_decide_eq_true y5) (of_decide_eq_true y6) A fun _ _ _ _ q => evP_len q
          | [], h1, _ => simp [chkNs] at h1
          | [_], h1, _ => simp [chkNs] at h1
          | [_, _], h1, _ => simp [chkNs] at h1
          | _ :: _ :: _ :: _ :: _, h1, _ => simp [chkNs] at h1
        · cases h
    · cases h
  | .aug i e, st, h => by
    simp only [chkS] at h
    split at h
    · obtain ⟨h1, h2⟩ := ba h
      exact p_aug G h1 (okE PG e S X W _ G h2).1
    · cases h
  | .expr e, st, h => by
    simp only [chkS] at h
    split at h
    · obtain ⟨h1, h2⟩ := ba h
      exact p_expr (okE PG e S X W _ G h2).1 h1
    · cases h
  | .app i e, st, h => by
    simp only [chkS] at h
    split at h
    · obtain ⟨h1, h⟩ := ba h
      obtain ⟨h2, h⟩ := ba h
      obtain ⟨h3, h⟩ := ba h
      obtain ⟨h4, h5⟩ := ba h
      rw [dec_of h1]
      exact p_app G h2 h3 h4 (okE PG e S X W _ G h5).1
    · cases h
  | .put i k e, st, h => by
    simp only [chkS] at h
    split at h
    · obtain ⟨h1, h⟩ := ba h
      obtain ⟨h2, h⟩ := ba h
      obtain ⟨h3, h⟩ := ba h
      obtain ⟨h4, h5⟩ := ba h
      exact p_put G h1 (okE PG e S X W _ G h4).1 (okE PG k S X W _ G h5).1 h2 fun v => asg_sub h3 v
    · cases h
  | .ret e, st, h => by
    simp only [chkS] at h
    split at h
    · exact p_ret (okE PG e S X W _ G h).1
    · cases h
  | .ite c a b, st, h => by
    simp only [chkS] at h
    split at h
    · obtain ⟨h1, h⟩ := ba h
      obtain ⟨h2, h3⟩ := ba h
      exact p_ite (okE PG c S X W _ G h1).2.1 (okB a _ h2) (okB b _ h3)
    · cases h
  | .for_ it t b, st, h => by
    simp only [chkS] at h
    split at h
    · obtain ⟨h1, h⟩ := ba h
      obtain ⟨h2, h⟩ := ba h
      obtain ⟨h3, h4⟩ := ba h
      exact p_for G Po (okI PG it S X W _ _ G h1) (g_tg G t _ h3) (okB b _ h4) (folded_of h2)
    · cases h
  | .whl c b, st, h => by
    simp only [chkS] at h
    split at h
    · obtain ⟨h1, h2⟩ := ba h
      exact p_whl Po (okE PG c S X W _ G h1).2.1 (okB b _ h2)
    · cases h
  | .raise c, st, h => by
    simp only [chkS] at h
    split at h
    · obtain ⟨h1, h⟩ := ba h
      obtain ⟨h2, h3⟩ := ba h
      rw [dec_of h1]
      exact p_raise G PG (mem_of h2) h3
    · cases h
  | .try_ e hs', st, h => by
    simp only [chkS] at h
    split at h
    · obtain ⟨h1, h2⟩ := ba h
      obtain ⟨l, rfl, hE, hH⟩ := chkH_ok h2
      exact p_try G PG hs hf (fun W' pn xe tk => (okE PG e S _ W' _ (G.tr tk) h1).1) hE hH
    · cases h
  | .pass, st, h => by
    simp only [chkS] at h
    split at h
    · exact p_pass
    · cases h
theorem okB : ∀ (b : CB) (l : List Stmt), chkB T Bs Es b S l = true → PSs X l (TSd W K (exB (run T n) b))
  | .nil, l, h => by
    simp only [chkB] at h
    split at h
    · exact b_nil
    · cases h
  | .cons s b, l, h => by
    simp only [chkB] at h
    split at h
    · obtain ⟨h1, h2⟩ := ba h
      exact b_cons (okS s _ h1) (okB b _ h2)
    · cases h
end
end
end J
end JBlk

section JDef
set_option Elab.async false
set_option linter.all false
set_option maxRecDepth 100000
set_option autoImplicit false
set_option maxHeartbeats 8000000
/-! J.Def: each def of the program is run as the core says, at any depth. -/
namespace J
open PySem PySem.Spec PyProof.Rows L2
/-! ### binding -/
theorem lookup_zip {α : Type} : ∀ {xs : List Str} {us : List α} {x : Str}, x ∈ xs → us.length = xs.length → ∃ u, (xs.zip us).lookup x = some u
  | [], _, _, h, _ => by cases h
  | y :: ys, [], _, _, h => by cases h
  | y :: ys, u :: us, x, h, hl => by
    simp only [List.zip_cons_cons, List.lookup_cons]
    cases e : x == y with
    | true => exact ⟨u, rfl⟩
    | false =>
      have hx : x ∈ ys := (List.mem_cons.mp h).resolve_left fun z => by subst z; simp at e
      exact lookup_zip hx (Nat.succ.inj hl)
theorem zip_filterMap {α : Type} : ∀ {xs : List Str} {us : List α} (l : List (Str × α)), xs.Nodup → us.length = xs.length → (∀ p ∈ xs.zip us, l.lookup p.1 = some p.2) → xs.filterMap (fun n => (l.lookup n).map (n, ·)) = xs.zip us
  | [], _, _, _, _, _ => rfl
  | y :: ys, [], _, _, h, _ => by cases h
  | y :: ys, u :: us, l, nd, hl, h => by
    rw [List.filterMap_cons, h (y, u) (by simp)]
    simp only [Option.map_some, List.zip_cons_cons]
    rw [zip_filterMap l (List.nodup_cons.mp nd).2 (Nat.succ.inj hl) fun p hp => h p (by simp only [List.zip_cons_cons]; exact List.mem_cons_of_mem _ hp)]
theorem zip_lookup {α : Type} : ∀ {xs : List Str} {us : List α}, xs.Nodup → us.length = xs.length → ∀ p ∈ xs.zip us, (xs.zip us).lookup p.1 = some p.2
  | [], _, _, _, p, h => by cases h
  | y :: ys, [], _, h, _, _ => by cases h
  | y :: ys, u :: us, nd, hl, p, hp => by
    simp only [List.zip_cons_cons] at hp ⊢
    rcases List.mem_cons.mp hp with e | e
    · subst e; simp [List.lookup_cons]
    · have hy : p.1 ∈ ys := (List.of_mem_zip e).1
      have ne : (p.1 == y) = false := beq_eq_false_iff_ne.mpr fun z => (List.nodup_cons.mp nd).1 (by rw [← z]; exact hy)
      simp only [List.lookup_cons, ne]
      exact zip_lookup (List.nodup_cons.mp nd).2 (Nat.succ.inj hl) p e
theorem bind_plain {fd : FuncData} {as : List Arg} {us : List Value} (hp : fd.params = ⟨[], as, none, [], [], none, []⟩) (hd : fd.defaults = .none) (nd : (as.map (·.arg)).Nodup) (hl : us.length = as.length) : bindArgs fd ⟨us, []⟩ = pure ((as.map (·.arg)).zip us) := by
  have hlen : us.length = (as.map (·.arg)).length := by rw [List.length_map]; exact hl
  have miss : (((as.map (·.arg)).take (as.map (·.arg)).length).filter fun n => (((as.map (·.arg)).zip us).lookup n).isNone) = [] := by
    rw [List.filter_eq_nil_iff]
    intro x hx
    rw [List.take_length] at hx
    obtain ⟨u, e⟩ := lookup_zip hx hlen
    rw [e]
    simp
  have res := zip_filterMap ((as.map (·.arg)).zip us) nd hlen (zip_lookup nd hlen)
  unfold bindArgs
  rw [hp, hd]
  simp only [List.map_nil, List.nil_append, List.forIn_nil, pure_bind]
  have e0 : seqItems? Value.none = pure none := rfl
  have t0 : ((none : Option (Array Value)).getD #[]).toList = [] := rfl
  have c0 : ¬ (decide (us.length > (as.map (·.arg)).length) && (none : Option Arg).isNone) = true := by
    rw [hlen]
    simp
  have c1 : ¬ (!([] : List Str).isEmpty) = true := by simp
  rw [e0]
  simp only [pure_bind, t0, List.length_nil, Nat.zero_sub, List.drop_nil, Nat.sub_zero, miss]
  rw [if_neg c0, if_neg c1]
  simp only [List.zip_nil_right, List.forIn_nil, pure_bind, List.append_nil]
  rw [if_neg c1, res]
end J
end JDef

section JDef2
set_option Elab.async false
set_option linter.all false
set_option maxRecDepth 100000
set_option autoImplicit false
set_option maxHeartbeats 8000000
/-! J.Def2: the promise of each def, at every depth. -/
namespace J
open PySem PySem.Spec PyProof.Rows L2
section
variable {K : PySem.W.Frag} {ι ι' : Io} {H H' : Hp} {h h' : PH}
/-- what was made within a call is dropped -/
theorem Ext.cut (E : Ext ι H ι' H') (O : HpOk ι H h) : Ext ι H ⟨ι'.cs.take h.length, ι'.ex⟩ H' := by
  have hl : ι.cs.length = h.length := O.len
  have hle : h.length ≤ ι'.cs.length := by rw [← hl]; exact E.len
  refine ⟨⟨by show ι.cs.length ≤ (ι'.cs.take h.length).length; rw [List.length_take]; omega, fun n hn => ?_, E.keep, fun a l na => E.new a (l.imp (fun z => List.mem_of_mem_take z) id) na, E.trk⟩, E.exe, E.exk⟩
  show (ι'.cs.take h.length)[n]? = some none ∨ (ι'.cs.take h.length)[n]? = ι.cs[n]?
  rw [List.getElem?_take, if_pos (by omega)]
  exact E.pos n hn
theorem mn_cut (n : Nat) : Mn ⟨ι'.cs, ι'.ex⟩ H' ⟨ι'.cs.take n, ι'.ex⟩ H' → True := fun _ => trivial
mutual
theorem Rp.lv {ι2 : Io} (lv : ∀ a, Live ι2 a → Live ι' a) : ∀ (d : D) (v : V), Rp ι' H' v d → Rp ι2 H' v d
  | .none, _, .non => .non
  | .bool b, _, .bl _ => .bl b
  | .int i, _, .int _ => .int i
  | .str x, _, .str _ => .str x
  | .list ds, _, .lst e n r => .lst e (fun l => n (lv _ l)) (Rp.lvAll lv ds _ r)
  | .tuple ds, _, .tup e n r => .tup e (fun l => n (lv _ l)) (Rp.lvAll lv ds _ r)
  | .dict ds, _, .dct e n r => .dct e (fun l => n (lv _ l)) (Rp.lvKV lv ds _ r)
theorem Rp.lvAll {ι2 : Io} (lv : ∀ a, Live ι2 a → Live ι' a) : ∀ (ds : List D) (vs : List V), RpAll ι' H' vs ds → RpAll ι2 H' vs ds
  | [], _, .nil => .nil
  | d :: ds, _, .cons r rr => .cons (Rp.lv lv d _ r) (Rp.lvAll lv ds _ rr)
theorem Rp.lvKV {ι2 : Io} (lv : ∀ a, Live ι2 a → Live ι' a) : ∀ (ds : List (D × D)) (vs : List (Key × V)), RpKV ι' H' vs ds → RpKV ι2 H' vs ds
  | [], _, .nil => .nil
  | (_, d) :: ds, _, .cons r rr => .cons (Rp.lv lv d _ r) (Rp.lvKV lv ds _ rr)
end
theorem rp_cut {n : Nat} : (∀ (d : D) (v : V), Rp ι' H' v d → Rp ⟨ι'.cs.take n, ι'.ex⟩ H' v d) ∧ ∀ (ds : List D) (vs : List V), RpAll ι' H' vs ds → RpAll ⟨ι'.cs.take n, ι'.ex⟩ H' vs ds := by
  have lv : ∀ a, Live ⟨ι'.cs.take n, ι'.ex⟩ a → Live ι' a := fun a l => l.imp (fun z => List.mem_of_mem_take z) id
  exact ⟨Rp.lv lv, Rp.lvAll lv⟩
theorem HpOk.cut (O : HpOk ι' H' h') (n : Nat) : HpOk ⟨ι'.cs.take n, ι'.ex⟩ H' (h'.take n) := by
  have get : ∀ (j : Nat) (b : Option Addr), (ι'.cs.take n)[j]? = some b → j < n ∧ ι'.cs[j]? = some b := fun j b q => by
    rw [List.getElem?_take] at q
    split at q
    · rename_i z; exact ⟨z, q⟩
    · cases q
  refine ⟨by simp only [List.length_take, O.len], fun j a c q1 q2 => ?_, fun i j a q1 q2 => O.nd i j a (get i _ q1).2 (get j _ q2).2, O.exl, fun a ha l => O.exd a ha (List.mem_of_mem_take l)⟩
  obtain ⟨hj, q1⟩ := get j a q1
  rw [List.getElem?_take, if_pos hj] at q2
  have z := O.cell j a c q1 q2
  cases a with
  | none => cases c <;> exact z
  | some a => cases c with
    | dead => exact z
    | lst ds => obtain ⟨xs, e, r⟩ := z; exact ⟨xs, e, rp_cut.2 _ _ r⟩
/-- from the body's end to the call's -/
theorem leave_ok {W' : WX} {r : Rs Fl} {Q : VK} {E : XK} (O : HpOk ι H h) (F : Fin W' K ι H [] (finish h.length r) fun pv _ ι' H' => ∀ v, RelPV ι' H' v pv → Q v H') (hW : ∀ cls d H', W' cls d [] H' → E cls d H') :
    FinS (fun cls d _ H' => E cls d H') K ι H r { nx := fun _ H' => Q .non H', rt := Q } := by
  cases r with
  | stuck => exact F
  | exc c h' => exact fun ι' H' σ' E' O' => hW _ _ _ (F _ _ (E'.cut O) (O'.cut _))
  | ok f h' =>
    cases f with
    | nx σ' => exact fun ι' H' σ'' E' O' s' => F _ _ (E'.cut O) (O'.cut _) .non .non
    | rt pv =>
      intro ι' H' v E' O' rv
      cases pv with
      | d x => exact F _ _ (E'.cut O) (O'.cut _) v (rp_cut.1 _ _ rv)
      | k x => exact F _ _ (E'.cut O) (O'.cut _) v ⟨rp_cut.1 _ _ rv.1, rv.2⟩
      | cell k =>
        simp only [finish, leave] at F
        split at F
        · rename_i hk
          refine F _ _ (E'.cut O) (O'.cut _) v ?_
          obtain ⟨l, a, ev, hb⟩ := rv
          refine ⟨by simp only [List.length_take]; omega, a, ev, fun b q => hb b ?_⟩
          simp only [List.getElem?_take, if_pos hk] at q
          exact q
        · rename_i hk
          split at F
          · rename_i xs e
            obtain ⟨a, vs, ev, ia, ha, rr⟩ := cell_at O' rv e
            subst ev
            refine F _ _ (E'.cut O) (O'.cut _) (.ref a) (.lst (.inl ha) ?_ (rp_cut.2 _ _ rr))
            rintro (l | l)
            · obtain ⟨j, q⟩ := get_of_mem l
              simp only [List.getElem?_take] at q
              split at q
              · rename_i hj
                have := O'.nd j k a q ia
                omega
              · cases q
            · exact O'.exd a l (List.mem_of_getElem? ia)
          · exact F.elim
theorem start_ok {vs : List V} {pvs : List PV} {N : List Str} {k : Nat} (hN : N.length = k) (r : Paired (RelPV ι H) vs pvs) : SOk ι H (pvs.map some ++ List.replicate (k - pvs.length) none) (start N vs) := by
  have hl := paired_len r
  refine ⟨by simp only [L2.start, List.length_append, List.length_map, List.length_replicate, hl, hN], fun i pv e => ?_⟩
  by_cases hi : i < pvs.length
  · rw [List.getElem?_append_left (by simpa using hi)] at e
    unfold L2.start
    rw [List.getElem?_append_left (by simp only [List.length_map, hl]; exact hi)]
    rw [List.getElem?_map] at e ⊢
    have key : ∀ {vs : List V} {pvs : List PV} {i : Nat} {pv : PV}, Paired (RelPV ι H) vs pvs → pvs[i]? = some pv → ∃ v, vs[i]? = some v ∧ RelPV ι H v pv := by
      intro vs pvs i pv r
      induction r generalizing i with
      | nil => intro e; simp at e
      | cons r rr ih =>
        intro e
        cases i with
        | zero => simp at e; subst e; exact ⟨_, rfl, r⟩
        | succ i => simp at e ⊢; exact ih e
    cases q : pvs[i]? with
    | none => rw [q] at e; cases e
    | some x =>
      rw [q] at e
      cases e
      obtain ⟨v, ev, rv⟩ := key r q
      exact ⟨v, by rw [ev]; rfl, rv⟩
  · rw [List.getElem?_append_right (by simpa using Nat.not_lt.mp hi), List.getElem?_replicate] at e
    split at e <;> cases e
end
/-! ### the program's defs -/
/-- a def: its name, its names by slot (parameters first), its core -/
structure DI where
  name : String
  N : List String
  c : CDef
def tabOf (ds : List DI) : String → Option CDef := fun f => (ds.find? fun d => d.name == f).map (·.c)
def SC.of (N : List String) (sc : Scope) : SC := ⟨N.map Str.ofString, sc, sc⟩
def nodupB : List Str → Bool
  | [] => true
  | x :: r => !(r.contains x) && nodupB r
theorem nodupB_ok : ∀ {l : List Str}, nodupB l = true → l.Nodup
  | [], _ => List.nodup_nil
  | x :: r, h => by
    obtain ⟨h1, h2⟩ := ba h
    refine List.nodup_cons.mpr ⟨fun z => ?_, nodupB_ok h2⟩
    have := nt h1
    simp only [List.contains_eq_mem, z, decide_true] at this
    cases this
def argsOk (a : Arguments) (ps : List Str) : Bool := a.posonlyargs.isEmpty && (a.vararg.isNone && (a.kwonlyargs.isEmpty && (a.kw_defaults.isEmpty && (a.kwarg.isNone && (a.defaults.isEmpty && decide (a.args.map (·.arg) = ps))))))
def scopeOk (N ps : List Str) (sc : Scope) : Bool := (match sc.kind with | .function => true | _ => false) && ((!sc.isCoroutine) && ((!sc.isGenerator) && (nodupB N && (decide (N.take ps.length = ps) && ((ps.all fun x => match sc.names.lookup x with | some .local => true | some .cell => true | _ => false) && (sc.names.all fun y => match y.2 with | .free => false | _ => true))))))
theorem scopeOk_ok {N ps : List Str} {sc : Scope} (h : scopeOk N ps sc = true) : FnScope N ps sc := by
  obtain ⟨h1, h⟩ := ba h
  obtain ⟨h2, h⟩ := ba h
  obtain ⟨h3, h⟩ := ba h
  obtain ⟨h4, h⟩ := ba h
  obtain ⟨h5, h⟩ := ba h
  obtain ⟨h6, h7⟩ := ba h
  refine ⟨?_, nt h2, nt h3, nodupB_ok h4, of_decide_eq_true h5, fun x hx => ?_, fun y hy z => ?_⟩
  · split at h1
    · assumption
    · cases h1
  · have := List.all_eq_true.mp h6 x hx
    split at this
    · exact .inl ‹_›
    · exact .inr ‹_›
    · cases this
  · have := List.all_eq_true.mp h7 y hy
    rw [z] at this
    cases this
def defOk (T : String → Option CDef) (Bs Es : List String) (d : DI) (q : He.DefD) : Bool :=
  decide (q.at_ = (Str.ofString d.name, none)) && (q.dfl.isEmpty && (q.kwd.isEmpty && (argsOk q.params ((d.N.map Str.ofString).take d.c.params) && (scopeOk (d.N.map Str.ofString) ((d.N.map Str.ofString).take d.c.params) q.scope && (decide (d.c.params ≤ d.N.length) && (decide (d.c.slots = d.N.length) && chkB T Bs Es d.c.body (SC.of d.N q.scope) q.body))))))
/-- the program's defs against the table -/
def progOk (Bs Es : List String) (ds : List DI) (fn : List He.DefD) : Bool := ds.all fun d => match fn.find? (fun q => decide (q.name = Str.ofString d.name)) with
  | some q => defOk (tabOf ds) Bs Es d q
  | none => false
section
variable {P : Program} {w : World} {K : PySem.W.Frag} {mg : Str → Option Value} {base : Heap} {ds : List DI} {fn : List He.DefD} {fa : List He.Fa} {Bs Es : List String}
/-- the promise of a def at depth n -/
def spN (K : PySem.W.Frag) (T : String → Option CDef) (n : Nat) (f : String) (k : Nat) : Sp := fun vs H Q E => vs.length = k ∧ ∃ ι pvs h, Paired (RelPV ι H) vs pvs ∧ HpOk ι H h ∧
  Fin (fun cls d _ H' => E cls d H') K ι H [] (run T n f pvs h) fun pv _ ι' H' => ∀ v, RelPV ι' H' v pv → Q v H'
theorem def_bind {T : String → Option CDef} {d : DI} {q : He.DefD} {fd : FuncData} {f : Addr} (ok : defOk T Bs Es d q = true) (F : FunD K q.name q.qual q.params q.body q.scope [] [] f fd) :
    Binds K fd ((d.N.map Str.ofString).take d.c.params) [] ∧ (∀ (s : Shared) (us : List Value), us.length = ((d.N.map Str.ofString).take d.c.params).length → BindsTo s fd ⟨us, []⟩ (((d.N.map Str.ofString).take d.c.params).zip us)) ∧ ((d.N.map Str.ofString).take d.c.params).length = d.c.params := by
  obtain ⟨_, h⟩ := ba ok
  obtain ⟨_, h⟩ := ba h
  obtain ⟨_, h⟩ := ba h
  obtain ⟨h1, h⟩ := ba h
  obtain ⟨h2, h⟩ := ba h
  obtain ⟨h3, h⟩ := ba h
  obtain ⟨h4, h5⟩ := ba h
  have S := scopeOk_ok h2
  have hle := of_decide_eq_true h3
  have hsl := of_decide_eq_true h4
  have hpl : ((d.N.map Str.ofString).take d.c.params).length = d.c.params := by rw [List.length_take, List.length_map]; omega
  have nd : ((d.N.map Str.ofString).take d.c.params).Nodup := S.nd.sublist (List.take_sublist _ _)
  have bnd : ∀ (kV doc pm : Value) (an : Option Addr) (cdv ct : Value) (us : List Value), us.length = ((d.N.map Str.ofString).take d.c.params).length → bindArgs (PySem.W.fnOf q.name q.qual q.params q.body q.scope .none kV doc pm an cdv ct) ⟨us, []⟩ = pure (((d.N.map Str.ofString).take d.c.params).zip us) := by
    intro kV doc pm an cdv ct us hl
    unfold argsOk at h1
    obtain ⟨a1, h⟩ := ba h1
    obtain ⟨a2, h⟩ := ba h
    obtain ⟨a3, h⟩ := ba h
    obtain ⟨a4, h⟩ := ba h
    obtain ⟨a5, h⟩ := ba h
    obtain ⟨a6, a7⟩ := ba h
    have ea := of_decide_eq_true a7
    have ep : q.params = ⟨[], q.params.args, none, [], [], none, []⟩ := by
      cases hq : q.params with
      | mk po ar va ko kd kw df =>
        rw [hq] at a1 a2 a3 a4 a5 a6
        simp only [List.isEmpty_iff, Option.isNone_iff_eq_none] at a1 a2 a3 a4 a5 a6
        simp only [a1, a2, a3, a4, a5, a6]
    rw [← ea]
    exact bind_plain ep rfl (by rw [ea]; exact nd) (by rw [hl, ← ea, List.length_map])
  exact ⟨F.bindsN bnd, fun s us hl => F.bindsA bnd s us hl, hpl⟩
theorem def_step {T : String → Option CDef} {n : Nat} {d : DI} {q : He.DefD} {fd : FuncData} {f : Addr} (PG : Pg P w K mg base T Bs Es n) (hT : T d.name = some d.c) (ok : defOk T Bs Es d q = true) (F : FunD K q.name q.qual q.params q.body q.scope [] [] f fd) :
    FnOk P w K mg base (L2.CX P w) (n + 1) f fd ((d.N.map Str.ofString).take d.c.params) (spN K T (n + 1) d.name d.c.params) := by
  obtain ⟨_, h⟩ := ba ok
  obtain ⟨_, h⟩ := ba h
  obtain ⟨_, h⟩ := ba h
  obtain ⟨h1, h⟩ := ba h
  obtain ⟨h2, h⟩ := ba h
  obtain ⟨h3, h⟩ := ba h
  obtain ⟨h4, h5⟩ := ba h
  have S := scopeOk_ok h2
  have hle := of_decide_eq_true h3
  have hsl := of_decide_eq_true h4
  have hpl : ((d.N.map Str.ofString).take d.c.params).length = d.c.params := by rw [List.length_take, List.length_map]; omega
  refine F.ok S (fun vs H Q E h => by rw [hpl]; exact h.1) fun cdv A outer s H vs Q E hr hsp => ?_
  obtain ⟨hl, ι, pvs, hh, rv, O, Fi⟩ := hsp
  refine ⟨TSd (fun cls d _ H' => E cls d H') K (exB (run T n) d.c.body), ?_, ι, pvs.map some ++ List.replicate (d.c.slots - pvs.length) none, hh, start_ok (by rw [List.length_map]; exact hsl.symm) rv, O, ?_⟩
  · have G : Good P w K mg base n (SC.of d.N q.scope) (cxOf (L2.CX P w) P w K mg base (d.N.map Str.ofString) q.qual q.scope f cdv A outer s H E) (fun cls d _ H' => E cls d H') :=
      ⟨rfl, rfl, rfl, rfl, rfl, rfl, S.nd, rfl, S.kind, fun x hx => ⟨hx, .inl rfl⟩, rfl, hr, takes_of rfl rfl rfl rfl⟩
    exact okB PG G (passes_of rfl) rfl rfl d.c.body q.body h5
  · have hp : pvs.length = d.c.params := (paired_len rv).symm.trans hl
    have e : run T (n + 1) d.name pvs hh = finish hh.length (exB (run T n) d.c.body (pvs.map some ++ List.replicate (d.c.slots - pvs.length) none) hh) := by
      simp only [run, hT, body, hp, if_true]
    rw [e] at Fi
    exact leave_ok O Fi fun _ _ _ z => z
theorem find_some {α : Type} {p : α → Bool} : ∀ {l : List α} {a : α}, l.find? p = some a → p a = true ∧ ∃ i : Nat, l[i]? = some a
  | [], _, h => by cases h
  | x :: r, a, h => by
    rw [List.find?_cons] at h
    split at h
    · cases h; exact ⟨by assumption, 0, rfl⟩
    · obtain ⟨h1, i, h2⟩ := find_some h; exact ⟨h1, i + 1, h2⟩
/-- what the head is asked -/
def factsOf (ds : List DI) (Bs Es : List String) : List He.Fa := ds.map (fun d => He.Fa.glo (Str.ofString d.name)) ++ (Bs.map (fun x => He.Fa.free (Str.ofString x)) ++ (Es.map (fun c => He.Fa.glo (Str.ofString c)) ++ (Es.map (fun c => He.Fa.exc (Str.ofString c)) ++ Es.flatMap fun c => Es.map fun d => He.Fa.exm (Str.ofString c) (Str.ofString d) (c == d))))
theorem fact_of {f : He.Fa} (c : He.SaysD fa fn K) (h : f ∈ fa) : f.ok K = true := by
  obtain ⟨i, e⟩ := get_of_mem h
  exact c.fact i e
theorem look_def (c : He.SaysD fa fn K) (ok : progOk Bs Es ds fn = true) : ∀ f cd, tabOf ds f = some cd → ∃ d ∈ ds, d.name = f ∧ d.c = cd ∧ ∃ q fd, defOk (tabOf ds) Bs Es d q = true ∧ FunD K q.name q.qual q.params q.body q.scope [] [] (He.ga K (Str.ofString f)) fd := by
  intro f cd h
  unfold tabOf at h
  obtain ⟨d, hd, e⟩ := map_some h
  obtain ⟨hp, i, hi⟩ := find_some hd
  have hm : d ∈ ds := List.mem_of_getElem? hi
  have hn : d.name = f := eq_of_beq hp
  have hk := List.all_eq_true.mp ok d hm
  split at hk
  · rename_i q hq
    obtain ⟨_, j, hj⟩ := find_some hq
    obtain ⟨fd, F⟩ := c.def_ j hj
    have hk' := hk
    obtain ⟨k1, hk⟩ := ba hk
    obtain ⟨k2, hk⟩ := ba hk
    obtain ⟨k3, _⟩ := ba hk
    have e1 : q.at_ = (Str.ofString d.name, none) := of_decide_eq_true k1
    have e2 : q.dvs K = [] := by unfold He.DefD.dvs; rw [List.isEmpty_iff.mp k2]; rfl
    have e3 : q.kws K = [] := by unfold He.DefD.kws; rw [List.isEmpty_iff.mp k3]; rfl
    rw [e1, e2, e3] at F
    refine ⟨d, hm, hn, e.symm, q, fd, hk', ?_⟩
    rw [← hn]
    exact F
  · cases hk
theorem pg_all (X : K.In base) (G : base.Ns mainGlobals mg) (c : He.SaysD (factsOf ds Bs Es) fn K) (ok : progOk Bs Es ds fn = true) : ∀ n : Nat, Pg P w K mg base (tabOf ds) Bs Es n := by
  have glo : ∀ d ∈ ds, mg (Str.ofString d.name) = some (.ref (He.ga K (Str.ofString d.name))) := fun d hd => He.glo_ok X G (fact_of c (List.mem_append_left _ (List.mem_map.mpr ⟨d, hd, rfl⟩)))
  have free : ∀ x ∈ Bs, mg (Str.ofString x) = none := fun x hx => He.free_ok X G (fact_of c (List.mem_append_right _ (List.mem_append_left _ (List.mem_map.mpr ⟨x, hx, rfl⟩))))
  have gex : ∀ x ∈ Es, mg (Str.ofString x) = some (.ref (He.ga K (Str.ofString x))) := fun x hx => He.glo_ok X G (fact_of c (List.mem_append_right _ (List.mem_append_right _ (List.mem_append_left _ (List.mem_map.mpr ⟨x, hx, rfl⟩)))))
  have exc : ∀ x ∈ Es, _ := fun x hx => He.exc_ok (fact_of c (List.mem_append_right _ (List.mem_append_right _ (List.mem_append_right _ (List.mem_append_left _ (List.mem_map.mpr ⟨x, hx, rfl⟩))))))
  have exm : ∀ x ∈ Es, ∀ y ∈ Es, PySem.W.exmOne K (.ref (He.ga K (Str.ofString x))) (.ref (He.ga K (Str.ofString y))) = some (x == y) := fun x hx y hy => He.exm_ok (fact_of c (List.mem_append_right _ (List.mem_append_right _ (List.mem_append_right _ (List.mem_append_right _ (List.mem_flatMap.mpr ⟨x, hx, List.mem_map.mpr ⟨y, hy, rfl⟩⟩))))))
  have look := look_def c ok
  intro n
  induction n with
  | zero =>
    refine ⟨fun f cd h => ?_, free, fun x hx => ⟨gex x hx, exc x hx⟩, exm⟩
    obtain ⟨d, hm, hn, hc, q, fd, hk, F⟩ := look f cd h
    subst hn
    subst hc
    obtain ⟨b1, b3, b4⟩ := def_bind hk F
    refine ⟨glo d hm, F.kp, fd, _, b4, b1, fun vs H Q E h => by rw [b4]; exact h.1, fun A outer s H args us vs Q E hr e0 hb r h => ?_⟩
    obtain ⟨_, ι, pvs, hh, _, _, Fi⟩ := h
    exact Fi.elim
  | succ n ih =>
    refine ⟨fun f cd h => ?_, free, fun x hx => ⟨gex x hx, exc x hx⟩, exm⟩
    obtain ⟨d, hm, hn, hc, q, fd, hk, F⟩ := look f cd h
    subst hn
    subst hc
    obtain ⟨b1, b3, b4⟩ := def_bind hk F
    exact ⟨glo d hm, F.kp, fd, _, b4, b1, def_step ih h hk F⟩
end
end J
end JDef2

section JHead
set_option Elab.async false
set_option linter.all false
set_option maxRecDepth 100000
set_option autoImplicit false
set_option maxHeartbeats 8000000
/-! J.Head: from the top's run to the law. -/
namespace J
open PySem PySem.Spec PyProof.Rows L2
def notL (o : Obj) : Bool := match o.cls with
  | .type c => !(c == "list")
  | _ => true
/-- what the module's names reach, but for lists -/
def frL (n : Nat) (g : Addr → Option Obj) : PySem.W.Frag := (He.frG g (He.asD g n)).filter fun p => notL p.2
theorem lookup_mem {α : Type} : ∀ {l : List (Addr × α)} {a : Addr} {o : α}, l.lookup a = some o → (a, o) ∈ l
  | [], _, _, h => by cases h
  | (b, x) :: r, a, o, h => by
    simp only [List.lookup_cons] at h
    split at h
    · rename_i e
      cases h
      have := eq_of_beq e
      subst this
      exact List.mem_cons_self
    · exact List.mem_cons_of_mem _ (lookup_mem h)
theorem frL_at {n : Nat} {g : Addr → Option Obj} {a : Addr} {o : Obj} (h : (frL n g).lookup a = some o) : g a = some o ∧ notL o = true := by
  have m := lookup_mem h
  unfold frL at m
  obtain ⟨m1, m2⟩ := List.mem_filter.mp m
  refine ⟨?_, m2⟩
  unfold He.frG at m1
  obtain ⟨b, _, e⟩ := List.mem_filterMap.mp m1
  cases q : g b with
  | none => rw [q] at e; cases e
  | some x => rw [q] at e; cases e; exact q
def obsJ (n : Nat) (fa : List He.Fa) (fn : List He.DefD) (g : Addr → Option Obj) : He.AlD := He.obsD fa fn (frL n g)
def hookJ (n : Nat) (fa : List He.Fa) (fn : List He.DefD) : PySem.W.Hook where
  α := He.AlD
  obs := fun s => obsJ n fa fn s.heap.get?
  val := fun _ => He.valD fn
  says := fun _ h => ∃ K : PySem.W.Frag, K.In h ∧ He.SaysD fa fn K ∧ ∀ a o, K.lookup a = some o → notL o = true
  of := fun _ s e => ⟨frL n s.heap.get?, fun _ _ z => (frL_at z).1, e, fun _ _ z => (frL_at z).2⟩
  keeps := fun _ _ _ ⟨K, hK, c⟩ k => ⟨K, PySem.W.Frag.In.keeps hK k, c⟩
theorem obsJ_eq {n : Nat} {fa : List He.Fa} {fn : List He.DefD} {g : Addr → Option Obj} {s : Shared} (h : ∀ a, g a = s.heap.get? a) : obsJ n fa fn g = (hookJ n fa fn).obs s := by
  have e : g = s.heap.get? := funext h
  rw [e]
  rfl
/-- the defs that stand at the top -/
def defsOf (p : Program) : List He.DefD := p.main.body.filterMap fun
  | .FunctionDef n a b _ _ _ sc _ _ _ => some ⟨(n, none), n, n, a, b, sc, [], []⟩
  | _ => none
theorem to0 {P : Program} {w : World} {K : PySem.W.Frag} {mg : Str → Option Value} {base : Heap} {k : Nat} {f : Addr} {fd : FuncData} {ps : List Str} {sp : Sp} (F : FnOk P w K mg base (L2.CX P w) k f fd ps sp) :
    FnOk P w K mg base CX0 k f fd ps (fun vs H Q _ => sp vs H Q fun _ _ _ => False) := by
  refine ⟨fun vs H Q E h => F.len vs H Q _ h, fun A outer s H args us vs Q E hr e0 hb r h => ?_⟩
  refine codeAny_mono (F.run A outer s H args us vs Q _ hr e0 hb r h) fun x s' q => ?_
  cases x with
  | ok f => cases f <;> exact q
  | error e =>
    obtain ⟨_, _, _, _, _, _, _, _, _, _, _, _, z⟩ := q
    exact z.elim
/-- THE END: a law holds where its run by the core is true at every script -/
theorem walk_J {l : PySem.W.OpenLaw} {m k : Nat} {q : Program} {loose : List Str} {XP : (Str → Option Value) → Heap → Prop} {d : DefRec} {ds : List DI} {Bs Es : List String} {cd : CDef}
    (hn : l.most = some 63) (hdf : d.params.defaults = []) (hname : d.name = Str.ofString "law") (hr : Room (k + 1) callerA) (ok : progOk Bs Es ds (defsOf l.prog) = true) (hT : tabOf ds "law" = some cd) (h1 : cd.params = 1)
    (pure : ∀ ns : List Int, ns.length ≤ 63 → ∃ h', run (tabOf ds) (k + 1) "law" [.d (.list (ns.map PyData.int))] [] = .ok (.d (.bool true)) h') :
    PySem.W.WalkO q loose XP (hookJ m (factsOf ds Bs Es) (defsOf l.prog)).says l.row.toRowW d [] (fun f vs => PySem.call f vs) := by
  refine Att.attach_call hn hdf fun w s₀ s₁ mg mb fa o pm cd' doc a vs ns G Y ho hd hcd hmg hobj hints hlen hg => ?_
  obtain ⟨K, KX, c, nl⟩ := Y
  have Gn := G.T.g
  obtain ⟨dd, hm, hn', hc', qq, fd, hk, F⟩ := look_def c ok "law" cd hT
  obtain ⟨b1, b3, b4⟩ := def_bind hk F
  rw [hc', h1] at b4
  have P0 := fun (base : Heap) (KB : K.In base) (GB : base.Ns mainGlobals mg) => pg_all (P := l.prog) (w := w) KB GB c ok k
  obtain ⟨e1, _⟩ := (P0 s₁.heap KX Gn).fn "law" cd hT
  rw [hname, e1] at hmg
  cases hmg
  rw [← hn'] at hT
  rw [← hc'] at hT
  have hF := fun (base : Heap) (KB : K.In base) (GB : base.Ns mainGlobals mg) => def_step (pg_all (P := l.prog) (w := w) KB GB c ok k) hT hk F
  rw [hn', hc', h1] at hF
  rw [hc', h1] at b3
  obtain ⟨x, hx⟩ : ∃ x, (dd.N.map Str.ofString).take 1 = [x] := by
    match hq : (dd.N.map Str.ofString).take 1, b4 with
    | [x], _ => exact ⟨x, rfl⟩
  rw [hx] at hF b3
  have hbind := fun (s : Shared) (u : Value) => b3 s [u] rfl
  refine law_call KX Gn G.T.b G.T.builtins G.T.nolimit hg hobj hints (Nat.le_trans hlen (by rw [sizeLine_eq]; decide)) hr (fun base KB GB => to0 (hF base KB GB)) hbind (fun H hO hS => ?_) (fun _ _ _ z => z)
  have hrd : Rd H a (.lst (ns.map V.int)) := by
    rcases hS with hS | ⟨o', its, n', hk, hc, _⟩
    · exact hS
    · have := nl a o' hk
      unfold notL at this
      rw [hc] at this
      cases this
  refine ⟨rfl, ⟨[], []⟩, [.d (.list (ns.map PyData.int))], [], .cons (.lst hrd (fun l => by rcases l with l | l <;> cases l) ?_) .nil, ⟨rfl, fun n a c e => by simp at e, fun n m a e => by simp at e, (fun a ha => nomatch ha), fun a ha => nomatch ha⟩, ?_⟩
  · clear hrd hS hlen hints hobj
    induction ns with
    | nil => exact .nil
    | cons n ns ih => exact .cons (.int n) ih
  · obtain ⟨h', e⟩ := pure ns hlen
    rw [e]
    intro ι' H' E' O' v rv
    cases rv
    rfl
end J
end JHead

section JEq
set_option Elab.async false
set_option linter.all false
set_option maxRecDepth 100000
set_option autoImplicit true
set_option relaxedAutoImplicit true
/-! J.Eq: the core's equations, for simp (printed by eqs.py). -/
namespace J
open PySem
@[simp] theorem ev_0 : ev Γ (CE.var i) σ h = (match σ[i]? with
    | some (some (.k x)) => .ok (.d x) h
    | some (some v) => .ok v h
    | _ => .stuck) := by first | (simp only [ev]; done) | (simp only [ev]; rfl)
@[simp] theorem ev_1 : ev Γ (CE.frz i) σ h = (match σ[i]? with
    | some (some (.cell n)) => (match h[n]? with
      | some (.lst xs) => .ok (.d (.list xs)) (h.set n .dead)
      | _ => .stuck)
    | _ => .stuck) := by first | (simp only [ev]; done) | (simp only [ev]; rfl)
@[simp] theorem ev_2 : ev Γ (CE.lit x) w1 h = (.ok (.d x.dat) h) := by first | (simp only [ev]; done) | (simp only [ev]; rfl)
@[simp] theorem ev_3 : ev Γ (CE.tup es) σ h = ((evD Γ es σ h).bind fun xs h1 => if xs.length ≤ lineN then .ok (.d (.tuple xs)) h1 else .stuck) := by first | (simp only [ev]; done) | (simp only [ev]; rfl)
@[simp] theorem ev_4 : ev Γ (CE.lst es) σ h = ((evD Γ es σ h).bind fun xs h1 => if xs.length ≤ lineN then .ok (.d (.list xs)) h1 else .stuck) := by first | (simp only [ev]; done) | (simp only [ev]; rfl)
@[simp] theorem ev_5 : ev Γ (CE.bin o a b) σ h = ((ev Γ a σ h).bind fun x h1 => (ev Γ b σ h1).bind fun y h2 => ofO ((val h2 x).bind fun x => (val h2 y).bind fun y => (binD o x y).map .d) h2) := by first | (simp only [ev]; done) | (simp only [ev]; rfl)
@[simp] theorem ev_6 : ev Γ (CE.neg a) σ h = ((ev Γ a σ h).bind fun x h1 => match x with
    | .d (.int i) => .ok (.d (.int (-i))) h1
    | _ => .stuck) := by first | (simp only [ev]; done) | (simp only [ev]; rfl)
@[simp] theorem ev_7 : ev Γ (CE.not a) σ h = ((ev Γ a σ h).bind fun x h1 => ofO ((val h1 x).bind fun x => (truD x).map fun b => .d (.bool (!b))) h1) := by first | (simp only [ev]; done) | (simp only [ev]; rfl)
@[simp] theorem ev_8 : ev Γ (CE.cmp o a b) σ h = ((ev Γ a σ h).bind fun x h1 => (ev Γ b σ h1).bind fun y h2 => ofO ((val h2 x).bind fun x => (val h2 y).bind fun y => (cmpD o x y).map fun b => .d (.bool b)) h2) := by first | (simp only [ev]; done) | (simp only [ev]; rfl)
@[simp] theorem ev_9 : ev Γ (CE.chain o o' a b c) σ h = ((ev Γ a σ h).bind fun x h1 => (ev Γ b σ h1).bind fun y h2 => (ofO ((val h2 x).bind fun x => (val h2 y).bind fun y => cmpD o x y) h2).bind fun k h3 =>
      match k with
      | true => (ev Γ c σ h3).bind fun z h4 => ofO ((val h4 y).bind fun y => (val h4 z).bind fun z => (cmpD o' y z).map fun b => .d (.bool b)) h4
      | false => .ok (.d (.bool false)) h3) := by first | (simp only [ev]; done) | (simp only [ev]; rfl)
@[simp] theorem ev_10 : ev Γ (CE.isn a) σ h = ((ev Γ a σ h).bind fun x h1 => .ok (.d (.bool (isNoneV x))) h1) := by first | (simp only [ev]; done) | (simp only [ev]; rfl)
@[simp] theorem ev_11 : ev Γ (CE.notn a) σ h = ((ev Γ a σ h).bind fun x h1 => .ok (.d (.bool (!isNoneV x))) h1) := by first | (simp only [ev]; done) | (simp only [ev]; rfl)
@[simp] theorem ev_12 : ev Γ (CE.and a b) σ h = ((ev Γ a σ h).bind fun x h1 => (ofO ((val h1 x).bind truD) h1).bind fun k h2 => match k with
      | true => ev Γ b σ h2
      | false => .ok x h2) := by first | (simp only [ev]; done) | (simp only [ev]; rfl)
@[simp] theorem ev_13 : ev Γ (CE.or a b) σ h = ((ev Γ a σ h).bind fun x h1 => (ofO ((val h1 x).bind truD) h1).bind fun k h2 => match k with
      | true => .ok x h2
      | false => ev Γ b σ h2) := by first | (simp only [ev]; done) | (simp only [ev]; rfl)
@[simp] theorem ev_14 : ev Γ (CE.ife c a b) σ h = ((ev Γ c σ h).bind fun x h1 => (ofO ((val h1 x).bind truD) h1).bind fun k h2 => match k with
      | true => ev Γ a σ h2
      | false => ev Γ b σ h2) := by first | (simp only [ev]; done) | (simp only [ev]; rfl)
@[simp] theorem ev_15 : ev Γ (CE.ix a b) σ h = ((ev Γ a σ h).bind fun x h1 => (ev Γ b σ h1).bind fun y h2 => ofO ((val h2 x).bind fun x => (val h2 y).bind fun y => (ixD x y).map .d) h2) := by first | (simp only [ev]; done) | (simp only [ev]; rfl)
@[simp] theorem ev_16 : ev Γ (CE.sl a lo hi) σ h = ((ev Γ a σ h).bind fun x h1 => (evO Γ lo σ h1).bind fun l h2 => (evO Γ hi σ h2).bind fun u h3 => ofO ((val h3 x).bind fun x => (slD x l u).map .d) h3) := by first | (simp only [ev]; done) | (simp only [ev]; rfl)
@[simp] theorem ev_17 : ev Γ (CE.rev a) σ h = ((ev Γ a σ h).bind fun x h1 => ofO ((val h1 x).bind fun x => (revD x).map .d) h1) := by first | (simp only [ev]; done) | (simp only [ev]; rfl)
@[simp] theorem ev_18 : ev Γ (CE.blt f a) σ h = ((ev Γ a σ h).bind fun x h1 => ofO ((val h1 x).bind fun x => (bltD f x).map .d) h1) := by first | (simp only [ev]; done) | (simp only [ev]; rfl)
@[simp] theorem ev_19 : ev Γ (CE.min2 a b) σ h = ((ev Γ a σ h).bind fun x h1 => (ev Γ b σ h1).bind fun y h2 => match x, y with
    | .d (.int i), .d (.int j) => .ok (.d (.int (if j < i then j else i))) h2
    | _, _ => .stuck) := by first | (simp only [ev]; done) | (simp only [ev]; rfl)
@[simp] theorem ev_20 : ev Γ (CE.isi a t) σ h = ((ev Γ a σ h).bind fun x h1 => ofO ((val h1 x).map fun x => .d (.bool (isiD x t))) h1) := by first | (simp only [ev]; done) | (simp only [ev]; rfl)
@[simp] theorem ev_21 : ev Γ (CE.mth m a b) σ h = ((ev Γ a σ h).bind fun x h1 => if mthR m h1 x then (ev Γ b σ h1).bind fun y h2 => ofO ((val h2 x).bind fun x => (val h2 y).bind fun y => (mthD m x y).map .d) h2 else .stuck) := by first | (simp only [ev]; done) | (simp only [ev]; rfl)
@[simp] theorem ev_22 : ev Γ (CE.pop i a) σ h = (match σ[i]? with
    | some (some (.cell n)) => if isC h n then (ev Γ a σ h).bind fun x h1 => popAt n x h1 else .stuck
    | _ => .stuck) := by first | (simp only [ev]; done) | (simp only [ev]; rfl)
@[simp] theorem ev_23 : ev Γ (CE.call f as) σ h = ((evA Γ as σ h).bind fun vs h1 => Γ f vs h1) := by first | (simp only [ev]; done) | (simp only [ev]; rfl)
@[simp] theorem ev_24 : ev Γ (CE.lc it t c e own) σ h = ((evI Γ it σ h).bind fun xs h1 => if xs.length ≤ lineN then (compL (compF t own (fun σ h => ev Γ c σ h) (fun σ h => ev Γ e σ h) σ) xs h1).bind fun r h2 => .ok (.d (.list r)) h2 else .stuck) := by first | (simp only [ev]; done) | (simp only [ev]; rfl)
@[simp] theorem ev_25 : ev Γ (CE.lc2 it t c it1 t1 c1 e own own1) σ h = ((evI Γ it σ h).bind fun xs h1 => (compLL (compF2 t own (fun σ h => ev Γ c σ h) (fun σ h => evI Γ it1 σ h) (fun σ2 => compF t1 own1 (fun σ h => ev Γ c1 σ h) (fun σ h => ev Γ e σ h) σ2) σ) xs h1).bind fun r h2 => if r.length ≤ lineN then .ok (.d (.list r)) h2 else .stuck) := by first | (simp only [ev]; done) | (simp only [ev]; rfl)
@[simp] theorem ev_26 : ev Γ (CE.kvar i) σ h = (match σ[i]? with
    | some (some v) => .ok v h
    | _ => .stuck) := by first | (simp only [ev]; done) | (simp only [ev]; rfl)
@[simp] theorem ev_27 : ev Γ (CE.ktup a) σ h = ((ev Γ a σ h).bind fun x h1 => match val h1 x with
    | some (.list xs) => .ok (.k (.tuple xs)) h1
    | _ => .stuck) := by first | (simp only [ev]; done) | (simp only [ev]; rfl)
@[simp] theorem ev_28 : ev Γ (CE.b2 f a b) σ h = ((ev Γ a σ h).bind fun x h1 => (ev Γ b σ h1).bind fun y h2 => ofO ((val h2 x).bind fun x => (val h2 y).bind fun y => (b2D f x y).map .d) h2) := by first | (simp only [ev]; done) | (simp only [ev]; rfl)
@[simp] theorem evA_0 : evA Γ CA.nil w1 h = (.ok [] h) := by first | (simp only [evA]; done) | (simp only [evA]; rfl)
@[simp] theorem evA_1 : evA Γ (CA.cons a as) σ h = ((ev Γ a σ h).bind fun x h1 => (evA Γ as σ h1).bind fun xs h2 => .ok (x :: xs) h2) := by first | (simp only [evA]; done) | (simp only [evA]; rfl)
@[simp] theorem evD_0 : evD Γ CA.nil w1 h = (.ok [] h) := by first | (simp only [evD]; done) | (simp only [evD]; rfl)
@[simp] theorem evD_1 : evD Γ (CA.cons a as) σ h = ((ev Γ a σ h).bind fun x h1 => match x with
    | .d x => (evD Γ as σ h1).bind fun xs h2 => .ok (x :: xs) h2
    | _ => .stuck) := by first | (simp only [evD]; done) | (simp only [evD]; rfl)
@[simp] theorem evO_0 : evO Γ CO.no w1 h = (.ok none h) := by first | (simp only [evO]; done) | (simp only [evO]; rfl)
@[simp] theorem evO_1 : evO Γ (CO.so a) σ h = ((ev Γ a σ h).bind fun x h1 => match x with
    | .d (.int i) => .ok (some i) h1
    | _ => .stuck) := by first | (simp only [evO]; done) | (simp only [evO]; rfl)
@[simp] theorem evI_0 : evI Γ (CI.seq a) σ h = ((ev Γ a σ h).bind fun x h1 => match x with
    | .d x => ofO (seqItems x) h1
    | _ => .stuck) := by first | (simp only [evI]; done) | (simp only [evI]; rfl)
@[simp] theorem evI_1 : evI Γ (CI.rng a) σ h = ((ev Γ a σ h).bind fun x h1 => match x with
    | .d (.int j) => if -(2 ^ 62) ≤ j ∧ j < 2 ^ 62 then .ok (rangeD 0 j.toNat) h1 else .stuck
    | _ => .stuck) := by first | (simp only [evI]; done) | (simp only [evI]; rfl)
@[simp] theorem evI_2 : evI Γ (CI.rng2 a b) σ h = ((ev Γ a σ h).bind fun x h1 => (ev Γ b σ h1).bind fun y h2 => match x, y with
    | .d (.int i), .d (.int j) => if -(2 ^ 62) ≤ i ∧ i < 2 ^ 62 ∧ -(2 ^ 62) ≤ j ∧ j < 2 ^ 62 then .ok (rangeD i (j - i).toNat) h2 else .stuck
    | _, _ => .stuck) := by first | (simp only [evI]; done) | (simp only [evI]; rfl)
@[simp] theorem evI_3 : evI Γ (CI.zip a b) σ h = ((ev Γ a σ h).bind fun x h1 => (ev Γ b σ h1).bind fun y h2 => match x, y with
    | .d (.tuple xs), .d (.tuple ys) => .ok (zipD xs ys) h2
    | .d (.list xs), .d (.list ys) => .ok (zipD xs ys) h2
    | _, _ => .stuck) := by first | (simp only [evI]; done) | (simp only [evI]; rfl)
@[simp] theorem evI_4 : evI Γ (CI.enum a) σ h = ((ev Γ a σ h).bind fun x h1 => match x with
    | .d (.list xs) => .ok (enumD 0 xs) h1
    | _ => .stuck) := by first | (simp only [evI]; done) | (simp only [evI]; rfl)
@[simp] theorem ex_0 : ex Γ (CS.asg i e) σ h = ((ev Γ e σ h).bind fun x h1 => .ok (.nx (σ.set i (some x))) h1) := by first | (simp only [ex]; done) | (simp only [ex]; rfl)
@[simp] theorem ex_1 : ex Γ (CS.asgT t e) σ h = ((ev Γ e σ h).bind fun x h1 => match x with
    | .d x => (ofO (assignD t x σ) h1).bind fun σ' h2 => .ok (.nx σ') h2
    | _ => .stuck) := by first | (simp only [ex]; done) | (simp only [ex]; rfl)
@[simp] theorem ex_2 : ex Γ (CS.asgC i e) σ h = ((ev Γ e σ h).bind fun x h1 => (toCell x h1).bind fun v h2 => .ok (.nx (σ.set i (some v))) h2) := by first | (simp only [ex]; done) | (simp only [ex]; rfl)
@[simp] theorem ex_3 : ex Γ (CS.par is es) σ h = ((evP Γ is es σ h).bind fun vs h1 => .ok (.nx (parSet is vs σ)) h1) := by first | (simp only [ex]; done) | (simp only [ex]; rfl)
@[simp] theorem ex_4 : ex Γ (CS.aug i e) σ h = (match σ[i]? with
    | some (some (.d (.int k))) => (ev Γ e σ h).bind fun x h1 => (match x with
      | .d (.int j) => .ok (.nx (σ.set i (some (.d (.int (k + j)))))) h1
      | _ => .stuck)
    | _ => .stuck) := by first | (simp only [ex]; done) | (simp only [ex]; rfl)
@[simp] theorem ex_5 : ex Γ (CS.expr e) σ h = ((ev Γ e σ h).bind fun _ h1 => .ok (.nx σ) h1) := by first | (simp only [ex]; done) | (simp only [ex]; rfl)
@[simp] theorem ex_6 : ex Γ (CS.app i e) σ h = (match σ[i]? with
    | some (some (.cell n)) => if isC h n then (ev Γ e σ h).bind fun x h1 => (appAt n x h1).bind fun _ h2 => .ok (.nx σ) h2 else .stuck
    | _ => .stuck) := by first | (simp only [ex]; done) | (simp only [ex]; rfl)
@[simp] theorem ex_7 : ex Γ (CS.put i k e) σ h = ((ev Γ e σ h).bind fun x h1 => match σ[i]? with
    | some (some (.cell n)) => (ev Γ k σ h1).bind fun j h2 => (putAt n j x h2).bind fun _ h3 => .ok (.nx σ) h3
    | _ => .stuck) := by first | (simp only [ex]; done) | (simp only [ex]; rfl)
@[simp] theorem ex_8 : ex Γ (CS.ret e) σ h = ((ev Γ e σ h).bind fun x h1 => .ok (.rt x) h1) := by first | (simp only [ex]; done) | (simp only [ex]; rfl)
@[simp] theorem ex_9 : ex Γ (CS.ite c a b) σ h = ((ev Γ c σ h).bind fun x h1 => (ofO ((val h1 x).bind truD) h1).bind fun k h2 => match k with
      | true => exB Γ a σ h2
      | false => exB Γ b σ h2) := by first | (simp only [ex]; done) | (simp only [ex]; rfl)
@[simp] theorem ex_10 : ex Γ (CS.for_ it t b) σ h = ((evI Γ it σ h).bind fun xs h1 => forL (fun x σ h => (ofO (assignD t x σ) h).bind fun σ' h => exB Γ b σ' h) xs σ h1) := by first | (simp only [ex]; done) | (simp only [ex]; rfl)
@[simp] theorem ex_11 : ex Γ (CS.whl c b) σ h = (whlL (fun σ h => (ev Γ c σ h).bind fun x h1 => ofO ((val h1 x).bind truD) h1) (fun σ h => exB Γ b σ h) whlMost σ h) := by first | (simp only [ex]; done) | (simp only [ex]; rfl)
@[simp] theorem ex_12 : ex Γ (CS.raise c) w1 h = (.exc c h) := by first | (simp only [ex]; done) | (simp only [ex]; rfl)
@[simp] theorem ex_13 : ex Γ (CS.try_ e hs) σ h = (match ev Γ e σ h with
    | .ok x h1 => .ok (.rt x) h1
    | .exc c h1 => (match hs.lookup c with
      | some l => .ok (.rt (.d l.dat)) h1
      | none => .stuck)
    | .stuck => .stuck) := by first | (simp only [ex]; done) | (simp only [ex]; rfl)
@[simp] theorem ex_14 : ex Γ CS.pass σ h = (.ok (.nx σ) h) := by first | (simp only [ex]; done) | (simp only [ex]; rfl)
@[simp] theorem exB_0 : exB Γ CB.nil σ h = (.ok (.nx σ) h) := by first | (simp only [exB]; done) | (simp only [exB]; rfl)
@[simp] theorem exB_1 : exB Γ (CB.cons s b) σ h = ((ex Γ s σ h).bind fun r h1 => match r with
    | .nx σ' => exB Γ b σ' h1
    | .rt v => .ok (.rt v) h1) := by first | (simp only [exB]; done) | (simp only [exB]; rfl)
@[simp] theorem rs_ok (a : α) (h : PH) (f : α → PH → Rs β) : (Rs.ok a h).bind f = f a h := rfl
@[simp] theorem rs_exc (c : String) (h : PH) (f : α → PH → Rs β) : (Rs.exc c h : Rs α).bind f = .exc c h := rfl
@[simp] theorem rs_stuck (f : α → PH → Rs β) : (Rs.stuck : Rs α).bind f = .stuck := rfl
@[simp] theorem calm_ok_ (a : α) (h : PH) : (Rs.ok a h).calm = .ok a h := rfl
@[simp] theorem ofO_some (a : α) (h : PH) : ofO (some a) h = .ok a h := rfl
@[simp] theorem ofO_none (h : PH) : ofO (none : Option α) h = .stuck := rfl
@[simp] theorem val_d (h : PH) (x : D) : val h (.d x) = some x := rfl
theorem val_cell {h : PH} {n : Nat} {xs : List D} (e : h[n]? = some (.lst xs)) : val h (.cell n) = some (.list xs) := by simp [val, e]
@[simp] theorem tru_none : truD .none = some false := rfl
@[simp] theorem tru_bool : truD (.bool b) = some b := rfl
@[simp] theorem tru_int : truD (.int i) = some (i != 0) := rfl
@[simp] theorem tru_list : truD (.list xs) = some (!xs.isEmpty) := rfl
@[simp] theorem tru_tuple : truD (.tuple xs) = some (!xs.isEmpty) := rfl
@[simp] theorem dat_non : Lit.dat .non = .none := rfl
@[simp] theorem dat_bl : Lit.dat (.bl b) = .bool b := rfl
@[simp] theorem dat_int : Lit.dat (.int i) = .int i := rfl
@[simp] theorem dat_str : Lit.dat (.str s) = .str (Str.ofString s) := rfl
@[simp] theorem isn_none : isNoneV (.d .none) = true := rfl
@[simp] theorem isn_bool : isNoneV (.d (.bool b)) = false := rfl
@[simp] theorem isn_int : isNoneV (.d (.int b)) = false := rfl
@[simp] theorem isn_str : isNoneV (.d (.str b)) = false := rfl
@[simp] theorem isn_tup : isNoneV (.d (.tuple b)) = false := rfl
@[simp] theorem isn_lst : isNoneV (.d (.list b)) = false := rfl
@[simp] theorem isn_cell : isNoneV (.cell b) = false := rfl
theorem run_eq {T : String → Option CDef} {f : String} {c : CDef} (hT : T f = some c) (n : Nat) (vs : List PV) (h : PH) (hl : vs.length = c.params) : run T (n + 1) f vs h = finish h.length (exB (run T n) c.body (vs.map some ++ List.replicate (c.slots - vs.length) none) h) := by
  simp only [run, hT, body, hl, if_true]
end J
end JEq

section JDefs
set_option Elab.async false
set_option linter.all false
set_option maxRecDepth 100000
set_option autoImplicit false
/-! J.Defs: the core of the defs that the laws share (printed by mkdefs.py, gen.py). -/
namespace J
open PySem
def c_is_ascending : DI := ⟨"is_ascending", ["row", "one", "other"], ⟨1, 3, (.cons (.ret (.blt .all (.lc (.zip (.var 0) (.sl (.var 0) (.so (.lit (.int 1))) .no)) (.tup [(.nm 1), (.nm 2)]) (.lit (.bl true)) (.cmp .lt (.var 1) (.var 2)) [1, 2]))) .nil)⟩⟩
def c_is_document : DI := ⟨"is_document", ["candidate", "sign"], ⟨1, 2, (.cons (.ite (.or (.not (.isi (.var 0) .str)) (.not (.chain .le .le (.lit (.int 1)) (.blt .len (.var 0)) (.lit (.int 3))))) (.cons (.ret (.lit (.bl false))) .nil) .nil) (.cons (.ret (.blt .all (.lc (.seq (.var 0)) (.nm 1) (.lit (.bl true)) (.chain .le .le (.lit (.str "a")) (.var 1) (.lit (.str "z"))) [1]))) .nil))⟩⟩
def c_is_collection : DI := ⟨"is_collection", ["candidate", "one"], ⟨1, 2, (.cons (.ite (.or (.not (.isi (.var 0) .tuple)) (.not (.chain .le .le (.lit (.int 1)) (.blt .len (.var 0)) (.lit (.int 7))))) (.cons (.ret (.lit (.bl false))) .nil) .nil) (.cons (.ret (.and (.blt .all (.lc (.seq (.var 0)) (.nm 1) (.lit (.bl true)) (.call "is_document" (.cons (.var 1) .nil)) [1])) (.call "is_ascending" (.cons (.var 0) .nil)))) .nil))⟩⟩
def c_require_collection : DI := ⟨"require_collection", ["collection"], ⟨1, 1, (.cons (.ite (.not (.call "is_collection" (.cons (.var 0) .nil))) (.cons (.raise "InvalidCollection") .nil) .nil) .nil)⟩⟩
def c_is_valid_ranking : DI := ⟨"is_valid_ranking", ["collection", "candidate", "one"], ⟨2, 3, (.cons (.ite (.or (.not (.isi (.var 1) .tuple)) (.not (.blt .all (.lc (.seq (.var 1)) (.nm 2) (.lit (.bl true)) (.and (.isi (.var 2) .str) (.cmp .in_ (.var 2) (.var 0))) [2])))) (.cons (.ret (.lit (.bl false))) .nil) .nil) (.cons (.ret (.cmp .eq (.blt .lenset (.var 1)) (.blt .len (.var 1)))) .nil))⟩⟩
def c_is_ranking : DI := ⟨"is_ranking", ["collection", "candidate"], ⟨2, 2, (.cons (.expr (.call "require_collection" (.cons (.var 0) .nil))) (.cons (.ret (.call "is_valid_ranking" (.cons (.var 0) (.cons (.var 1) .nil)))) .nil))⟩⟩
def c__law_draw : DI := ⟨"_law_draw", ["script", "state", "many", "k", "cell", "digits", "number", "more"], ⟨3, 8, (.cons (.ite (.not (.var 1)) (.cons (.app 1 (.blt .max (.bin .add (.lc (.seq (.var 0)) (.nm 4) (.lit (.bl true)) (.blt .abs (.var 4)) [4]) (.lst (.cons (.lit (.int 0)) .nil))))) .nil) .nil) (.cons (.app 1 (.lit (.int 0))) (.cons (.asg 3 (.blt .len (.var 1))) (.cons (.asg 4 (.ife (.var 0) (.ix (.var 0) (.bin .mod (.var 3) (.blt .len (.var 0)))) (.lit (.int 0)))) (.cons (.asg 5 (.bin .mod (.ix (.var 1) (.lit (.int 0))) (.lit (.int 65536)))) (.cons (.put 1 (.lit (.int 0)) (.bin .fdiv (.ix (.var 1) (.lit (.int 0))) (.lit (.int 65536)))) (.cons (.asg 6 (.bin .mod (.bin .add (.bin .add (.var 4) (.bin .mul (.lit (.int 40503)) (.var 5))) (.bin .mul (.lit (.int 104729)) (.var 3))) (.lit (.int 4294967291)))) (.cons (.asg 6 (.bin .mod (.bin .mul (.bin .mod (.bin .mul (.var 6) (.var 6)) (.lit (.int 4294967279))) (.lit (.int 48271))) (.lit (.int 4294967291)))) (.cons (.asg 7 (.bin .mod (.bin .mul (.bin .mod (.bin .mul (.var 6) (.var 6)) (.lit (.int 4294967279))) (.lit (.int 69621))) (.lit (.int 4294967291)))) (.cons (.ret (.bin .mod (.bin .add (.bin .mul (.bin .fdiv (.var 6) (.lit (.int 64))) (.lit (.int 67108864))) (.bin .fdiv (.var 7) (.lit (.int 64)))) (.var 2))) .nil))))))))))⟩⟩
def c__law_pick : DI := ⟨"_law_pick", ["script", "state", "some"], ⟨3, 3, (.cons (.ret (.ix (.var 2) (.call "_law_draw" (.cons (.var 0) (.cons (.var 1) (.cons (.blt .len (.var 2)) .nil)))))) .nil)⟩⟩
def c__law_shuffled : DI := ⟨"_law_shuffled", ["script", "state", "things", "rest", "found"], ⟨3, 5, (.cons (.par [(3, true), (4, true)] (.cons (.blt .list (.var 2)) (.cons (.lst .nil) .nil))) (.cons (.whl (.var 3) (.cons (.app 4 (.pop 3 (.call "_law_draw" (.cons (.var 0) (.cons (.var 1) (.cons (.blt .len (.var 3)) .nil)))))) .nil)) (.cons (.ret (.var 4)) .nil)))⟩⟩
def c__law_bent : DI := ⟨"_law_bent", ["script", "state", "thing", "at", "some"], ⟨3, 5, (.cons (.ite (.or (.not (.isi (.var 2) .tuple)) (.or (.not (.var 2)) (.cmp .eq (.call "_law_draw" (.cons (.var 0) (.cons (.var 1) (.cons (.lit (.int 4)) .nil)))) (.lit (.int 0))))) (.cons (.asg 4 (.lst (.cons (.lit .non) (.cons (.lit (.bl true)) (.cons (.lit (.bl false)) (.cons (.lit (.int 0)) (.cons (.lit (.int 1)) (.cons (.neg (.lit (.int 1))) (.cons (.lit (.int 3)) (.cons (.lit (.int 10)) (.cons (.lit (.str "a")) (.cons (.lit (.str "b")) (.cons (.lit (.str "")) (.cons (.lit (.str "A")) (.cons (.lit (.str "abcd")) (.cons (.tup .nil) (.cons (.lst .nil) .nil))))))))))))))))) (.cons (.asg 4 (.bin .add (.var 4) (.lst (.cons (.tup (.cons (.lit (.str "a")) .nil)) (.cons (.tup (.cons (.lit (.str "b")) (.cons (.lit (.str "a")) .nil))) (.cons (.tup (.cons (.lit (.int 1)) (.cons (.lit (.int 0)) .nil))) (.cons (.tup (.cons (.lit (.str "gain")) (.cons (.lit (.int 2)) .nil))) .nil))))))) (.cons (.ite (.isi (.var 2) .tuple) (.cons (.asg 4 (.bin .add (.var 4) (.lst (.cons (.blt .list (.var 2)) (.cons (.sl (.var 2) .no (.so (.neg (.lit (.int 1))))) (.cons (.bin .add (.var 2) (.sl (.var 2) (.so (.neg (.lit (.int 1)))) .no)) (.cons (.sl (.var 2) (.so (.lit (.int 1))) .no) (.cons (.rev (.var 2)) (.cons (.bin .add (.var 2) (.tup (.cons (.lit .non) .nil))) .nil))))))))) .nil) .nil) (.cons (.ite (.isi (.var 2) .int) (.cons (.asg 4 (.bin .add (.var 4) (.bin .mul (.lst (.cons (.bin .add (.var 2) (.lit (.int 1))) (.cons (.bin .sub (.var 2) (.lit (.int 1))) (.cons (.not (.var 2)) (.cons (.tup (.cons (.var 2) .nil)) (.cons (.blt .str (.var 2)) .nil)))))) (.lit (.int 2))))) .nil) .nil) (.cons (.ret (.call "_law_pick" (.cons (.var 0) (.cons (.var 1) (.cons (.var 4) .nil))))) .nil))))) .nil) (.cons (.asg 3 (.call "_law_draw" (.cons (.var 0) (.cons (.var 1) (.cons (.blt .len (.var 2)) .nil))))) (.cons (.ret (.bin .add (.bin .add (.sl (.var 2) .no (.so (.var 3))) (.tup (.cons (.call "_law_bent" (.cons (.var 0) (.cons (.var 1) (.cons (.ix (.var 2) (.var 3)) .nil)))) .nil))) (.sl (.var 2) (.so (.bin .add (.var 3) (.lit (.int 1)))) .no))) .nil)))⟩⟩
def c__law_collection : DI := ⟨"_law_collection", ["script", "state", "most", "names"], ⟨3, 4, (.cons (.asg 3 (.call "_law_shuffled" (.cons (.var 0) (.cons (.var 1) (.cons (.lst (.cons (.lit (.str "a")) (.cons (.lit (.str "b")) (.cons (.lit (.str "c")) (.cons (.lit (.str "d")) (.cons (.lit (.str "e")) (.cons (.lit (.str "f")) (.cons (.lit (.str "gg")) (.cons (.lit (.str "hh")) .nil))))))))) .nil))))) (.cons (.ret (.ktup (.blt .sorted (.sl (.var 3) .no (.so (.bin .add (.lit (.int 1)) (.call "_law_draw" (.cons (.var 0) (.cons (.var 1) (.cons (.var 2) .nil)))))))))) .nil))⟩⟩
def c__law_ranking : DI := ⟨"_law_ranking", ["script", "state", "collection", "rows", "many"], ⟨3, 5, (.cons (.asg 3 (.call "_law_shuffled" (.cons (.var 0) (.cons (.var 1) (.cons (.var 2) .nil))))) (.cons (.asg 4 (.call "_law_pick" (.cons (.var 0) (.cons (.var 1) (.cons (.lst (.cons (.blt .len (.var 3)) (.cons (.blt .len (.var 3)) (.cons (.call "_law_draw" (.cons (.var 0) (.cons (.var 1) (.cons (.bin .add (.blt .len (.var 3)) (.lit (.int 1))) .nil)))) .nil)))) .nil))))) (.cons (.ret (.blt .tuple (.sl (.var 3) .no (.so (.var 4))))) .nil)))⟩⟩
def c__law_is_collection : DI := ⟨"_law_is_collection", ["thing", "one", "sign"], ⟨1, 3, (.cons (.ite (.or (.not (.isi (.var 0) .tuple)) (.not (.chain .le .le (.lit (.int 1)) (.blt .len (.var 0)) (.lit (.int 7))))) (.cons (.ret (.lit (.bl false))) .nil) .nil) (.cons (.ite (.lc (.seq (.var 0)) (.nm 1) (.not (.isi (.var 1) .str)) (.var 1) [1]) (.cons (.ret (.lit (.bl false))) .nil) .nil) (.cons (.ite (.lc (.seq (.var 0)) (.nm 1) (.or (.not (.chain .le .le (.lit (.int 1)) (.blt .len (.var 1)) (.lit (.int 3)))) (.lc (.seq (.var 1)) (.nm 2) (.not (.chain .le .le (.lit (.str "a")) (.var 2) (.lit (.str "z")))) (.var 2) [2])) (.var 1) [1]) (.cons (.ret (.lit (.bl false))) .nil) .nil) (.cons (.ret (.cmp .eq (.blt .list (.var 0)) (.blt .sortedset (.var 0)))) .nil))))⟩⟩
def c__law_is_ranking : DI := ⟨"_law_is_ranking", ["collection", "thing", "one"], ⟨2, 3, (.cons (.ite (.not (.isi (.var 1) .tuple)) (.cons (.ret (.lit (.bl false))) .nil) .nil) (.cons (.ite (.lc (.seq (.var 1)) (.nm 2) (.or (.not (.isi (.var 2) .str)) (.cmp .nin (.var 2) (.var 0))) (.var 2) [2]) (.cons (.ret (.lit (.bl false))) .nil) .nil) (.cons (.ret (.cmp .eq (.blt .lenset (.var 1)) (.blt .len (.var 1)))) .nil)))⟩⟩
def c__law_is_ranking_or : DI := ⟨"_law_is_ranking_or", ["collection", "thing"], ⟨2, 2, (.cons (.try_ (.call "is_ranking" (.cons (.var 0) (.cons (.var 1) .nil))) [("InvalidCollection", .str "InvalidCollection")]) .nil)⟩⟩
def c_is_integer : DI := ⟨"is_integer", ["candidate", "least", "most"], ⟨3, 3, (.cons (.ret (.and (.isi (.var 0) .int) (.and (.not (.isi (.var 0) .bool)) (.chain .le .le (.var 1) (.var 0) (.var 2))))) .nil)⟩⟩
def c_are_valid_judgements : DI := ⟨"are_valid_judgements", ["collection", "candidate", "entry"], ⟨2, 3, (.cons (.ite (.or (.not (.isi (.var 1) .tuple)) (.cmp .ne (.blt .len (.var 1)) (.blt .len (.var 0)))) (.cons (.ret (.lit (.bl false))) .nil) .nil) (.cons (.ret (.blt .all (.lc (.seq (.var 1)) (.nm 2) (.lit (.bl true)) (.or (.isn (.var 2)) (.call "is_integer" (.cons (.var 2) (.cons (.lit (.int 0)) (.cons (.lit (.int 1)) .nil))))) [2]))) .nil))⟩⟩
def c_are_judgements : DI := ⟨"are_judgements", ["collection", "candidate"], ⟨2, 2, (.cons (.expr (.call "require_collection" (.cons (.var 0) .nil))) (.cons (.ret (.call "are_valid_judgements" (.cons (.var 0) (.cons (.var 1) .nil)))) .nil))⟩⟩
def c_require_judgements : DI := ⟨"require_judgements", ["collection", "judgements"], ⟨2, 2, (.cons (.expr (.call "require_collection" (.cons (.var 0) .nil))) (.cons (.ite (.not (.call "are_valid_judgements" (.cons (.var 0) (.cons (.var 1) .nil)))) (.cons (.raise "InvalidJudgements") .nil) .nil) .nil))⟩⟩
def c_all_completions : DI := ⟨"all_completions", ["judgements", "rows", "entry", "some", "row", "one"], ⟨1, 6, (.cons (.asg 1 (.lst (.cons (.tup .nil) .nil))) (.cons (.for_ (.seq (.var 0)) (.nm 2) (.cons (.asg 3 (.ife (.isn (.var 2)) (.lst (.cons (.lit (.int 0)) (.cons (.lit (.int 1)) .nil))) (.lst (.cons (.var 2) .nil)))) (.cons (.asg 1 (.lc2 (.seq (.var 1)) (.nm 4) (.lit (.bl true)) (.seq (.var 3)) (.nm 5) (.lit (.bl true)) (.bin .add (.var 4) (.tup (.cons (.var 5) .nil))) [4, 5] [5])) .nil))) (.cons (.ret (.var 1)) .nil)))⟩⟩
def c_completions : DI := ⟨"completions", ["collection", "judgements"], ⟨2, 2, (.cons (.expr (.call "require_judgements" (.cons (.var 0) (.cons (.var 1) .nil)))) (.cons (.ret (.call "all_completions" (.cons (.var 1) .nil))) .nil))⟩⟩
def c_open_documents : DI := ⟨"open_documents", ["collection", "judgements", "document", "entry"], ⟨2, 4, (.cons (.ret (.blt .tuple (.lc (.zip (.var 0) (.var 1)) (.tup [(.nm 2), (.nm 3)]) (.isn (.var 3)) (.var 2) [2, 3]))) .nil)⟩⟩
def c_unjudged : DI := ⟨"unjudged", ["collection", "judgements"], ⟨2, 2, (.cons (.expr (.call "require_judgements" (.cons (.var 0) (.cons (.var 1) .nil)))) (.cons (.ret (.call "open_documents" (.cons (.var 0) (.cons (.var 1) .nil)))) .nil))⟩⟩
def c_changed : DI := ⟨"changed", ["collection", "judgements", "document", "entry", "spot"], ⟨4, 5, (.cons (.asg 4 (.mth .tindex (.kvar 0) (.var 2))) (.cons (.ret (.bin .add (.bin .add (.sl (.var 1) .no (.so (.var 4))) (.tup (.cons (.var 3) .nil))) (.sl (.var 1) (.so (.bin .add (.var 4) (.lit (.int 1)))) .no))) .nil))⟩⟩
def c_require_document : DI := ⟨"require_document", ["collection", "document"], ⟨2, 2, (.cons (.ite (.or (.not (.isi (.var 1) .str)) (.cmp .nin (.var 1) (.var 0))) (.cons (.raise "InvalidDocument") .nil) .nil) .nil)⟩⟩
def c_with_judgement : DI := ⟨"with_judgement", ["collection", "judgements", "document", "entry"], ⟨4, 4, (.cons (.expr (.call "require_judgements" (.cons (.var 0) (.cons (.var 1) .nil)))) (.cons (.expr (.call "require_document" (.cons (.var 0) (.cons (.var 2) .nil)))) (.cons (.ite (.and (.notn (.var 3)) (.not (.call "is_integer" (.cons (.var 3) (.cons (.lit (.int 0)) (.cons (.lit (.int 1)) .nil)))))) (.cons (.raise "InvalidEntry") .nil) .nil) (.cons (.ret (.call "changed" (.cons (.kvar 0) (.cons (.var 1) (.cons (.var 2) (.cons (.var 3) .nil)))))) .nil))))⟩⟩
def c__law_same : DI := ⟨"_law_same", ["got", "due", "one", "other"], ⟨2, 4, (.cons (.ite (.isn (.var 1)) (.cons (.ret (.isn (.var 0))) .nil) .nil) (.cons (.ite (.isi (.var 1) .bool) (.cons (.ret (.and (.isi (.var 0) .bool) (.cmp .eq (.var 0) (.var 1)))) .nil) .nil) (.cons (.ite (.isi (.var 1) .tuple) (.cons (.ite (.or (.not (.isi (.var 0) .tuple)) (.cmp .ne (.blt .len (.var 0)) (.blt .len (.var 1)))) (.cons (.ret (.lit (.bl false))) .nil) .nil) (.cons (.ret (.blt .all (.lc (.zip (.var 0) (.var 1)) (.tup [(.nm 2), (.nm 3)]) (.lit (.bl true)) (.call "_law_same" (.cons (.var 2) (.cons (.var 3) .nil))) [2, 3]))) .nil)) .nil) (.cons (.ite (.isi (.var 1) .str) (.cons (.ret (.and (.isi (.var 0) .str) (.cmp .eq (.var 0) (.var 1)))) .nil) .nil) (.cons (.ret (.and (.isi (.var 0) .int) (.and (.not (.isi (.var 0) .bool)) (.cmp .eq (.var 0) (.var 1))))) .nil)))))⟩⟩
def c__law_entries : DI := ⟨"_law_entries", ["script", "state", "collection", "some", "one"], ⟨3, 5, (.cons (.asg 3 (.call "_law_pick" (.cons (.var 0) (.cons (.var 1) (.cons (.lst (.cons (.lst (.cons (.lit .non) (.cons (.lit .non) (.cons (.lit (.int 0)) (.cons (.lit (.int 1)) .nil))))) (.cons (.lst (.cons (.lit .non) (.cons (.lit (.int 0)) (.cons (.lit (.int 1)) .nil)))) (.cons (.lst (.cons (.lit .non) .nil)) .nil)))) .nil))))) (.cons (.ret (.blt .tuple (.lc (.seq (.var 2)) (.nm 4) (.lit (.bl true)) (.call "_law_pick" (.cons (.var 0) (.cons (.var 1) (.cons (.var 3) .nil)))) [4]))) .nil))⟩⟩
def c__law_all : DI := ⟨"_law_all", ["entries", "rows", "entry", "longer", "row"], ⟨1, 5, (.cons (.asg 1 (.lst (.cons (.tup .nil) .nil))) (.cons (.for_ (.seq (.var 0)) (.nm 2) (.cons (.ite (.isn (.var 2)) (.cons (.asg 3 (.lst .nil)) (.cons (.for_ (.seq (.var 1)) (.nm 4) (.cons (.asg 3 (.bin .add (.var 3) (.lst (.cons (.bin .add (.var 4) (.tup (.cons (.lit (.int 0)) .nil))) (.cons (.bin .add (.var 4) (.tup (.cons (.lit (.int 1)) .nil))) .nil))))) .nil)) (.cons (.asg 1 (.var 3)) .nil))) (.cons (.asg 1 (.lc (.seq (.var 1)) (.nm 4) (.lit (.bl true)) (.bin .add (.var 4) (.tup (.cons (.var 2) .nil))) [4])) .nil)) .nil)) (.cons (.ret (.var 1)) .nil)))⟩⟩
def c__law_with_judgement_or : DI := ⟨"_law_with_judgement_or", ["collection", "entries", "document", "entry"], ⟨4, 4, (.cons (.try_ (.call "with_judgement" (.cons (.kvar 0) (.cons (.var 1) (.cons (.var 2) (.cons (.var 3) .nil))))) [("InvalidCollection", .str "InvalidCollection"), ("InvalidJudgements", .str "InvalidJudgements"), ("InvalidDocument", .str "InvalidDocument"), ("InvalidEntry", .str "InvalidEntry")]) .nil)⟩⟩
def c__law_completions_or : DI := ⟨"_law_completions_or", ["collection", "entries"], ⟨2, 2, (.cons (.try_ (.call "completions" (.cons (.var 0) (.cons (.var 1) .nil))) [("InvalidCollection", .str "InvalidCollection"), ("InvalidJudgements", .str "InvalidJudgements")]) .nil)⟩⟩
def c__law_unjudged_or : DI := ⟨"_law_unjudged_or", ["collection", "entries"], ⟨2, 2, (.cons (.try_ (.call "unjudged" (.cons (.var 0) (.cons (.var 1) .nil))) [("InvalidCollection", .str "InvalidCollection"), ("InvalidJudgements", .str "InvalidJudgements")]) .nil)⟩⟩
def c__law_are_judgements_or : DI := ⟨"_law_are_judgements_or", ["collection", "thing"], ⟨2, 2, (.cons (.try_ (.call "are_judgements" (.cons (.var 0) (.cons (.var 1) .nil))) [("InvalidCollection", .str "InvalidCollection")]) .nil)⟩⟩
def c_is_measure : DI := ⟨"is_measure", ["candidate"], ⟨1, 1, (.cons (.ite (.or (.not (.isi (.var 0) .tuple)) (.or (.not (.var 0)) (.not (.isi (.ix (.var 0) (.lit (.int 0))) .str)))) (.cons (.ret (.lit (.bl false))) .nil) .nil) (.cons (.ite (.cmp .eq (.blt .len (.var 0)) (.lit (.int 1))) (.cons (.ret (.cmp .in_ (.ix (.var 0) (.lit (.int 0))) (.tup (.cons (.lit (.str "reciprocal")) (.cons (.lit (.str "average")) .nil))))) .nil) .nil) (.cons (.ite (.or (.cmp .ne (.blt .len (.var 0)) (.lit (.int 2))) (.cmp .nin (.ix (.var 0) (.lit (.int 0))) (.tup (.cons (.lit (.str "precision")) (.cons (.lit (.str "recall")) (.cons (.lit (.str "gain")) (.cons (.lit (.str "share")) .nil))))))) (.cons (.ret (.lit (.bl false))) .nil) .nil) (.cons (.ret (.call "is_integer" (.cons (.ix (.var 0) (.lit (.int 1))) (.cons (.lit (.int 1)) (.cons (.lit (.int 7)) .nil))))) .nil))))⟩⟩
def c__law_measure : DI := ⟨"_law_measure", ["script", "state", "kind"], ⟨2, 3, (.cons (.asg 2 (.call "_law_pick" (.cons (.var 0) (.cons (.var 1) (.cons (.lst (.cons (.lit (.str "average")) (.cons (.lit (.str "average")) (.cons (.lit (.str "reciprocal")) (.cons (.lit (.str "precision")) (.cons (.lit (.str "recall")) (.cons (.lit (.str "gain")) (.cons (.lit (.str "share")) .nil)))))))) .nil))))) (.cons (.ret (.ife (.cmp .in_ (.var 2) (.tup (.cons (.lit (.str "average")) (.cons (.lit (.str "reciprocal")) .nil)))) (.tup (.cons (.var 2) .nil)) (.tup (.cons (.var 2) (.cons (.bin .add (.lit (.int 1)) (.call "_law_draw" (.cons (.var 0) (.cons (.var 1) (.cons (.lit (.int 5)) .nil))))) .nil))))) .nil))⟩⟩
def c_require_ranking : DI := ⟨"require_ranking", ["collection", "ranking"], ⟨2, 2, (.cons (.ite (.not (.call "is_valid_ranking" (.cons (.var 0) (.cons (.var 1) .nil)))) (.cons (.raise "InvalidRanking") .nil) .nil) .nil)⟩⟩
def c_require_measure : DI := ⟨"require_measure", ["measure"], ⟨1, 1, (.cons (.ite (.not (.call "is_measure" (.cons (.var 0) .nil))) (.cons (.raise "InvalidMeasure") .nil) .nil) .nil)⟩⟩
def c_lowest_terms : DI := ⟨"lowest_terms", ["top", "bottom", "one", "other"], ⟨2, 4, (.cons (.ite (.cmp .eq (.var 1) (.lit (.int 0))) (.cons (.ret (.tup (.cons (.lit (.int 0)) (.cons (.lit (.int 1)) .nil)))) .nil) .nil) (.cons (.par [(2, false), (3, false)] (.cons (.blt .abs (.var 0)) (.cons (.var 1) .nil))) (.cons (.whl (.var 3) (.cons (.par [(2, false), (3, false)] (.cons (.var 3) (.cons (.bin .mod (.var 2) (.var 3)) .nil))) .nil)) (.cons (.ret (.tup (.cons (.bin .fdiv (.var 0) (.var 2)) (.cons (.bin .fdiv (.var 1) (.var 2)) .nil)))) .nil))))⟩⟩
def c_added : DI := ⟨"added", ["one", "other"], ⟨2, 2, (.cons (.ret (.call "lowest_terms" (.cons (.bin .add (.bin .mul (.ix (.var 0) (.lit (.int 0))) (.ix (.var 1) (.lit (.int 1)))) (.bin .mul (.ix (.var 1) (.lit (.int 0))) (.ix (.var 0) (.lit (.int 1))))) (.cons (.bin .mul (.ix (.var 0) (.lit (.int 1))) (.ix (.var 1) (.lit (.int 1)))) .nil)))) .nil)⟩⟩
def c_hits_of : DI := ⟨"hits_of", ["collection", "completion", "ranking", "entries", "document"], ⟨3, 5, (.cons (.asg 3 (.b2 .dzip (.var 0) (.var 1))) (.cons (.ret (.lc (.seq (.var 2)) (.nm 4) (.lit (.bl true)) (.ix (.var 3) (.var 4)) [4])) .nil))⟩⟩
def c_gain_of : DI := ⟨"gain_of", ["hits", "total", "spot", "hit"], ⟨1, 4, (.cons (.asg 1 (.tup (.cons (.lit (.int 0)) (.cons (.lit (.int 1)) .nil)))) (.cons (.for_ (.enum (.var 0)) (.tup [(.nm 2), (.nm 3)]) (.cons (.asg 1 (.call "added" (.cons (.var 1) (.cons (.tup (.cons (.var 3) (.cons (.bin .add (.var 2) (.lit (.int 1))) .nil))) .nil)))) .nil)) (.cons (.ret (.var 1)) .nil)))⟩⟩
def c_average_of : DI := ⟨"average_of", ["hits", "relevant", "total", "found", "spot", "hit"], ⟨2, 6, (.cons (.par [(2, false), (3, false)] (.cons (.tup (.cons (.lit (.int 0)) (.cons (.lit (.int 1)) .nil))) (.cons (.lit (.int 0)) .nil))) (.cons (.for_ (.enum (.var 0)) (.tup [(.nm 4), (.nm 5)]) (.cons (.aug 3 (.var 5)) (.cons (.asg 2 (.call "added" (.cons (.var 2) (.cons (.tup (.cons (.bin .mul (.var 5) (.var 3)) (.cons (.bin .add (.var 4) (.lit (.int 1))) .nil))) .nil)))) .nil))) (.cons (.ret (.call "lowest_terms" (.cons (.ix (.var 2) (.lit (.int 0))) (.cons (.bin .mul (.ix (.var 2) (.lit (.int 1))) (.var 1)) .nil)))) .nil)))⟩⟩
def c_value_of : DI := ⟨"value_of", ["collection", "completion", "ranking", "measure", "number", "gain", "most", "hits", "relevant"], ⟨4, 9, (.cons (.par [(7, false), (8, false)] (.cons (.call "hits_of" (.cons (.var 0) (.cons (.var 1) (.cons (.var 2) .nil)))) (.cons (.blt .sum (.var 1)) .nil))) (.cons (.ite (.cmp .eq (.ix (.var 3) (.lit (.int 0))) (.lit (.str "average"))) (.cons (.ret (.call "average_of" (.cons (.var 7) (.cons (.var 8) .nil)))) .nil) .nil) (.cons (.ite (.cmp .eq (.ix (.var 3) (.lit (.int 0))) (.lit (.str "reciprocal"))) (.cons (.ret (.ife (.cmp .in_ (.lit (.int 1)) (.var 7)) (.tup (.cons (.lit (.int 1)) (.cons (.bin .add (.mth .index (.var 7) (.lit (.int 1))) (.lit (.int 1))) .nil))) (.tup (.cons (.lit (.int 0)) (.cons (.lit (.int 1)) .nil))))) .nil) .nil) (.cons (.asg 4 (.ix (.var 3) (.lit (.int 1)))) (.cons (.ite (.cmp .eq (.ix (.var 3) (.lit (.int 0))) (.lit (.str "precision"))) (.cons (.ret (.call "lowest_terms" (.cons (.blt .sum (.sl (.var 7) .no (.so (.var 4)))) (.cons (.var 4) .nil)))) .nil) .nil) (.cons (.ite (.cmp .eq (.ix (.var 3) (.lit (.int 0))) (.lit (.str "recall"))) (.cons (.ret (.call "lowest_terms" (.cons (.blt .sum (.sl (.var 7) .no (.so (.var 4)))) (.cons (.var 8) .nil)))) .nil) .nil) (.cons (.asg 5 (.call "gain_of" (.cons (.sl (.var 7) .no (.so (.var 4))) .nil))) (.cons (.ite (.cmp .eq (.ix (.var 3) (.lit (.int 0))) (.lit (.str "gain"))) (.cons (.ret (.var 5)) .nil) .nil) (.cons (.asg 6 (.call "gain_of" (.cons (.bin .mul (.lst (.cons (.lit (.int 1)) .nil)) (.min2 (.var 4) (.var 8))) .nil))) (.cons (.ret (.call "lowest_terms" (.cons (.bin .mul (.ix (.var 5) (.lit (.int 0))) (.ix (.var 6) (.lit (.int 1)))) (.cons (.bin .mul (.ix (.var 5) (.lit (.int 1))) (.ix (.var 6) (.lit (.int 0)))) .nil)))) .nil))))))))))⟩⟩
def c_require_complete : DI := ⟨"require_complete", ["judgements"], ⟨1, 1, (.cons (.ite (.cmp .in_ (.lit .non) (.var 0)) (.cons (.raise "Incomplete") .nil) .nil) .nil)⟩⟩
def c_value : DI := ⟨"value", ["collection", "judgements", "ranking", "measure"], ⟨4, 4, (.cons (.expr (.call "require_judgements" (.cons (.var 0) (.cons (.var 1) .nil)))) (.cons (.expr (.call "require_ranking" (.cons (.var 0) (.cons (.var 2) .nil)))) (.cons (.expr (.call "require_measure" (.cons (.var 3) .nil))) (.cons (.expr (.call "require_complete" (.cons (.var 1) .nil))) (.cons (.ret (.call "value_of" (.cons (.var 0) (.cons (.var 1) (.cons (.var 2) (.cons (.var 3) .nil)))))) .nil)))))⟩⟩
def c__law_full : DI := ⟨"_law_full", ["script", "state", "collection", "one"], ⟨3, 4, (.cons (.ret (.blt .tuple (.lc (.seq (.var 2)) (.nm 3) (.lit (.bl true)) (.call "_law_draw" (.cons (.var 0) (.cons (.var 1) (.cons (.lit (.int 2)) .nil)))) [3]))) .nil)⟩⟩
def c__law_fraction : DI := ⟨"_law_fraction", ["top", "bottom", "one", "other"], ⟨2, 4, (.cons (.ite (.cmp .eq (.var 1) (.lit (.int 0))) (.cons (.ret (.tup (.cons (.lit (.int 0)) (.cons (.lit (.int 1)) .nil)))) .nil) .nil) (.cons (.par [(2, false), (3, false)] (.cons (.var 0) (.cons (.var 1) .nil))) (.cons (.whl (.var 3) (.cons (.par [(2, false), (3, false)] (.cons (.var 3) (.cons (.bin .mod (.var 2) (.var 3)) .nil))) .nil)) (.cons (.ret (.tup (.cons (.bin .fdiv (.var 0) (.var 2)) (.cons (.bin .fdiv (.var 1) (.var 2)) .nil)))) .nil))))⟩⟩
def c__law_plus : DI := ⟨"_law_plus", ["one", "other"], ⟨2, 2, (.cons (.ret (.call "_law_fraction" (.cons (.bin .add (.bin .mul (.ix (.var 0) (.lit (.int 0))) (.ix (.var 1) (.lit (.int 1)))) (.bin .mul (.ix (.var 1) (.lit (.int 0))) (.ix (.var 0) (.lit (.int 1))))) (.cons (.bin .mul (.ix (.var 0) (.lit (.int 1))) (.ix (.var 1) (.lit (.int 1)))) .nil)))) .nil)⟩⟩
def c__law_value : DI := ⟨"_law_value", ["collection", "completion", "ranking", "measure", "places", "total", "good", "place", "most", "own", "kind", "spot"], ⟨4, 12, (.cons (.par [(9, false), (10, false)] (.cons (.blt .dict (.b2 .lzip (.var 0) (.var 1))) (.cons (.ix (.var 3) (.lit (.int 0))) .nil))) (.cons (.asg 4 (.lc (.rng (.blt .len (.var 2))) (.nm 11) (.ix (.var 9) (.ix (.var 2) (.var 11))) (.bin .add (.var 11) (.lit (.int 1))) [11])) (.cons (.ite (.cmp .eq (.var 10) (.lit (.str "reciprocal"))) (.cons (.ret (.ife (.var 4) (.tup (.cons (.lit (.int 1)) (.cons (.ix (.var 4) (.lit (.int 0))) .nil))) (.tup (.cons (.lit (.int 0)) (.cons (.lit (.int 1)) .nil))))) .nil) .nil) (.cons (.asg 5 (.tup (.cons (.lit (.int 0)) (.cons (.lit (.int 1)) .nil)))) (.cons (.ite (.cmp .eq (.var 10) (.lit (.str "average"))) (.cons (.for_ (.rng (.blt .len (.var 4))) (.nm 11) (.cons (.asg 5 (.call "_law_plus" (.cons (.var 5) (.cons (.tup (.cons (.bin .add (.var 11) (.lit (.int 1))) (.cons (.ix (.var 4) (.var 11)) .nil))) .nil)))) .nil)) (.cons (.ret (.call "_law_fraction" (.cons (.ix (.var 5) (.lit (.int 0))) (.cons (.bin .mul (.ix (.var 5) (.lit (.int 1))) (.blt .sum (.var 1))) .nil)))) .nil)) .nil) (.cons (.asg 6 (.lc (.seq (.var 4)) (.nm 7) (.cmp .le (.var 7) (.ix (.var 3) (.lit (.int 1)))) (.var 7) [7])) (.cons (.ite (.cmp .in_ (.var 10) (.tup (.cons (.lit (.str "precision")) (.cons (.lit (.str "recall")) .nil)))) (.cons (.ret (.call "_law_fraction" (.cons (.blt .len (.var 6)) (.cons (.ife (.cmp .eq (.var 10) (.lit (.str "precision"))) (.ix (.var 3) (.lit (.int 1))) (.blt .sum (.var 1))) .nil)))) .nil) .nil) (.cons (.for_ (.seq (.var 6)) (.nm 7) (.cons (.asg 5 (.call "_law_plus" (.cons (.var 5) (.cons (.tup (.cons (.lit (.int 1)) (.cons (.var 7) .nil))) .nil)))) .nil)) (.cons (.asg 8 (.tup (.cons (.lit (.int 0)) (.cons (.lit (.int 1)) .nil)))) (.cons (.for_ (.rng2 (.lit (.int 1)) (.bin .add (.min2 (.ix (.var 3) (.lit (.int 1))) (.blt .sum (.var 1))) (.lit (.int 1)))) (.nm 7) (.cons (.asg 8 (.call "_law_plus" (.cons (.var 8) (.cons (.tup (.cons (.lit (.int 1)) (.cons (.var 7) .nil))) .nil)))) .nil)) (.cons (.ret (.ife (.cmp .eq (.var 10) (.lit (.str "gain"))) (.var 5) (.call "_law_fraction" (.cons (.bin .mul (.ix (.var 5) (.lit (.int 0))) (.ix (.var 8) (.lit (.int 1)))) (.cons (.bin .mul (.ix (.var 5) (.lit (.int 1))) (.ix (.var 8) (.lit (.int 0)))) .nil))))) .nil)))))))))))⟩⟩
def c__law_value_or : DI := ⟨"_law_value_or", ["collection", "entries", "ranking", "measure"], ⟨4, 4, (.cons (.try_ (.call "value" (.cons (.var 0) (.cons (.var 1) (.cons (.var 2) (.cons (.var 3) .nil))))) [("InvalidCollection", .str "InvalidCollection"), ("InvalidJudgements", .str "InvalidJudgements"), ("InvalidRanking", .str "InvalidRanking"), ("InvalidMeasure", .str "InvalidMeasure"), ("Incomplete", .str "Incomplete")]) .nil)⟩⟩
def c_relevant_first : DI := ⟨"relevant_first", ["collection", "completion", "entries", "first", "document"], ⟨2, 5, (.cons (.asg 2 (.b2 .dzip (.var 0) (.var 1))) (.cons (.asg 3 (.lc (.seq (.var 0)) (.nm 4) (.cmp .eq (.ix (.var 2) (.var 4)) (.lit (.int 1))) (.var 4) [4])) (.cons (.ret (.blt .tuple (.bin .add (.var 3) (.lc (.seq (.var 0)) (.nm 4) (.cmp .eq (.ix (.var 2) (.var 4)) (.lit (.int 0))) (.var 4) [4])))) .nil)))⟩⟩
def c_best_ranking : DI := ⟨"best_ranking", ["collection", "judgements"], ⟨2, 2, (.cons (.expr (.call "require_judgements" (.cons (.var 0) (.cons (.var 1) .nil)))) (.cons (.expr (.call "require_complete" (.cons (.var 1) .nil))) (.cons (.ret (.call "relevant_first" (.cons (.var 0) (.cons (.var 1) .nil)))) .nil)))⟩⟩
def c__law_below : DI := ⟨"_law_below", ["one", "other"], ⟨2, 2, (.cons (.ret (.cmp .lt (.bin .mul (.ix (.var 0) (.lit (.int 0))) (.ix (.var 1) (.lit (.int 1)))) (.bin .mul (.ix (.var 1) (.lit (.int 0))) (.ix (.var 0) (.lit (.int 1)))))) .nil)⟩⟩
def c_is_below : DI := ⟨"is_below", ["one", "other"], ⟨2, 2, (.cons (.ret (.cmp .lt (.bin .mul (.ix (.var 0) (.lit (.int 0))) (.ix (.var 1) (.lit (.int 1)))) (.bin .mul (.ix (.var 1) (.lit (.int 0))) (.ix (.var 0) (.lit (.int 1)))))) .nil)⟩⟩
def c_values_of : DI := ⟨"values_of", ["collection", "judgements", "ranking", "measure", "one"], ⟨4, 5, (.cons (.ret (.lc (.seq (.call "all_completions" (.cons (.var 1) .nil))) (.nm 4) (.lit (.bl true)) (.tup (.cons (.var 4) (.cons (.call "value_of" (.cons (.var 0) (.cons (.var 4) (.cons (.var 2) (.cons (.var 3) .nil))))) .nil))) [4])) .nil)⟩⟩
def c_lowest : DI := ⟨"lowest", ["rows", "best", "row"], ⟨1, 3, (.cons (.asg 1 (.ix (.var 0) (.lit (.int 0)))) (.cons (.for_ (.seq (.var 0)) (.nm 2) (.cons (.ite (.call "is_below" (.cons (.ix (.var 2) (.lit (.int 1))) (.cons (.ix (.var 1) (.lit (.int 1))) .nil))) (.cons (.asg 1 (.var 2)) .nil) .nil) .nil)) (.cons (.ret (.var 1)) .nil)))⟩⟩
def c_highest : DI := ⟨"highest", ["rows", "best", "row"], ⟨1, 3, (.cons (.asg 1 (.ix (.var 0) (.lit (.int 0)))) (.cons (.for_ (.seq (.var 0)) (.nm 2) (.cons (.ite (.call "is_below" (.cons (.ix (.var 1) (.lit (.int 1))) (.cons (.ix (.var 2) (.lit (.int 1))) .nil))) (.cons (.asg 1 (.var 2)) .nil) .nil) .nil)) (.cons (.ret (.var 1)) .nil)))⟩⟩
def c_checked_values : DI := ⟨"checked_values", ["collection", "judgements", "ranking", "measure"], ⟨4, 4, (.cons (.expr (.call "require_judgements" (.cons (.var 0) (.cons (.var 1) .nil)))) (.cons (.expr (.call "require_ranking" (.cons (.var 0) (.cons (.var 2) .nil)))) (.cons (.expr (.call "require_measure" (.cons (.var 3) .nil))) (.cons (.ret (.call "values_of" (.cons (.var 0) (.cons (.var 1) (.cons (.var 2) (.cons (.var 3) .nil)))))) .nil))))⟩⟩
def c_least : DI := ⟨"least", ["collection", "judgements", "ranking", "measure"], ⟨4, 4, (.cons (.ret (.ix (.call "lowest" (.cons (.call "checked_values" (.cons (.var 0) (.cons (.var 1) (.cons (.var 2) (.cons (.var 3) .nil))))) .nil)) (.lit (.int 1)))) .nil)⟩⟩
def c_greatest : DI := ⟨"greatest", ["collection", "judgements", "ranking", "measure"], ⟨4, 4, (.cons (.ret (.ix (.call "highest" (.cons (.call "checked_values" (.cons (.var 0) (.cons (.var 1) (.cons (.var 2) (.cons (.var 3) .nil))))) .nil)) (.lit (.int 1)))) .nil)⟩⟩
def c_least_completion : DI := ⟨"least_completion", ["collection", "judgements", "ranking", "measure"], ⟨4, 4, (.cons (.ret (.ix (.call "lowest" (.cons (.call "checked_values" (.cons (.var 0) (.cons (.var 1) (.cons (.var 2) (.cons (.var 3) .nil))))) .nil)) (.lit (.int 0)))) .nil)⟩⟩
def c_greatest_completion : DI := ⟨"greatest_completion", ["collection", "judgements", "ranking", "measure"], ⟨4, 4, (.cons (.ret (.ix (.call "highest" (.cons (.call "checked_values" (.cons (.var 0) (.cons (.var 1) (.cons (.var 2) (.cons (.var 3) .nil))))) .nil)) (.lit (.int 0)))) .nil)⟩⟩
def c_possible_values : DI := ⟨"possible_values", ["collection", "judgements", "ranking", "measure", "rows", "rest", "found", "low", "row"], ⟨4, 9, (.cons (.asg 4 (.call "checked_values" (.cons (.var 0) (.cons (.var 1) (.cons (.var 2) (.cons (.var 3) .nil)))))) (.cons (.par [(5, false), (6, true)] (.cons (.lc (.seq (.var 4)) (.nm 8) (.lit (.bl true)) (.var 8) [8]) (.cons (.lst .nil) .nil))) (.cons (.whl (.var 5) (.cons (.asg 7 (.ix (.call "lowest" (.cons (.var 5) .nil)) (.lit (.int 1)))) (.cons (.app 6 (.var 7)) (.cons (.asg 5 (.lc (.seq (.var 5)) (.nm 8) (.cmp .ne (.ix (.var 8) (.lit (.int 1))) (.var 7)) (.var 8) [8])) .nil)))) (.cons (.ret (.var 6)) .nil))))⟩⟩
def c__law_ordered : DI := ⟨"_law_ordered", ["values", "step", "rest", "found", "low", "one"], ⟨1, 6, (.cons (.par [(2, false), (3, false)] (.cons (.blt .sortedset (.var 0)) (.cons (.lst .nil) .nil))) (.cons (.for_ (.rng (.blt .len (.var 2))) (.nm 1) (.cons (.asg 4 (.ix (.var 2) (.lit (.int 0)))) (.cons (.for_ (.seq (.var 2)) (.nm 5) (.cons (.asg 4 (.ife (.call "_law_below" (.cons (.var 5) (.cons (.var 4) .nil))) (.var 5) (.var 4))) .nil)) (.cons (.asg 3 (.bin .add (.var 3) (.lst (.cons (.var 4) .nil)))) (.cons (.asg 2 (.lc (.seq (.var 2)) (.nm 5) (.cmp .ne (.var 5) (.var 4)) (.var 5) [5])) .nil))))) (.cons (.ret (.var 3)) .nil)))⟩⟩
def c__law_least_or : DI := ⟨"_law_least_or", ["collection", "entries", "ranking", "measure"], ⟨4, 4, (.cons (.try_ (.call "least" (.cons (.var 0) (.cons (.var 1) (.cons (.var 2) (.cons (.var 3) .nil))))) [("InvalidCollection", .str "InvalidCollection"), ("InvalidJudgements", .str "InvalidJudgements"), ("InvalidRanking", .str "InvalidRanking"), ("InvalidMeasure", .str "InvalidMeasure")]) .nil)⟩⟩
def c__law_greatest_or : DI := ⟨"_law_greatest_or", ["collection", "entries", "ranking", "measure"], ⟨4, 4, (.cons (.try_ (.call "greatest" (.cons (.var 0) (.cons (.var 1) (.cons (.var 2) (.cons (.var 3) .nil))))) [("InvalidCollection", .str "InvalidCollection"), ("InvalidJudgements", .str "InvalidJudgements"), ("InvalidRanking", .str "InvalidRanking"), ("InvalidMeasure", .str "InvalidMeasure")]) .nil)⟩⟩
def c__law_least_completion_or : DI := ⟨"_law_least_completion_or", ["collection", "entries", "ranking", "measure"], ⟨4, 4, (.cons (.try_ (.call "least_completion" (.cons (.var 0) (.cons (.var 1) (.cons (.var 2) (.cons (.var 3) .nil))))) [("InvalidCollection", .str "InvalidCollection"), ("InvalidJudgements", .str "InvalidJudgements"), ("InvalidRanking", .str "InvalidRanking"), ("InvalidMeasure", .str "InvalidMeasure")]) .nil)⟩⟩
def c__law_greatest_completion_or : DI := ⟨"_law_greatest_completion_or", ["collection", "entries", "ranking", "measure"], ⟨4, 4, (.cons (.try_ (.call "greatest_completion" (.cons (.var 0) (.cons (.var 1) (.cons (.var 2) (.cons (.var 3) .nil))))) [("InvalidCollection", .str "InvalidCollection"), ("InvalidJudgements", .str "InvalidJudgements"), ("InvalidRanking", .str "InvalidRanking"), ("InvalidMeasure", .str "InvalidMeasure")]) .nil)⟩⟩
def c__law_possible_values_or : DI := ⟨"_law_possible_values_or", ["collection", "entries", "ranking", "measure"], ⟨4, 4, (.cons (.try_ (.call "possible_values" (.cons (.var 0) (.cons (.var 1) (.cons (.var 2) (.cons (.var 3) .nil))))) [("InvalidCollection", .str "InvalidCollection"), ("InvalidJudgements", .str "InvalidJudgements"), ("InvalidRanking", .str "InvalidRanking"), ("InvalidMeasure", .str "InvalidMeasure")]) .nil)⟩⟩
def c_assumed : DI := ⟨"assumed", ["collection", "judgements", "entry"], ⟨2, 3, (.cons (.expr (.call "require_judgements" (.cons (.var 0) (.cons (.var 1) .nil)))) (.cons (.ret (.blt .tuple (.lc (.seq (.var 1)) (.nm 2) (.lit (.bl true)) (.ife (.isn (.var 2)) (.lit (.int 0)) (.var 2)) [2]))) .nil))⟩⟩
def c_require_two : DI := ⟨"require_two", ["collection", "judgements", "one", "other", "measure"], ⟨5, 5, (.cons (.expr (.call "require_judgements" (.cons (.var 0) (.cons (.var 1) .nil)))) (.cons (.expr (.call "require_ranking" (.cons (.var 0) (.cons (.var 2) .nil)))) (.cons (.expr (.call "require_ranking" (.cons (.var 0) (.cons (.var 3) .nil)))) (.cons (.expr (.call "require_measure" (.cons (.var 4) .nil))) .nil))))⟩⟩
def c_sign_of : DI := ⟨"sign_of", ["collection", "completion", "one", "other", "measure", "left", "right"], ⟨5, 7, (.cons (.par [(5, false), (6, false)] (.cons (.call "value_of" (.cons (.var 0) (.cons (.var 1) (.cons (.var 2) (.cons (.var 4) .nil))))) (.cons (.call "value_of" (.cons (.var 0) (.cons (.var 1) (.cons (.var 3) (.cons (.var 4) .nil))))) .nil))) (.cons (.ret (.bin .sub (.blt .int (.call "is_below" (.cons (.var 6) (.cons (.var 5) .nil)))) (.blt .int (.call "is_below" (.cons (.var 5) (.cons (.var 6) .nil)))))) .nil))⟩⟩
def c_verdict : DI := ⟨"verdict", ["signs"], ⟨1, 1, (.cons (.ite (.cmp .gt (.blt .lenset (.var 0)) (.lit (.int 1))) (.cons (.ret (.lit (.str "open"))) .nil) .nil) (.cons (.ret (.ix (.lst (.cons (.lit (.str "equal")) (.cons (.lit (.str "better")) (.cons (.lit (.str "worse")) .nil)))) (.ix (.var 0) (.lit (.int 0))))) .nil))⟩⟩
def c_compare : DI := ⟨"compare", ["collection", "judgements", "one", "other", "measure"], ⟨5, 5, (.cons (.expr (.call "require_two" (.cons (.var 0) (.cons (.var 1) (.cons (.var 2) (.cons (.var 3) (.cons (.var 4) .nil))))))) (.cons (.ret (.call "compare_all" (.cons (.var 0) (.cons (.var 1) (.cons (.var 2) (.cons (.var 3) (.cons (.var 4) .nil))))))) .nil))⟩⟩
def c_first_against : DI := ⟨"first_against", ["collection", "judgements", "one", "other", "measure", "row"], ⟨5, 6, (.cons (.for_ (.seq (.call "all_completions" (.cons (.var 1) .nil))) (.nm 5) (.cons (.ite (.cmp .lt (.call "sign_of" (.cons (.var 0) (.cons (.var 5) (.cons (.var 2) (.cons (.var 3) (.cons (.var 4) .nil)))))) (.lit (.int 0))) (.cons (.ret (.var 5)) .nil) .nil) .nil)) (.cons (.ret (.lit .non)) .nil))⟩⟩
def c_is_never_worse : DI := ⟨"is_never_worse", ["collection", "judgements", "one", "other", "measure"], ⟨5, 5, (.cons (.expr (.call "require_two" (.cons (.var 0) (.cons (.var 1) (.cons (.var 2) (.cons (.var 3) (.cons (.var 4) .nil))))))) (.cons (.ret (.isn (.call "first_against" (.cons (.var 0) (.cons (.var 1) (.cons (.var 2) (.cons (.var 3) (.cons (.var 4) .nil)))))))) .nil))⟩⟩
def c_completion_against : DI := ⟨"completion_against", ["collection", "judgements", "one", "other", "measure"], ⟨5, 5, (.cons (.expr (.call "require_two" (.cons (.var 0) (.cons (.var 1) (.cons (.var 2) (.cons (.var 3) (.cons (.var 4) .nil))))))) (.cons (.ret (.call "first_against" (.cons (.var 0) (.cons (.var 1) (.cons (.var 2) (.cons (.var 3) (.cons (.var 4) .nil))))))) .nil))⟩⟩
def c__law_compare_or : DI := ⟨"_law_compare_or", ["collection", "entries", "one", "other", "measure"], ⟨5, 5, (.cons (.try_ (.call "compare" (.cons (.var 0) (.cons (.var 1) (.cons (.var 2) (.cons (.var 3) (.cons (.var 4) .nil)))))) [("InvalidCollection", .str "InvalidCollection"), ("InvalidJudgements", .str "InvalidJudgements"), ("InvalidRanking", .str "InvalidRanking"), ("InvalidMeasure", .str "InvalidMeasure")]) .nil)⟩⟩
def c__law_is_never_worse_or : DI := ⟨"_law_is_never_worse_or", ["collection", "entries", "one", "other", "measure"], ⟨5, 5, (.cons (.try_ (.call "is_never_worse" (.cons (.var 0) (.cons (.var 1) (.cons (.var 2) (.cons (.var 3) (.cons (.var 4) .nil)))))) [("InvalidCollection", .str "InvalidCollection"), ("InvalidJudgements", .str "InvalidJudgements"), ("InvalidRanking", .str "InvalidRanking"), ("InvalidMeasure", .str "InvalidMeasure")]) .nil)⟩⟩
def c__law_completion_against_or : DI := ⟨"_law_completion_against_or", ["collection", "entries", "one", "other", "measure"], ⟨5, 5, (.cons (.try_ (.call "completion_against" (.cons (.var 0) (.cons (.var 1) (.cons (.var 2) (.cons (.var 3) (.cons (.var 4) .nil)))))) [("InvalidCollection", .str "InvalidCollection"), ("InvalidJudgements", .str "InvalidJudgements"), ("InvalidRanking", .str "InvalidRanking"), ("InvalidMeasure", .str "InvalidMeasure")]) .nil)⟩⟩
def c_require_rankings : DI := ⟨"require_rankings", ["collection", "rankings", "one"], ⟨2, 3, (.cons (.ite (.or (.not (.isi (.var 1) .list)) (.not (.chain .le .le (.lit (.int 1)) (.blt .len (.var 1)) (.lit (.int 5))))) (.cons (.raise "InvalidRankings") .nil) .nil) (.cons (.ite (.not (.blt .all (.lc (.seq (.var 1)) (.nm 2) (.lit (.bl true)) (.call "is_valid_ranking" (.cons (.var 0) (.cons (.var 2) .nil))) [2]))) (.cons (.raise "InvalidRankings") .nil) .nil) .nil))⟩⟩
def c_sure_order : DI := ⟨"sure_order", ["collection", "judgements", "rankings", "measure", "found", "spot", "one", "place", "other"], ⟨4, 9, (.cons (.expr (.call "require_judgements" (.cons (.var 0) (.cons (.var 1) .nil)))) (.cons (.expr (.call "require_rankings" (.cons (.var 0) (.cons (.var 2) .nil)))) (.cons (.expr (.call "require_measure" (.cons (.var 3) .nil))) (.cons (.asgC 4 (.lst .nil)) (.cons (.for_ (.enum (.var 2)) (.tup [(.nm 5), (.nm 6)]) (.cons (.for_ (.enum (.var 2)) (.tup [(.nm 7), (.nm 8)]) (.cons (.ite (.and (.cmp .ne (.var 5) (.var 7)) (.isn (.call "first_against" (.cons (.var 0) (.cons (.var 1) (.cons (.var 6) (.cons (.var 8) (.cons (.var 3) .nil)))))))) (.cons (.app 4 (.tup (.cons (.var 5) (.cons (.var 7) .nil)))) .nil) .nil) .nil)) .nil)) (.cons (.ret (.var 4)) .nil))))))⟩⟩
def c__law_sure_order_or : DI := ⟨"_law_sure_order_or", ["collection", "entries", "rows", "measure"], ⟨4, 4, (.cons (.try_ (.call "sure_order" (.cons (.var 0) (.cons (.var 1) (.cons (.var 2) (.cons (.var 3) .nil))))) [("InvalidCollection", .str "InvalidCollection"), ("InvalidJudgements", .str "InvalidJudgements"), ("InvalidRankings", .str "InvalidRankings"), ("InvalidMeasure", .str "InvalidMeasure")]) .nil)⟩⟩
def c_is_settled : DI := ⟨"is_settled", ["signs", "judgements", "row"], ⟨2, 3, (.cons (.ret (.cmp .eq (.blt .lenset (.lc (.seq (.call "all_completions" (.cons (.var 1) .nil))) (.nm 2) (.lit (.bl true)) (.ix (.var 0) (.var 2)) [2])) (.lit (.int 1)))) .nil)⟩⟩
def c_ways_to_judge : DI := ⟨"ways_to_judge", ["collection", "judgements", "documents", "rows", "document", "row", "entry"], ⟨3, 7, (.cons (.asg 3 (.lst (.cons (.var 1) .nil))) (.cons (.for_ (.seq (.var 2)) (.nm 4) (.cons (.asg 3 (.lc2 (.seq (.var 3)) (.nm 5) (.lit (.bl true)) (.seq (.tup (.cons (.lit (.int 0)) (.cons (.lit (.int 1)) .nil)))) (.nm 6) (.lit (.bl true)) (.call "changed" (.cons (.kvar 0) (.cons (.var 5) (.cons (.var 4) (.cons (.var 6) .nil))))) [5, 6] [6])) .nil)) (.cons (.ret (.var 3)) .nil)))⟩⟩
def c_settles : DI := ⟨"settles", ["collection", "signs", "judgements", "documents", "row"], ⟨4, 5, (.cons (.ret (.blt .all (.lc (.seq (.call "ways_to_judge" (.cons (.kvar 0) (.cons (.var 2) (.cons (.var 3) .nil))))) (.nm 4) (.lit (.bl true)) (.call "is_settled" (.cons (.var 1) (.cons (.var 4) .nil))) [4]))) .nil)⟩⟩
def c_does_settle : DI := ⟨"does_settle", ["collection", "judgements", "one", "other", "measure", "documents", "rest"], ⟨6, 7, (.cons (.expr (.call "require_two" (.cons (.var 0) (.cons (.var 1) (.cons (.var 2) (.cons (.var 3) (.cons (.var 4) .nil))))))) (.cons (.asg 6 (.call "open_documents" (.cons (.var 0) (.cons (.var 1) .nil)))) (.cons (.ite (.or (.not (.isi (.var 5) .tuple)) (.not (.blt .all (.lc (.seq (.var 5)) (.nm 2) (.lit (.bl true)) (.and (.isi (.var 2) .str) (.cmp .in_ (.var 2) (.var 6))) [2])))) (.cons (.raise "InvalidDocuments") .nil) .nil) (.cons (.ite (.not (.call "is_ascending" (.cons (.var 5) .nil))) (.cons (.raise "InvalidDocuments") .nil) .nil) (.cons (.ret (.call "settles" (.cons (.kvar 0) (.cons (.call "signs_of" (.cons (.var 0) (.cons (.var 1) (.cons (.var 2) (.cons (.var 3) (.cons (.var 4) .nil)))))) (.cons (.var 1) (.cons (.var 5) .nil)))))) .nil)))))⟩⟩
def c__law_answers : DI := ⟨"_law_answers", ["many", "rows", "step", "longer", "row"], ⟨1, 5, (.cons (.asg 1 (.lst (.cons (.tup .nil) .nil))) (.cons (.for_ (.rng (.var 0)) (.nm 2) (.cons (.asg 3 (.lst .nil)) (.cons (.for_ (.seq (.var 1)) (.nm 4) (.cons (.asg 3 (.bin .add (.var 3) (.lst (.cons (.bin .add (.var 4) (.tup (.cons (.lit (.int 0)) .nil))) (.cons (.bin .add (.var 4) (.tup (.cons (.lit (.int 1)) .nil))) .nil))))) .nil)) (.cons (.asg 1 (.var 3)) .nil)))) (.cons (.ret (.var 1)) .nil)))⟩⟩
def c__law_is_settled : DI := ⟨"_law_is_settled", ["signs", "entries", "row"], ⟨2, 3, (.cons (.ret (.cmp .eq (.blt .lenset (.lc (.seq (.call "_law_all" (.cons (.var 1) .nil))) (.nm 2) (.lit (.bl true)) (.ix (.var 0) (.var 2)) [2])) (.lit (.int 1)))) .nil)⟩⟩
def c__law_settles : DI := ⟨"_law_settles", ["collection", "signs", "entries", "some", "answers"], ⟨4, 5, (.cons (.for_ (.seq (.call "_law_answers" (.cons (.blt .len (.var 3)) .nil))) (.nm 4) (.cons (.ite (.not (.call "_law_is_settled" (.cons (.var 1) (.cons (.call "_law_fixed" (.cons (.var 0) (.cons (.var 2) (.cons (.var 3) (.cons (.var 4) .nil))))) .nil)))) (.cons (.ret (.lit (.bl false))) .nil) .nil) .nil)) (.cons (.ret (.lit (.bl true))) .nil))⟩⟩
def c__law_sets : DI := ⟨"_law_sets", ["documents", "found", "one", "size", "row"], ⟨1, 5, (.cons (.asg 1 (.lst (.cons (.tup .nil) .nil))) (.cons (.for_ (.seq (.var 0)) (.nm 2) (.cons (.asg 1 (.bin .add (.var 1) (.lc (.seq (.var 1)) (.nm 4) (.lit (.bl true)) (.bin .add (.var 4) (.tup (.cons (.var 2) .nil))) [4]))) .nil)) (.cons (.ret (.lc (.seq (.blt .sorted (.lc (.seq (.var 1)) (.nm 4) (.lit (.bl true)) (.tup (.cons (.blt .len (.var 4)) (.cons (.var 4) .nil))) [4]))) (.tup [(.nm 3), (.nm 4)]) (.lit (.bl true)) (.var 4) [3, 4])) .nil)))⟩⟩
def c__law_rest : DI := ⟨"_law_rest", ["collection", "entries", "one", "entry"], ⟨2, 4, (.cons (.ret (.blt .tuple (.lc (.zip (.var 0) (.var 1)) (.tup [(.nm 2), (.nm 3)]) (.isn (.var 3)) (.var 2) [2, 3]))) .nil)⟩⟩
def c__law_does_settle_or : DI := ⟨"_law_does_settle_or", ["collection", "entries", "one", "other", "measure", "some"], ⟨6, 6, (.cons (.try_ (.call "does_settle" (.cons (.kvar 0) (.cons (.var 1) (.cons (.var 2) (.cons (.var 3) (.cons (.var 4) (.cons (.var 5) .nil))))))) [("InvalidCollection", .str "InvalidCollection"), ("InvalidJudgements", .str "InvalidJudgements"), ("InvalidRanking", .str "InvalidRanking"), ("InvalidMeasure", .str "InvalidMeasure"), ("InvalidDocuments", .str "InvalidDocuments")]) .nil)⟩⟩
def c_choices : DI := ⟨"choices", ["documents", "size", "rows", "step", "row", "one"], ⟨2, 6, (.cons (.asg 2 (.lst (.cons (.tup .nil) .nil))) (.cons (.for_ (.rng (.var 1)) (.nm 3) (.cons (.asg 2 (.lc2 (.seq (.var 2)) (.nm 4) (.lit (.bl true)) (.seq (.var 0)) (.nm 5) (.or (.cmp .eq (.var 4) (.tup .nil)) (.cmp .gt (.var 5) (.ix (.var 4) (.neg (.lit (.int 1)))))) (.bin .add (.var 4) (.tup (.cons (.var 5) .nil))) [4, 5] [5])) .nil)) (.cons (.ret (.var 2)) .nil)))⟩⟩
def c_settling_sets : DI := ⟨"settling_sets", ["collection", "judgements", "one", "other", "measure", "found", "size", "signs", "rest", "documents", "own", "part"], ⟨5, 12, (.cons (.expr (.call "require_two" (.cons (.var 0) (.cons (.var 1) (.cons (.var 2) (.cons (.var 3) (.cons (.var 4) .nil))))))) (.cons (.par [(7, false), (8, false)] (.cons (.call "signs_of" (.cons (.var 0) (.cons (.var 1) (.cons (.var 2) (.cons (.var 3) (.cons (.var 4) .nil)))))) (.cons (.call "open_documents" (.cons (.var 0) (.cons (.var 1) .nil))) .nil))) (.cons (.asgC 5 (.lst .nil)) (.cons (.for_ (.rng (.bin .add (.blt .len (.var 8)) (.lit (.int 1)))) (.nm 6) (.cons (.for_ (.seq (.call "choices" (.cons (.var 8) (.cons (.var 6) .nil)))) (.nm 9) (.cons (.ite (.not (.blt .any (.lc (.seq (.var 5)) (.nm 10) (.lit (.bl true)) (.blt .all (.lc (.seq (.var 10)) (.nm 11) (.lit (.bl true)) (.cmp .in_ (.var 11) (.var 9)) [11])) [10]))) (.cons (.ite (.call "settles" (.cons (.kvar 0) (.cons (.var 7) (.cons (.var 1) (.cons (.var 9) .nil))))) (.cons (.app 5 (.var 9)) .nil) .nil) .nil) .nil) .nil)) .nil)) (.cons (.ret (.blt .sorted (.var 5))) .nil)))))⟩⟩
def c__law_settling_sets_or : DI := ⟨"_law_settling_sets_or", ["collection", "entries", "one", "other", "measure"], ⟨5, 5, (.cons (.try_ (.call "settling_sets" (.cons (.kvar 0) (.cons (.var 1) (.cons (.var 2) (.cons (.var 3) (.cons (.var 4) .nil)))))) [("InvalidCollection", .str "InvalidCollection"), ("InvalidJudgements", .str "InvalidJudgements"), ("InvalidRanking", .str "InvalidRanking"), ("InvalidMeasure", .str "InvalidMeasure")]) .nil)⟩⟩
def c__law_deciding : DI := ⟨"_law_deciding", ["collection", "entries", "signs", "found", "spot", "pairs", "row", "turned"], ⟨3, 8, (.cons (.asg 3 (.lst .nil)) (.cons (.for_ (.rng (.blt .len (.var 0))) (.nm 4) (.cons (.ite (.isn (.ix (.var 1) (.var 4))) (.cons (.asg 5 (.lc (.seq (.var 2)) (.nm 6) (.lit (.bl true)) (.tup (.cons (.var 6) (.cons (.bin .add (.bin .add (.sl (.var 6) .no (.so (.var 4))) (.tup (.cons (.bin .sub (.lit (.int 1)) (.ix (.var 6) (.var 4))) .nil))) (.sl (.var 6) (.so (.bin .add (.var 4) (.lit (.int 1)))) .no)) .nil))) [6])) (.cons (.asg 3 (.bin .add (.var 3) (.bin .mul (.lst (.cons (.ix (.var 0) (.var 4)) .nil)) (.blt .int (.cmp .ne (.lc (.seq (.var 5)) (.tup [(.nm 6), (.nm 7)]) (.cmp .ne (.ix (.var 2) (.var 6)) (.ix (.var 2) (.var 7))) (.lit (.int 1)) [6, 7]) (.lst .nil)))))) .nil)) .nil) .nil)) (.cons (.ret (.blt .tuple (.var 3))) .nil)))⟩⟩
def c_need_of : DI := ⟨"need_of", ["collection", "signs", "judgements", "known", "best", "document", "rows", "count", "row"], ⟨4, 9, (.cons (.ite (.cmp .nin (.var 2) (.var 3)) (.cons (.asg 4 (.tup (.cons (.lit (.int 0)) (.cons (.lit .non) .nil)))) (.cons (.ite (.not (.call "is_settled" (.cons (.var 1) (.cons (.var 2) .nil)))) (.cons (.for_ (.seq (.call "open_documents" (.cons (.var 0) (.cons (.var 2) .nil)))) (.nm 5) (.cons (.asg 6 (.call "ways_to_judge" (.cons (.kvar 0) (.cons (.var 2) (.cons (.tup (.cons (.var 5) .nil)) .nil))))) (.cons (.asg 7 (.bin .add (.lit (.int 1)) (.blt .max (.lc (.seq (.var 6)) (.nm 8) (.lit (.bl true)) (.ix (.call "need_of" (.cons (.kvar 0) (.cons (.var 1) (.cons (.var 8) (.cons (.var 3) .nil))))) (.lit (.int 0))) [8])))) (.cons (.ite (.or (.isn (.ix (.var 4) (.lit (.int 1)))) (.cmp .lt (.var 7) (.ix (.var 4) (.lit (.int 0))))) (.cons (.asg 4 (.tup (.cons (.var 7) (.cons (.var 5) .nil)))) .nil) .nil) .nil)))) .nil) .nil) (.cons (.put 3 (.var 2) (.var 4)) .nil))) .nil) (.cons (.ret (.ix (.var 3) (.var 2))) .nil))⟩⟩
def c__law_need : DI := ⟨"_law_need", ["collection", "signs", "entries", "known", "found", "rows", "one", "ways", "answer", "way"], ⟨4, 10, (.cons (.ite (.cmp .nin (.var 2) (.var 3)) (.cons (.asg 4 (.tup (.cons (.lit (.int 0)) (.cons (.lit .non) .nil)))) (.cons (.ite (.not (.call "_law_is_settled" (.cons (.var 1) (.cons (.var 2) .nil)))) (.cons (.asgC 5 (.lst .nil)) (.cons (.for_ (.seq (.call "_law_rest" (.cons (.var 0) (.cons (.var 2) .nil)))) (.nm 6) (.cons (.asg 7 (.lc (.seq (.tup (.cons (.lit (.int 0)) (.cons (.lit (.int 1)) .nil)))) (.nm 8) (.lit (.bl true)) (.call "_law_fixed" (.cons (.var 0) (.cons (.var 2) (.cons (.tup (.cons (.var 6) .nil)) (.cons (.tup (.cons (.var 8) .nil)) .nil))))) [8])) (.cons (.app 5 (.tup (.cons (.bin .add (.lit (.int 1)) (.blt .max (.lc (.seq (.var 7)) (.nm 9) (.lit (.bl true)) (.ix (.call "_law_need" (.cons (.var 0) (.cons (.var 1) (.cons (.var 9) (.cons (.var 3) .nil))))) (.lit (.int 0))) [9]))) (.cons (.var 6) .nil)))) .nil))) (.cons (.asg 4 (.blt .min (.var 5))) .nil))) .nil) (.cons (.put 3 (.var 2) (.var 4)) .nil))) .nil) (.cons (.ret (.ix (.var 3) (.var 2))) .nil))⟩⟩
def c__law_fewest_questions_or : DI := ⟨"_law_fewest_questions_or", ["collection", "entries", "one", "other", "measure"], ⟨5, 5, (.cons (.try_ (.call "fewest_questions" (.cons (.kvar 0) (.cons (.var 1) (.cons (.var 2) (.cons (.var 3) (.cons (.var 4) .nil)))))) [("InvalidCollection", .str "InvalidCollection"), ("InvalidJudgements", .str "InvalidJudgements"), ("InvalidRanking", .str "InvalidRanking"), ("InvalidMeasure", .str "InvalidMeasure")]) .nil)⟩⟩
def c__law_next_question_or : DI := ⟨"_law_next_question_or", ["collection", "entries", "one", "other", "measure"], ⟨5, 5, (.cons (.try_ (.call "next_question" (.cons (.kvar 0) (.cons (.var 1) (.cons (.var 2) (.cons (.var 3) (.cons (.var 4) .nil)))))) [("InvalidCollection", .str "InvalidCollection"), ("InvalidJudgements", .str "InvalidJudgements"), ("InvalidRanking", .str "InvalidRanking"), ("InvalidMeasure", .str "InvalidMeasure")]) .nil)⟩⟩
def c__law_asked : DI := ⟨"_law_asked", ["collection", "entries", "one", "other", "measure", "hidden", "own", "now", "count", "document"], ⟨6, 10, (.cons (.par [(6, false), (7, false), (8, false)] (.cons (.blt .dict (.b2 .lzip (.var 0) (.var 5))) (.cons (.var 1) (.cons (.lit (.int 0)) .nil)))) (.cons (.whl (.and (.notn (.call "next_question" (.cons (.kvar 0) (.cons (.var 7) (.cons (.var 2) (.cons (.var 3) (.cons (.var 4) .nil))))))) (.cmp .lt (.var 8) (.lit (.int 9)))) (.cons (.asg 9 (.call "next_question" (.cons (.kvar 0) (.cons (.var 7) (.cons (.var 2) (.cons (.var 3) (.cons (.var 4) .nil))))))) (.cons (.asg 7 (.call "with_judgement" (.cons (.kvar 0) (.cons (.var 7) (.cons (.var 9) (.cons (.ix (.var 6) (.var 9)) .nil)))))) (.cons (.asg 8 (.bin .add (.var 8) (.lit (.int 1)))) .nil)))) (.cons (.ite (.cmp .eq (.call "compare" (.cons (.var 0) (.cons (.var 7) (.cons (.var 2) (.cons (.var 3) (.cons (.var 4) .nil)))))) (.lit (.str "open"))) (.cons (.ret (.lit (.int 99))) .nil) .nil) (.cons (.ret (.var 8)) .nil))))⟩⟩
def c_best_value : DI := ⟨"best_value", ["collection", "completion", "measure"], ⟨3, 3, (.cons (.ret (.call "value_of" (.cons (.var 0) (.cons (.var 1) (.cons (.call "relevant_first" (.cons (.var 0) (.cons (.var 1) .nil))) (.cons (.var 2) .nil)))))) .nil)⟩⟩
def c_is_best : DI := ⟨"is_best", ["collection", "judgements", "ranking", "measure"], ⟨4, 4, (.cons (.expr (.call "require_judgements" (.cons (.var 0) (.cons (.var 1) .nil)))) (.cons (.expr (.call "require_ranking" (.cons (.var 0) (.cons (.var 2) .nil)))) (.cons (.expr (.call "require_measure" (.cons (.var 3) .nil))) (.cons (.expr (.call "require_complete" (.cons (.var 1) .nil))) (.cons (.ret (.cmp .eq (.call "value_of" (.cons (.var 0) (.cons (.var 1) (.cons (.var 2) (.cons (.var 3) .nil))))) (.call "best_value" (.cons (.var 0) (.cons (.var 1) (.cons (.var 3) .nil)))))) .nil)))))⟩⟩
def c_swapped : DI := ⟨"swapped", ["collection", "ranking", "rank"], ⟨3, 3, (.cons (.expr (.call "require_collection" (.cons (.var 0) .nil))) (.cons (.expr (.call "require_ranking" (.cons (.var 0) (.cons (.var 1) .nil)))) (.cons (.ite (.not (.call "is_integer" (.cons (.var 2) (.cons (.lit (.int 1)) (.cons (.bin .sub (.blt .len (.var 1)) (.lit (.int 1))) .nil))))) (.cons (.raise "InvalidRank") .nil) .nil) (.cons (.ret (.bin .add (.bin .add (.sl (.var 1) .no (.so (.bin .sub (.var 2) (.lit (.int 1))))) (.tup (.cons (.ix (.var 1) (.var 2)) (.cons (.ix (.var 1) (.bin .sub (.var 2) (.lit (.int 1)))) .nil)))) (.sl (.var 1) (.so (.bin .add (.var 2) (.lit (.int 1)))) .no))) .nil))))⟩⟩
def c__law_rankings : DI := ⟨"_law_rankings", ["collection", "step", "rows", "found", "longer", "row", "one"], ⟨1, 7, (.cons (.par [(2, false), (3, false)] (.cons (.lst (.cons (.tup .nil) .nil)) (.cons (.lst (.cons (.tup .nil) .nil)) .nil))) (.cons (.for_ (.seq (.var 0)) (.nm 1) (.cons (.asg 4 (.lst .nil)) (.cons (.for_ (.seq (.var 2)) (.nm 5) (.cons (.asg 4 (.bin .add (.var 4) (.lc (.seq (.var 0)) (.nm 6) (.cmp .nin (.var 6) (.var 5)) (.bin .add (.var 5) (.tup (.cons (.var 6) .nil))) [6]))) .nil)) (.cons (.par [(2, false), (3, false)] (.cons (.var 4) (.cons (.bin .add (.var 3) (.var 4)) .nil))) .nil)))) (.cons (.ret (.var 3)) .nil)))⟩⟩
def c__law_swapped_or : DI := ⟨"_law_swapped_or", ["collection", "ranking", "rank"], ⟨3, 3, (.cons (.try_ (.call "swapped" (.cons (.var 0) (.cons (.var 1) (.cons (.var 2) .nil)))) [("InvalidCollection", .str "InvalidCollection"), ("InvalidRanking", .str "InvalidRanking"), ("InvalidRank", .str "InvalidRank")]) .nil)⟩⟩
def c__law_is_best_or : DI := ⟨"_law_is_best_or", ["collection", "entries", "ranking", "measure"], ⟨4, 4, (.cons (.try_ (.call "is_best" (.cons (.var 0) (.cons (.var 1) (.cons (.var 2) (.cons (.var 3) .nil))))) [("InvalidCollection", .str "InvalidCollection"), ("InvalidJudgements", .str "InvalidJudgements"), ("InvalidRanking", .str "InvalidRanking"), ("InvalidMeasure", .str "InvalidMeasure"), ("Incomplete", .str "Incomplete")]) .nil)⟩⟩
def c__law_best_ranking_or : DI := ⟨"_law_best_ranking_or", ["collection", "entries"], ⟨2, 2, (.cons (.try_ (.call "best_ranking" (.cons (.var 0) (.cons (.var 1) .nil))) [("InvalidCollection", .str "InvalidCollection"), ("InvalidJudgements", .str "InvalidJudgements"), ("Incomplete", .str "Incomplete")]) .nil)⟩⟩
def c_less : DI := ⟨"less", ["one", "other"], ⟨2, 2, (.cons (.ret (.call "added" (.cons (.var 0) (.cons (.tup (.cons (.neg (.ix (.var 1) (.lit (.int 0)))) (.cons (.ix (.var 1) (.lit (.int 1))) .nil))) .nil)))) .nil)⟩⟩
def c_regret_of : DI := ⟨"regret_of", ["collection", "judgements", "ranking", "measure", "found", "row", "lost"], ⟨4, 7, (.cons (.asg 4 (.tup (.cons (.lit (.int 0)) (.cons (.lit (.int 1)) .nil)))) (.cons (.for_ (.seq (.call "all_completions" (.cons (.var 1) .nil))) (.nm 5) (.cons (.asg 6 (.call "less" (.cons (.call "best_value" (.cons (.var 0) (.cons (.var 5) (.cons (.var 3) .nil)))) (.cons (.call "value_of" (.cons (.var 0) (.cons (.var 5) (.cons (.var 2) (.cons (.var 3) .nil))))) .nil)))) (.cons (.ite (.call "is_below" (.cons (.var 4) (.cons (.var 6) .nil))) (.cons (.asg 4 (.var 6)) .nil) .nil) .nil))) (.cons (.ret (.var 4)) .nil)))⟩⟩
def c_regret : DI := ⟨"regret", ["collection", "judgements", "ranking", "measure"], ⟨4, 4, (.cons (.expr (.call "require_judgements" (.cons (.var 0) (.cons (.var 1) .nil)))) (.cons (.expr (.call "require_ranking" (.cons (.var 0) (.cons (.var 2) .nil)))) (.cons (.expr (.call "require_measure" (.cons (.var 3) .nil))) (.cons (.ret (.call "regret_of" (.cons (.var 0) (.cons (.var 1) (.cons (.var 2) (.cons (.var 3) .nil)))))) .nil))))⟩⟩
def c_all_rankings : DI := ⟨"all_rankings", ["collection", "rows", "step", "row", "document"], ⟨1, 5, (.cons (.asg 1 (.lst (.cons (.tup .nil) .nil))) (.cons (.for_ (.seq (.var 0)) (.nm 2) (.cons (.asg 1 (.lc2 (.seq (.var 1)) (.nm 3) (.lit (.bl true)) (.seq (.var 0)) (.nm 4) (.cmp .nin (.var 4) (.var 3)) (.bin .add (.var 3) (.tup (.cons (.var 4) .nil))) [3, 4] [4])) .nil)) (.cons (.ret (.var 1)) .nil)))⟩⟩
def c_least_regret : DI := ⟨"least_regret", ["collection", "judgements", "measure", "ranking", "best", "found", "own"], ⟨3, 7, (.cons (.expr (.call "require_judgements" (.cons (.var 0) (.cons (.var 1) .nil)))) (.cons (.expr (.call "require_measure" (.cons (.var 2) .nil))) (.cons (.ite (.cmp .gt (.blt .len (.var 0)) (.lit (.int 5))) (.cons (.raise "TooLarge") .nil) .nil) (.cons (.par [(4, false), (5, false)] (.cons (.tup (.cons (.lit (.int 2)) (.cons (.lit (.int 1)) .nil))) (.cons (.lit .non) .nil))) (.cons (.for_ (.seq (.call "all_rankings" (.cons (.var 0) .nil))) (.nm 3) (.cons (.asg 6 (.call "regret_of" (.cons (.var 0) (.cons (.var 1) (.cons (.var 3) (.cons (.var 2) .nil)))))) (.cons (.ite (.call "is_below" (.cons (.var 6) (.cons (.var 4) .nil))) (.cons (.par [(4, false), (5, false)] (.cons (.var 6) (.cons (.var 3) .nil))) .nil) .nil) .nil))) (.cons (.ret (.var 5)) .nil))))))⟩⟩
def c__law_orders : DI := ⟨"_law_orders", ["collection", "rows", "step", "longer", "row", "one"], ⟨1, 6, (.cons (.asg 1 (.lst (.cons (.tup .nil) .nil))) (.cons (.for_ (.seq (.var 0)) (.nm 2) (.cons (.asg 3 (.lst .nil)) (.cons (.for_ (.seq (.var 1)) (.nm 4) (.cons (.asg 3 (.bin .add (.var 3) (.lc (.seq (.var 0)) (.nm 5) (.cmp .nin (.var 5) (.var 4)) (.bin .add (.var 4) (.tup (.cons (.var 5) .nil))) [5]))) .nil)) (.cons (.asg 1 (.var 3)) .nil)))) (.cons (.ret (.var 1)) .nil)))⟩⟩
def c__law_lost : DI := ⟨"_law_lost", ["collection", "rows", "ranking", "measure", "most", "worst", "completion", "lost", "own", "high"], ⟨5, 10, (.cons (.asg 5 (.tup (.cons (.lit (.int 0)) (.cons (.lit (.int 1)) .nil)))) (.cons (.for_ (.seq (.var 1)) (.nm 6) (.cons (.par [(8, false), (9, false)] (.cons (.call "_law_value" (.cons (.var 0) (.cons (.var 6) (.cons (.var 2) (.cons (.var 3) .nil))))) (.cons (.ix (.var 4) (.var 6)) .nil))) (.cons (.asg 7 (.call "_law_fraction" (.cons (.bin .sub (.bin .mul (.ix (.var 9) (.lit (.int 0))) (.ix (.var 8) (.lit (.int 1)))) (.bin .mul (.ix (.var 8) (.lit (.int 0))) (.ix (.var 9) (.lit (.int 1))))) (.cons (.bin .mul (.ix (.var 9) (.lit (.int 1))) (.ix (.var 8) (.lit (.int 1)))) .nil)))) (.cons (.asg 5 (.ife (.call "_law_below" (.cons (.var 5) (.cons (.var 7) .nil))) (.var 7) (.var 5))) .nil)))) (.cons (.ret (.var 5)) .nil)))⟩⟩
def c__law_regret_or : DI := ⟨"_law_regret_or", ["collection", "entries", "ranking", "measure"], ⟨4, 4, (.cons (.try_ (.call "regret" (.cons (.var 0) (.cons (.var 1) (.cons (.var 2) (.cons (.var 3) .nil))))) [("InvalidCollection", .str "InvalidCollection"), ("InvalidJudgements", .str "InvalidJudgements"), ("InvalidRanking", .str "InvalidRanking"), ("InvalidMeasure", .str "InvalidMeasure")]) .nil)⟩⟩
def c__law_least_regret_or : DI := ⟨"_law_least_regret_or", ["collection", "entries", "measure"], ⟨3, 3, (.cons (.try_ (.call "least_regret" (.cons (.var 0) (.cons (.var 1) (.cons (.var 2) .nil)))) [("InvalidCollection", .str "InvalidCollection"), ("InvalidJudgements", .str "InvalidJudgements"), ("InvalidMeasure", .str "InvalidMeasure"), ("TooLarge", .str "TooLarge")]) .nil)⟩⟩
def c__law_swaps : DI := ⟨"_law_swaps", ["collection", "completion", "ranking", "measure", "own", "rank", "row"], ⟨4, 7, (.cons (.asg 4 (.blt .dict (.b2 .lzip (.var 0) (.var 1)))) (.cons (.for_ (.rng2 (.lit (.int 1)) (.blt .len (.var 2))) (.nm 5) (.cons (.ite (.cmp .ge (.ix (.var 4) (.ix (.var 2) (.var 5))) (.ix (.var 4) (.ix (.var 2) (.bin .sub (.var 5) (.lit (.int 1)))))) (.cons (.asg 6 (.call "swapped" (.cons (.var 0) (.cons (.var 2) (.cons (.var 5) .nil))))) (.cons (.ite (.call "_law_below" (.cons (.call "value" (.cons (.var 0) (.cons (.var 1) (.cons (.var 6) (.cons (.var 3) .nil))))) (.cons (.call "value" (.cons (.var 0) (.cons (.var 1) (.cons (.var 2) (.cons (.var 3) .nil))))) .nil))) (.cons (.ret (.lit (.bl false))) .nil) .nil) (.cons (.ite (.cmp .ne (.call "swapped" (.cons (.var 0) (.cons (.var 6) (.cons (.var 5) .nil)))) (.var 2)) (.cons (.ret (.lit (.bl false))) .nil) .nil) .nil))) .nil) .nil)) (.cons (.ret (.lit (.bl true))) .nil)))⟩⟩
def c_is_chance : DI := ⟨"is_chance", ["candidate"], ⟨1, 1, (.cons (.ite (.or (.not (.isi (.var 0) .tuple)) (.or (.cmp .ne (.blt .len (.var 0)) (.lit (.int 2))) (.not (.call "is_integer" (.cons (.ix (.var 0) (.lit (.int 1))) (.cons (.lit (.int 1)) (.cons (.lit (.int 20)) .nil))))))) (.cons (.ret (.lit (.bl false))) .nil) .nil) (.cons (.ret (.and (.call "is_integer" (.cons (.ix (.var 0) (.lit (.int 0))) (.cons (.lit (.int 0)) (.cons (.ix (.var 0) (.lit (.int 1))) .nil)))) (.cmp .eq (.call "lowest_terms" (.cons (.ix (.var 0) (.lit (.int 0))) (.cons (.ix (.var 0) (.lit (.int 1))) .nil))) (.var 0)))) .nil))⟩⟩
def c_are_valid_chances : DI := ⟨"are_valid_chances", ["collection", "candidate", "one"], ⟨2, 3, (.cons (.ite (.or (.not (.isi (.var 1) .tuple)) (.cmp .ne (.blt .len (.var 1)) (.blt .len (.var 0)))) (.cons (.ret (.lit (.bl false))) .nil) .nil) (.cons (.ret (.blt .all (.lc (.seq (.var 1)) (.nm 2) (.lit (.bl true)) (.call "is_chance" (.cons (.var 2) .nil)) [2]))) .nil))⟩⟩
def c_are_chances : DI := ⟨"are_chances", ["collection", "candidate"], ⟨2, 2, (.cons (.expr (.call "require_collection" (.cons (.var 0) .nil))) (.cons (.ret (.call "are_valid_chances" (.cons (.var 0) (.cons (.var 1) .nil)))) .nil))⟩⟩
def c__law_odds : DI := ⟨"_law_odds", ["script", "state", "collection", "found", "one", "bottom", "top", "left", "other"], ⟨3, 9, (.cons (.asgC 3 (.lst .nil)) (.cons (.for_ (.seq (.var 2)) (.nm 4) (.cons (.asg 5 (.call "_law_pick" (.cons (.var 0) (.cons (.var 1) (.cons (.lst (.cons (.lit (.int 1)) (.cons (.lit (.int 2)) (.cons (.lit (.int 3)) (.cons (.lit (.int 4)) (.cons (.lit (.int 10)) (.cons (.lit (.int 20)) .nil))))))) .nil))))) (.cons (.par [(6, false), (7, false)] (.cons (.call "_law_draw" (.cons (.var 0) (.cons (.var 1) (.cons (.bin .add (.var 5) (.lit (.int 1))) .nil)))) (.cons (.var 5) .nil))) (.cons (.par [(4, false), (8, false)] (.cons (.var 6) (.cons (.var 5) .nil))) (.cons (.whl (.var 8) (.cons (.par [(4, false), (8, false)] (.cons (.var 8) (.cons (.bin .mod (.var 4) (.var 8)) .nil))) .nil)) (.cons (.app 3 (.tup (.cons (.bin .fdiv (.var 6) (.var 4)) (.cons (.bin .fdiv (.var 7) (.var 4)) .nil)))) .nil)))))) (.cons (.ret (.blt .tuple (.var 3))) .nil)))⟩⟩
def c__law_are_chances_or : DI := ⟨"_law_are_chances_or", ["collection", "thing"], ⟨2, 2, (.cons (.try_ (.call "are_chances" (.cons (.var 0) (.cons (.var 1) .nil))) [("InvalidCollection", .str "InvalidCollection")]) .nil)⟩⟩
def c_times : DI := ⟨"times", ["one", "other"], ⟨2, 2, (.cons (.ret (.call "lowest_terms" (.cons (.bin .mul (.ix (.var 0) (.lit (.int 0))) (.ix (.var 1) (.lit (.int 0)))) (.cons (.bin .mul (.ix (.var 0) (.lit (.int 1))) (.ix (.var 1) (.lit (.int 1)))) .nil)))) .nil)⟩⟩
def c_require_chances : DI := ⟨"require_chances", ["collection", "judgements", "chances"], ⟨3, 3, (.cons (.expr (.call "require_judgements" (.cons (.var 0) (.cons (.var 1) .nil)))) (.cons (.ite (.not (.call "are_valid_chances" (.cons (.var 0) (.cons (.var 2) .nil)))) (.cons (.raise "InvalidChances") .nil) .nil) .nil))⟩⟩
def c_expected : DI := ⟨"expected", ["collection", "judgements", "chances", "ranking", "measure", "total", "row", "weight"], ⟨5, 8, (.cons (.expr (.call "require_chances" (.cons (.var 0) (.cons (.var 1) (.cons (.var 2) .nil))))) (.cons (.expr (.call "require_ranking" (.cons (.var 0) (.cons (.var 3) .nil)))) (.cons (.expr (.call "require_measure" (.cons (.var 4) .nil))) (.cons (.asg 5 (.tup (.cons (.lit (.int 0)) (.cons (.lit (.int 1)) .nil)))) (.cons (.for_ (.seq (.call "weighted" (.cons (.var 1) (.cons (.var 2) .nil)))) (.tup [(.nm 6), (.nm 7)]) (.cons (.asg 5 (.call "added" (.cons (.var 5) (.cons (.call "times" (.cons (.var 7) (.cons (.call "value_of" (.cons (.var 0) (.cons (.var 6) (.cons (.var 3) (.cons (.var 4) .nil))))) .nil))) .nil)))) .nil)) (.cons (.ret (.var 5)) .nil))))))⟩⟩
def c_chance_of_sign : DI := ⟨"chance_of_sign", ["collection", "judgements", "chances", "one", "other", "measure", "sign", "total", "row", "weight"], ⟨7, 10, (.cons (.expr (.call "require_chances" (.cons (.var 0) (.cons (.var 1) (.cons (.var 2) .nil))))) (.cons (.expr (.call "require_ranking" (.cons (.var 0) (.cons (.var 3) .nil)))) (.cons (.expr (.call "require_ranking" (.cons (.var 0) (.cons (.var 4) .nil)))) (.cons (.expr (.call "require_measure" (.cons (.var 5) .nil))) (.cons (.asg 7 (.tup (.cons (.lit (.int 0)) (.cons (.lit (.int 1)) .nil)))) (.cons (.for_ (.seq (.call "weighted" (.cons (.var 1) (.cons (.var 2) .nil)))) (.tup [(.nm 8), (.nm 9)]) (.cons (.ite (.cmp .eq (.call "sign_of" (.cons (.var 0) (.cons (.var 8) (.cons (.var 3) (.cons (.var 4) (.cons (.var 5) .nil)))))) (.var 6)) (.cons (.asg 7 (.call "added" (.cons (.var 7) (.cons (.var 9) .nil)))) .nil) .nil) .nil)) (.cons (.ret (.var 7)) .nil)))))))⟩⟩
def c_chance_better : DI := ⟨"chance_better", ["collection", "judgements", "chances", "one", "other", "measure"], ⟨6, 6, (.cons (.ret (.call "chance_of_sign" (.cons (.var 0) (.cons (.var 1) (.cons (.var 2) (.cons (.var 3) (.cons (.var 4) (.cons (.var 5) (.cons (.lit (.int 1)) .nil))))))))) .nil)⟩⟩
def c_chance_equal : DI := ⟨"chance_equal", ["collection", "judgements", "chances", "one", "other", "measure"], ⟨6, 6, (.cons (.ret (.call "chance_of_sign" (.cons (.var 0) (.cons (.var 1) (.cons (.var 2) (.cons (.var 3) (.cons (.var 4) (.cons (.var 5) (.cons (.lit (.int 0)) .nil))))))))) .nil)⟩⟩
def c__law_expected_or : DI := ⟨"_law_expected_or", ["collection", "entries", "odds", "ranking", "measure"], ⟨5, 5, (.cons (.try_ (.call "expected" (.cons (.var 0) (.cons (.var 1) (.cons (.var 2) (.cons (.var 3) (.cons (.var 4) .nil)))))) [("InvalidCollection", .str "InvalidCollection"), ("InvalidJudgements", .str "InvalidJudgements"), ("InvalidChances", .str "InvalidChances"), ("InvalidRanking", .str "InvalidRanking"), ("InvalidMeasure", .str "InvalidMeasure")]) .nil)⟩⟩
def c__law_chance_better_or : DI := ⟨"_law_chance_better_or", ["collection", "entries", "odds", "one", "other", "measure"], ⟨6, 6, (.cons (.try_ (.call "chance_better" (.cons (.var 0) (.cons (.var 1) (.cons (.var 2) (.cons (.var 3) (.cons (.var 4) (.cons (.var 5) .nil))))))) [("InvalidCollection", .str "InvalidCollection"), ("InvalidJudgements", .str "InvalidJudgements"), ("InvalidChances", .str "InvalidChances"), ("InvalidRanking", .str "InvalidRanking"), ("InvalidMeasure", .str "InvalidMeasure")]) .nil)⟩⟩
def c__law_chance_equal_or : DI := ⟨"_law_chance_equal_or", ["collection", "entries", "odds", "one", "other", "measure"], ⟨6, 6, (.cons (.try_ (.call "chance_equal" (.cons (.var 0) (.cons (.var 1) (.cons (.var 2) (.cons (.var 3) (.cons (.var 4) (.cons (.var 5) .nil))))))) [("InvalidCollection", .str "InvalidCollection"), ("InvalidJudgements", .str "InvalidJudgements"), ("InvalidChances", .str "InvalidChances"), ("InvalidRanking", .str "InvalidRanking"), ("InvalidMeasure", .str "InvalidMeasure")]) .nil)⟩⟩
def c__law_same_value : DI := ⟨"_law_same_value", ["one", "other"], ⟨2, 2, (.cons (.ret (.cmp .eq (.bin .mul (.ix (.var 0) (.lit (.int 0))) (.ix (.var 1) (.lit (.int 1)))) (.bin .mul (.ix (.var 1) (.lit (.int 0))) (.ix (.var 0) (.lit (.int 1)))))) .nil)⟩⟩
def c__law_are_all : DI := ⟨"_law_are_all", ["rows", "top", "bottom", "one", "other"], ⟨1, 5, (.cons (.par [(1, false), (2, false)] (.cons (.lit (.int 0)) (.cons (.lit (.int 1)) .nil))) (.cons (.for_ (.seq (.var 0)) (.tup [(.nm 3), (.nm 4)]) (.cons (.par [(1, false), (2, false)] (.cons (.bin .add (.bin .mul (.var 1) (.var 4)) (.bin .mul (.var 3) (.var 2))) (.cons (.bin .mul (.var 2) (.var 4)) .nil))) .nil)) (.cons (.ret (.cmp .eq (.var 1) (.var 2))) .nil)))⟩⟩
def c__law_parted : DI := ⟨"_law_parted", ["collection", "entries", "odds", "case", "document", "yes", "no", "ranking", "measure", "top", "bottom"], ⟨5, 11, (.cons (.asgT (.tup [(.nm 7), (.nm 8)]) (.var 3)) (.cons (.asgT (.tup [(.nm 9), (.nm 10)]) (.ix (.var 2) (.mth .tindex (.kvar 0) (.var 4)))) (.cons (.asg 5 (.call "expected" (.cons (.var 0) (.cons (.call "with_judgement" (.cons (.kvar 0) (.cons (.var 1) (.cons (.var 4) (.cons (.lit (.int 1)) .nil))))) (.cons (.var 2) (.cons (.var 7) (.cons (.var 8) .nil))))))) (.cons (.asg 6 (.call "expected" (.cons (.var 0) (.cons (.call "with_judgement" (.cons (.kvar 0) (.cons (.var 1) (.cons (.var 4) (.cons (.lit (.int 0)) .nil))))) (.cons (.var 2) (.cons (.var 7) (.cons (.var 8) .nil))))))) (.cons (.ret (.tup (.cons (.bin .add (.bin .mul (.bin .mul (.var 9) (.ix (.var 5) (.lit (.int 0)))) (.ix (.var 6) (.lit (.int 1)))) (.bin .mul (.bin .mul (.bin .sub (.var 10) (.var 9)) (.ix (.var 6) (.lit (.int 0)))) (.ix (.var 5) (.lit (.int 1))))) (.cons (.bin .mul (.bin .mul (.var 10) (.ix (.var 5) (.lit (.int 1)))) (.ix (.var 6) (.lit (.int 1)))) .nil)))) .nil)))))⟩⟩
def c_require_depth : DI := ⟨"require_depth", ["depth"], ⟨1, 1, (.cons (.ite (.not (.call "is_integer" (.cons (.var 0) (.cons (.lit (.int 1)) (.cons (.lit (.int 7)) .nil))))) (.cons (.raise "InvalidDepth") .nil) .nil) .nil)⟩⟩
def c_count_in : DI := ⟨"count_in", ["rankings", "depth", "document", "ranking"], ⟨3, 4, (.cons (.ret (.blt .len (.lc (.seq (.var 0)) (.nm 3) (.cmp .in_ (.var 2) (.sl (.var 3) .no (.so (.var 1)))) (.lit (.int 1)) [3]))) .nil)⟩⟩
def c_pool_of : DI := ⟨"pool_of", ["collection", "rankings", "depth", "document"], ⟨3, 4, (.cons (.ret (.blt .tuple (.lc (.seq (.var 0)) (.nm 3) (.cmp .gt (.call "count_in" (.cons (.var 1) (.cons (.var 2) (.cons (.var 3) .nil)))) (.lit (.int 0))) (.var 3) [3]))) .nil)⟩⟩
def c_pool : DI := ⟨"pool", ["collection", "rankings", "depth"], ⟨3, 3, (.cons (.expr (.call "require_collection" (.cons (.var 0) .nil))) (.cons (.expr (.call "require_rankings" (.cons (.var 0) (.cons (.var 1) .nil)))) (.cons (.expr (.call "require_depth" (.cons (.var 2) .nil))) (.cons (.ret (.call "pool_of" (.cons (.var 0) (.cons (.var 1) (.cons (.var 2) .nil))))) .nil))))⟩⟩
def c_open_in_pool : DI := ⟨"open_in_pool", ["collection", "judgements", "rankings", "depth", "rest", "document"], ⟨4, 6, (.cons (.expr (.call "require_judgements" (.cons (.var 0) (.cons (.var 1) .nil)))) (.cons (.expr (.call "require_rankings" (.cons (.var 0) (.cons (.var 2) .nil)))) (.cons (.expr (.call "require_depth" (.cons (.var 3) .nil))) (.cons (.asg 4 (.call "open_documents" (.cons (.var 0) (.cons (.var 1) .nil)))) (.cons (.ret (.lc (.seq (.call "pool_of" (.cons (.var 0) (.cons (.var 2) (.cons (.var 3) .nil))))) (.nm 5) (.cmp .in_ (.var 5) (.var 4)) (.var 5) [5])) .nil)))))⟩⟩
def c_is_judged : DI := ⟨"is_judged", ["collection", "judgements", "rankings", "depth"], ⟨4, 4, (.cons (.ret (.cmp .eq (.call "open_in_pool" (.cons (.var 0) (.cons (.var 1) (.cons (.var 2) (.cons (.var 3) .nil))))) (.lst .nil))) .nil)⟩⟩
def c_left_to_judge : DI := ⟨"left_to_judge", ["collection", "judgements", "rankings", "depth", "rest", "rows", "document", "count"], ⟨4, 8, (.cons (.asg 4 (.call "open_in_pool" (.cons (.var 0) (.cons (.var 1) (.cons (.var 2) (.cons (.var 3) .nil)))))) (.cons (.asg 5 (.blt .sorted (.lc (.seq (.var 4)) (.nm 6) (.lit (.bl true)) (.tup (.cons (.neg (.call "count_in" (.cons (.var 2) (.cons (.var 3) (.cons (.var 6) .nil))))) (.cons (.var 6) .nil))) [6]))) (.cons (.ret (.lc (.seq (.var 5)) (.tup [(.nm 7), (.nm 6)]) (.lit (.bl true)) (.var 6) [7, 6])) .nil)))⟩⟩
def c__law_pool_or : DI := ⟨"_law_pool_or", ["collection", "rows", "depth"], ⟨3, 3, (.cons (.try_ (.call "pool" (.cons (.var 0) (.cons (.var 1) (.cons (.var 2) .nil)))) [("InvalidCollection", .str "InvalidCollection"), ("InvalidRankings", .str "InvalidRankings"), ("InvalidDepth", .str "InvalidDepth")]) .nil)⟩⟩
def c__law_is_judged_or : DI := ⟨"_law_is_judged_or", ["collection", "entries", "rows", "depth"], ⟨4, 4, (.cons (.try_ (.call "is_judged" (.cons (.var 0) (.cons (.var 1) (.cons (.var 2) (.cons (.var 3) .nil))))) [("InvalidCollection", .str "InvalidCollection"), ("InvalidJudgements", .str "InvalidJudgements"), ("InvalidRankings", .str "InvalidRankings"), ("InvalidDepth", .str "InvalidDepth")]) .nil)⟩⟩
def c__law_left_to_judge_or : DI := ⟨"_law_left_to_judge_or", ["collection", "entries", "rows", "depth"], ⟨4, 4, (.cons (.try_ (.call "left_to_judge" (.cons (.var 0) (.cons (.var 1) (.cons (.var 2) (.cons (.var 3) .nil))))) [("InvalidCollection", .str "InvalidCollection"), ("InvalidJudgements", .str "InvalidJudgements"), ("InvalidRankings", .str "InvalidRankings"), ("InvalidDepth", .str "InvalidDepth")]) .nil)⟩⟩
def c__law_assumed_or : DI := ⟨"_law_assumed_or", ["collection", "entries"], ⟨2, 2, (.cons (.try_ (.call "assumed" (.cons (.var 0) (.cons (.var 1) .nil))) [("InvalidCollection", .str "InvalidCollection"), ("InvalidJudgements", .str "InvalidJudgements")]) .nil)⟩⟩
def c_require_pair : DI := ⟨"require_pair", ["collection", "one", "other"], ⟨3, 3, (.cons (.expr (.call "require_collection" (.cons (.var 0) .nil))) (.cons (.ite (.or (.not (.call "are_valid_judgements" (.cons (.var 0) (.cons (.var 1) .nil)))) (.not (.call "are_valid_judgements" (.cons (.var 0) (.cons (.var 2) .nil))))) (.cons (.raise "InvalidJudgements") .nil) .nil) .nil))⟩⟩
def c_differences : DI := ⟨"differences", ["collection", "one", "other", "document", "left", "right"], ⟨3, 6, (.cons (.expr (.call "require_pair" (.cons (.var 0) (.cons (.var 1) (.cons (.var 2) .nil))))) (.cons (.ret (.lc (.seq (.call "both_judged" (.cons (.var 0) (.cons (.var 1) (.cons (.var 2) .nil))))) (.tup [(.nm 3), (.nm 4), (.nm 5)]) (.cmp .ne (.var 4) (.var 5)) (.var 3) [3, 4, 5])) .nil))⟩⟩
def c_joined : DI := ⟨"joined", ["collection", "one", "other", "left", "right"], ⟨3, 5, (.cons (.ite (.call "differences" (.cons (.var 0) (.cons (.var 1) (.cons (.var 2) .nil)))) (.cons (.raise "Conflict") .nil) .nil) (.cons (.ret (.blt .tuple (.lc (.zip (.var 1) (.var 2)) (.tup [(.nm 3), (.nm 4)]) (.lit (.bl true)) (.ife (.isn (.var 3)) (.var 4) (.var 3)) [3, 4]))) .nil))⟩⟩
def c_agreement : DI := ⟨"agreement", ["collection", "one", "other", "rows", "document", "left", "right"], ⟨3, 7, (.cons (.expr (.call "require_pair" (.cons (.var 0) (.cons (.var 1) (.cons (.var 2) .nil))))) (.cons (.asg 3 (.call "both_judged" (.cons (.var 0) (.cons (.var 1) (.cons (.var 2) .nil))))) (.cons (.ite (.not (.var 3)) (.cons (.ret (.lit .non)) .nil) .nil) (.cons (.ret (.call "lowest_terms" (.cons (.blt .len (.lc (.seq (.var 3)) (.tup [(.nm 4), (.nm 5), (.nm 6)]) (.cmp .eq (.var 5) (.var 6)) (.lit (.int 1)) [4, 5, 6])) (.cons (.blt .len (.var 3)) .nil)))) .nil))))⟩⟩
def c_majority : DI := ⟨"majority", ["collection", "judges", "found", "spot", "entries", "ones", "zeros", "one"], ⟨2, 8, (.cons (.expr (.call "require_collection" (.cons (.var 0) .nil))) (.cons (.ite (.or (.not (.isi (.var 1) .list)) (.not (.chain .le .le (.lit (.int 1)) (.blt .len (.var 1)) (.lit (.int 7))))) (.cons (.raise "InvalidJudges") .nil) .nil) (.cons (.ite (.not (.blt .all (.lc (.seq (.var 1)) (.nm 7) (.lit (.bl true)) (.call "are_valid_judgements" (.cons (.var 0) (.cons (.var 7) .nil))) [7]))) (.cons (.raise "InvalidJudges") .nil) .nil) (.cons (.asgC 2 (.lst .nil)) (.cons (.for_ (.rng (.blt .len (.var 0))) (.nm 3) (.cons (.asg 4 (.lc (.seq (.var 1)) (.nm 7) (.lit (.bl true)) (.ix (.var 7) (.var 3)) [7])) (.cons (.par [(5, false), (6, false)] (.cons (.mth .count (.var 4) (.lit (.int 1))) (.cons (.mth .count (.var 4) (.lit (.int 0))) .nil))) (.cons (.app 2 (.ife (.cmp .eq (.var 5) (.var 6)) (.lit .non) (.blt .int (.cmp .gt (.var 5) (.var 6))))) .nil)))) (.cons (.ret (.blt .tuple (.var 2))) .nil))))))⟩⟩
def c__law_differences_or : DI := ⟨"_law_differences_or", ["collection", "one", "other"], ⟨3, 3, (.cons (.try_ (.call "differences" (.cons (.var 0) (.cons (.var 1) (.cons (.var 2) .nil)))) [("InvalidCollection", .str "InvalidCollection"), ("InvalidJudgements", .str "InvalidJudgements")]) .nil)⟩⟩
def c__law_joined_or : DI := ⟨"_law_joined_or", ["collection", "one", "other"], ⟨3, 3, (.cons (.try_ (.call "joined" (.cons (.var 0) (.cons (.var 1) (.cons (.var 2) .nil)))) [("InvalidCollection", .str "InvalidCollection"), ("InvalidJudgements", .str "InvalidJudgements"), ("Conflict", .str "Conflict")]) .nil)⟩⟩
def c__law_agreement_or : DI := ⟨"_law_agreement_or", ["collection", "one", "other"], ⟨3, 3, (.cons (.try_ (.call "agreement" (.cons (.var 0) (.cons (.var 1) (.cons (.var 2) .nil)))) [("InvalidCollection", .str "InvalidCollection"), ("InvalidJudgements", .str "InvalidJudgements")]) .nil)⟩⟩
def c__law_majority_or : DI := ⟨"_law_majority_or", ["collection", "people"], ⟨2, 2, (.cons (.try_ (.call "majority" (.cons (.var 0) (.cons (.var 1) .nil))) [("InvalidCollection", .str "InvalidCollection"), ("InvalidJudges", .str "InvalidJudges")]) .nil)⟩⟩
def c__law_masked : DI := ⟨"_law_masked", ["script", "state", "completion", "entry"], ⟨3, 4, (.cons (.ret (.blt .tuple (.lc (.seq (.var 2)) (.nm 3) (.lit (.bl true)) (.call "_law_pick" (.cons (.var 0) (.cons (.var 1) (.cons (.lst (.cons (.lit .non) (.cons (.var 3) .nil))) .nil)))) [3]))) .nil)⟩⟩
def c__wall : DI := ⟨"_wall", ["k"], ⟨1, 1, (.cons (.whl (.lit (.bl true)) (.cons .pass .nil)) .nil)⟩⟩
def c__law_open : DI := ⟨"_law_open", ["collection", "entries", "rows", "measure", "found", "spot", "place", "signs", "row"], ⟨4, 9, (.cons (.asg 4 (.lst .nil)) (.cons (.for_ (.rng (.blt .len (.var 2))) (.nm 5) (.cons (.for_ (.rng2 (.bin .add (.var 5) (.lit (.int 1))) (.blt .len (.var 2))) (.nm 6) (.cons (.asg 7 (.call "_law_signs" (.cons (.var 0) (.cons (.var 1) (.cons (.ix (.var 2) (.var 5)) (.cons (.ix (.var 2) (.var 6)) (.cons (.var 3) .nil))))))) (.cons (.asg 4 (.bin .add (.var 4) (.bin .mul (.lst (.cons (.tup (.cons (.var 5) (.cons (.var 6) .nil))) .nil)) (.blt .int (.cmp .gt (.blt .lenset (.lc (.seq (.var 7)) (.nm 8) (.lit (.bl true)) (.ix (.var 7) (.var 8)) [8])) (.lit (.int 1))))))) .nil))) .nil)) (.cons (.ret (.var 4)) .nil)))⟩⟩
def c_mark_of : DI := ⟨"mark_of", ["entry"], ⟨1, 1, (.cons (.ret (.ife (.isn (.var 0)) (.lit (.str "?")) (.ix (.lit (.str "-+")) (.var 0)))) .nil)⟩⟩
def c_judgements_text : DI := ⟨"judgements_text", ["collection", "judgements", "document", "entry"], ⟨2, 4, (.cons (.ret (.mth .join (.lit (.str " ")) (.lc (.zip (.var 0) (.var 1)) (.tup [(.nm 2), (.nm 3)]) (.lit (.bl true)) (.bin .add (.var 2) (.call "mark_of" (.cons (.var 3) .nil))) [2, 3]))) .nil)⟩⟩
def c_format_judgements : DI := ⟨"format_judgements", ["collection", "judgements"], ⟨2, 2, (.cons (.expr (.call "require_judgements" (.cons (.var 0) (.cons (.var 1) .nil)))) (.cons (.ret (.call "judgements_text" (.cons (.var 0) (.cons (.var 1) .nil)))) .nil))⟩⟩
def c_format_ranking : DI := ⟨"format_ranking", ["collection", "ranking"], ⟨2, 2, (.cons (.expr (.call "require_collection" (.cons (.var 0) .nil))) (.cons (.expr (.call "require_ranking" (.cons (.var 0) (.cons (.var 1) .nil)))) (.cons (.ret (.mth .join (.lit (.str " > ")) (.var 1))) .nil)))⟩⟩
def c__law_format_judgements_or : DI := ⟨"_law_format_judgements_or", ["collection", "entries"], ⟨2, 2, (.cons (.try_ (.call "format_judgements" (.cons (.var 0) (.cons (.var 1) .nil))) [("InvalidCollection", .str "InvalidCollection"), ("InvalidJudgements", .str "InvalidJudgements")]) .nil)⟩⟩
def c__law_format_ranking_or : DI := ⟨"_law_format_ranking_or", ["collection", "ranking"], ⟨2, 2, (.cons (.try_ (.call "format_ranking" (.cons (.var 0) (.cons (.var 1) .nil))) [("InvalidCollection", .str "InvalidCollection"), ("InvalidRanking", .str "InvalidRanking")]) .nil)⟩⟩
def c_entry_of : DI := ⟨"entry_of", ["mark"], ⟨1, 1, (.cons (.ite (.cmp .eq (.var 0) (.lit (.str "?"))) (.cons (.ret (.lit .non)) .nil) .nil) (.cons (.ite (.cmp .nin (.var 0) (.tup (.cons (.lit (.str "+")) (.cons (.lit (.str "-")) .nil)))) (.cons (.raise "ParseError") .nil) .nil) (.cons (.ret (.blt .int (.cmp .eq (.var 0) (.lit (.str "+"))))) .nil)))⟩⟩
def c_parse_judgements : DI := ⟨"parse_judgements", ["text", "words", "collection", "judgements", "word"], ⟨1, 5, (.cons (.ite (.not (.isi (.var 0) .str)) (.cons (.raise "ParseError") .nil) .nil) (.cons (.asg 1 (.mth .split (.var 0) (.lit (.str " ")))) (.cons (.asg 2 (.blt .tuple (.lc (.seq (.var 1)) (.nm 4) (.lit (.bl true)) (.sl (.var 4) .no (.so (.neg (.lit (.int 1))))) [4]))) (.cons (.asg 3 (.blt .tuple (.lc (.seq (.var 1)) (.nm 4) (.lit (.bl true)) (.call "entry_of" (.cons (.sl (.var 4) (.so (.neg (.lit (.int 1)))) .no) .nil)) [4]))) (.cons (.ite (.or (.not (.call "is_collection" (.cons (.var 2) .nil))) (.not (.call "are_valid_judgements" (.cons (.var 2) (.cons (.var 3) .nil))))) (.cons (.raise "ParseError") .nil) .nil) (.cons (.ite (.cmp .ne (.call "judgements_text" (.cons (.var 2) (.cons (.var 3) .nil))) (.var 0)) (.cons (.raise "ParseError") .nil) .nil) (.cons (.ret (.tup (.cons (.var 2) (.cons (.var 3) .nil)))) .nil)))))))⟩⟩
def c_parse_ranking : DI := ⟨"parse_ranking", ["collection", "text", "ranking"], ⟨2, 3, (.cons (.expr (.call "require_collection" (.cons (.var 0) .nil))) (.cons (.ite (.not (.isi (.var 1) .str)) (.cons (.raise "ParseError") .nil) .nil) (.cons (.asg 2 (.ife (.var 1) (.blt .tuple (.mth .split (.var 1) (.lit (.str " > ")))) (.tup .nil))) (.cons (.ite (.or (.not (.call "is_valid_ranking" (.cons (.var 0) (.cons (.var 2) .nil)))) (.cmp .ne (.mth .join (.lit (.str " > ")) (.var 2)) (.var 1))) (.cons (.raise "ParseError") .nil) .nil) (.cons (.ret (.var 2)) .nil)))))⟩⟩
def c__law_parse_judgements_or : DI := ⟨"_law_parse_judgements_or", ["text"], ⟨1, 1, (.cons (.try_ (.call "parse_judgements" (.cons (.var 0) .nil)) [("ParseError", .str "ParseError")]) .nil)⟩⟩
def c__law_parse_ranking_or : DI := ⟨"_law_parse_ranking_or", ["collection", "text"], ⟨2, 2, (.cons (.try_ (.call "parse_ranking" (.cons (.var 0) (.cons (.var 1) .nil))) [("InvalidCollection", .str "InvalidCollection"), ("ParseError", .str "ParseError")]) .nil)⟩⟩
def c_naive_average : DI := ⟨"naive_average", ["collection", "judgements", "ranking", "good", "rank", "top", "bottom", "found", "document", "entry"], ⟨3, 10, (.cons (.expr (.call "require_judgements" (.cons (.var 0) (.cons (.var 1) .nil)))) (.cons (.expr (.call "require_ranking" (.cons (.var 0) (.cons (.var 2) .nil)))) (.cons (.expr (.call "require_complete" (.cons (.var 1) .nil))) (.cons (.asg 3 (.lc (.zip (.var 0) (.var 1)) (.tup [(.nm 8), (.nm 9)]) (.cmp .eq (.var 9) (.lit (.int 1))) (.var 8) [8, 9])) (.cons (.par [(5, false), (6, false)] (.cons (.lit (.int 0)) (.cons (.lit (.int 1)) .nil))) (.cons (.for_ (.rng2 (.lit (.int 1)) (.bin .add (.blt .len (.var 2)) (.lit (.int 1)))) (.nm 4) (.cons (.ite (.cmp .in_ (.ix (.var 2) (.bin .sub (.var 4) (.lit (.int 1)))) (.var 3)) (.cons (.asg 7 (.blt .len (.lc (.seq (.sl (.var 2) .no (.so (.var 4)))) (.nm 8) (.cmp .in_ (.var 8) (.var 3)) (.lit (.int 1)) [8]))) (.cons (.par [(5, false), (6, false)] (.cons (.bin .add (.bin .mul (.var 5) (.var 4)) (.bin .mul (.var 7) (.var 6))) (.cons (.bin .mul (.var 6) (.var 4)) .nil))) .nil)) .nil) .nil)) (.cons (.ret (.call "lowest_terms" (.cons (.var 5) (.cons (.bin .mul (.var 6) (.blt .len (.var 3))) .nil)))) .nil)))))))⟩⟩
def c_naive_best_value : DI := ⟨"naive_best_value", ["collection", "judgements", "measure", "best", "ranking", "own"], ⟨3, 6, (.cons (.expr (.call "require_judgements" (.cons (.var 0) (.cons (.var 1) .nil)))) (.cons (.expr (.call "require_measure" (.cons (.var 2) .nil))) (.cons (.expr (.call "require_complete" (.cons (.var 1) .nil))) (.cons (.ite (.cmp .gt (.blt .len (.var 0)) (.lit (.int 5))) (.cons (.raise "TooLarge") .nil) .nil) (.cons (.asg 3 (.tup (.cons (.lit (.int 0)) (.cons (.lit (.int 1)) .nil)))) (.cons (.for_ (.seq (.call "all_rankings" (.cons (.var 0) .nil))) (.nm 4) (.cons (.asg 5 (.call "value_of" (.cons (.var 0) (.cons (.var 1) (.cons (.var 4) (.cons (.var 2) .nil)))))) (.cons (.ite (.call "is_below" (.cons (.var 3) (.cons (.var 5) .nil))) (.cons (.asg 3 (.var 5)) .nil) .nil) .nil))) (.cons (.ret (.var 3)) .nil)))))))⟩⟩
def c__law_naive_average_or : DI := ⟨"_law_naive_average_or", ["collection", "entries", "ranking"], ⟨3, 3, (.cons (.try_ (.call "naive_average" (.cons (.var 0) (.cons (.var 1) (.cons (.var 2) .nil)))) [("InvalidCollection", .str "InvalidCollection"), ("InvalidJudgements", .str "InvalidJudgements"), ("InvalidRanking", .str "InvalidRanking"), ("Incomplete", .str "Incomplete")]) .nil)⟩⟩
def c__law_naive_best_value_or : DI := ⟨"_law_naive_best_value_or", ["collection", "entries", "measure"], ⟨3, 3, (.cons (.try_ (.call "naive_best_value" (.cons (.var 0) (.cons (.var 1) (.cons (.var 2) .nil)))) [("InvalidCollection", .str "InvalidCollection"), ("InvalidJudgements", .str "InvalidJudgements"), ("InvalidMeasure", .str "InvalidMeasure"), ("Incomplete", .str "Incomplete"), ("TooLarge", .str "TooLarge")]) .nil)⟩⟩
def c__law_of_wrong : DI := ⟨"_law_of_wrong", ["wrong", "found"], ⟨1, 2, (.cons (.asg 1 (.lst (.cons (.call "_law_completions_or" (.cons (.var 0) (.cons (.lit (.int 1)) .nil))) (.cons (.call "_law_with_judgement_or" (.cons (.kvar 0) (.cons (.lit (.int 1)) (.cons (.lit (.int 1)) (.cons (.lit (.int 2)) .nil))))) (.cons (.call "_law_value_or" (.cons (.var 0) (.cons (.lit (.int 1)) (.cons (.lit (.int 1)) (.cons (.lit (.int 1)) .nil))))) .nil))))) (.cons (.asg 1 (.bin .add (.var 1) (.lst (.cons (.call "_law_least_or" (.cons (.var 0) (.cons (.lit (.int 1)) (.cons (.lit (.int 1)) (.cons (.lit (.int 1)) .nil))))) (.cons (.call "_law_greatest_or" (.cons (.var 0) (.cons (.lit (.int 1)) (.cons (.lit (.int 1)) (.cons (.lit (.int 1)) .nil))))) .nil))))) (.cons (.asg 1 (.bin .add (.var 1) (.lst (.cons (.call "_law_compare_or" (.cons (.var 0) (.cons (.lit (.int 1)) (.cons (.lit (.int 1)) (.cons (.lit (.int 1)) (.cons (.lit (.int 1)) .nil)))))) .nil)))) (.cons (.asg 1 (.bin .add (.var 1) (.lst (.cons (.call "_law_sure_order_or" (.cons (.var 0) (.cons (.lit (.int 1)) (.cons (.lit (.int 1)) (.cons (.lit (.int 1)) .nil))))) (.cons (.call "_law_settling_sets_or" (.cons (.kvar 0) (.cons (.lit (.int 1)) (.cons (.lit (.int 1)) (.cons (.lit (.int 1)) (.cons (.lit (.int 1)) .nil)))))) .nil))))) (.cons (.asg 1 (.bin .add (.var 1) (.lst (.cons (.call "_law_fewest_questions_or" (.cons (.kvar 0) (.cons (.lit (.int 1)) (.cons (.lit (.int 1)) (.cons (.lit (.int 1)) (.cons (.lit (.int 1)) .nil)))))) .nil)))) (.cons (.asg 1 (.bin .add (.var 1) (.lst (.cons (.call "_law_is_best_or" (.cons (.var 0) (.cons (.lit (.int 1)) (.cons (.lit (.int 1)) (.cons (.lit (.int 1)) .nil))))) (.cons (.call "_law_best_ranking_or" (.cons (.var 0) (.cons (.lit (.int 1)) .nil))) .nil))))) (.cons (.asg 1 (.bin .add (.var 1) (.lst (.cons (.call "_law_regret_or" (.cons (.var 0) (.cons (.lit (.int 1)) (.cons (.lit (.int 1)) (.cons (.lit (.int 1)) .nil))))) .nil)))) (.cons (.asg 1 (.bin .add (.var 1) (.lst (.cons (.call "_law_expected_or" (.cons (.var 0) (.cons (.lit (.int 1)) (.cons (.lit (.int 1)) (.cons (.lit (.int 1)) (.cons (.lit (.int 1)) .nil)))))) .nil)))) (.cons (.asg 1 (.bin .add (.var 1) (.lst (.cons (.call "_law_chance_better_or" (.cons (.var 0) (.cons (.lit (.int 1)) (.cons (.lit (.int 1)) (.cons (.lit (.int 1)) (.cons (.lit (.int 1)) (.cons (.lit (.int 1)) .nil))))))) (.cons (.call "_law_pool_or" (.cons (.var 0) (.cons (.lit (.int 1)) (.cons (.lit (.int 0)) .nil)))) .nil))))) (.cons (.asg 1 (.bin .add (.var 1) (.lst (.cons (.call "_law_left_to_judge_or" (.cons (.var 0) (.cons (.lit (.int 1)) (.cons (.lit (.int 1)) (.cons (.lit (.int 0)) .nil))))) (.cons (.call "_law_joined_or" (.cons (.var 0) (.cons (.lit (.int 1)) (.cons (.lit (.int 1)) .nil)))) (.cons (.call "_law_majority_or" (.cons (.var 0) (.cons (.lit (.int 1)) .nil))) .nil)))))) (.cons (.ret (.bin .add (.var 1) (.lst (.cons (.call "_law_session_or" (.cons (.var 0) (.cons (.lit (.int 1)) (.cons (.lit (.int 1)) .nil)))) (.cons (.call "_law_format_ranking_or" (.cons (.var 0) (.cons (.lit (.int 1)) .nil))) (.cons (.call "_law_naive_average_or" (.cons (.var 0) (.cons (.lit (.int 1)) (.cons (.lit (.int 1)) .nil)))) .nil)))))) .nil)))))))))))⟩⟩
def c__law_judged : DI := ⟨"_law_judged", ["number", "docs", "entries", "measure"], ⟨4, 4, (.cons (.ite (.cmp .eq (.var 0) (.lit (.int 0))) (.cons (.ret (.call "completions" (.cons (.var 1) (.cons (.var 2) .nil)))) .nil) .nil) (.cons (.ite (.cmp .eq (.var 0) (.lit (.int 1))) (.cons (.ret (.call "unjudged" (.cons (.var 1) (.cons (.var 2) .nil)))) .nil) .nil) (.cons (.ite (.cmp .eq (.var 0) (.lit (.int 2))) (.cons (.ret (.call "best_ranking" (.cons (.var 1) (.cons (.var 2) .nil)))) .nil) .nil) (.cons (.ite (.cmp .eq (.var 0) (.lit (.int 3))) (.cons (.ret (.call "assumed" (.cons (.var 1) (.cons (.var 2) .nil)))) .nil) .nil) (.cons (.ite (.cmp .eq (.var 0) (.lit (.int 4))) (.cons (.ret (.call "format_judgements" (.cons (.var 1) (.cons (.var 2) .nil)))) .nil) .nil) (.cons (.ite (.cmp .eq (.var 0) (.lit (.int 5))) (.cons (.ret (.call "with_judgement" (.cons (.kvar 1) (.cons (.var 2) (.cons (.lit .non) (.cons (.lit .non) .nil)))))) .nil) .nil) (.cons (.ite (.cmp .eq (.var 0) (.lit (.int 6))) (.cons (.ret (.call "differences" (.cons (.var 1) (.cons (.var 2) (.cons (.lit .non) .nil))))) .nil) .nil) (.cons (.ite (.cmp .eq (.var 0) (.lit (.int 7))) (.cons (.ret (.call "joined" (.cons (.var 1) (.cons (.var 2) (.cons (.lit .non) .nil))))) .nil) .nil) (.cons (.ite (.cmp .eq (.var 0) (.lit (.int 8))) (.cons (.ret (.call "agreement" (.cons (.var 1) (.cons (.var 2) (.cons (.lit .non) .nil))))) .nil) .nil) (.cons (.ite (.cmp .eq (.var 0) (.lit (.int 9))) (.cons (.ret (.call "naive_average" (.cons (.var 1) (.cons (.var 2) (.cons (.lit .non) .nil))))) .nil) .nil) (.cons (.ite (.cmp .eq (.var 0) (.lit (.int 10))) (.cons (.ret (.call "naive_best_value" (.cons (.var 1) (.cons (.var 2) (.cons (.var 3) .nil))))) .nil) .nil) (.cons (.ret (.call "least_regret" (.cons (.var 1) (.cons (.var 2) (.cons (.var 3) .nil))))) .nil))))))))))))⟩⟩
def c__law_ranked : DI := ⟨"_law_ranked", ["number", "docs", "entries", "one", "measure"], ⟨5, 5, (.cons (.ite (.cmp .eq (.var 0) (.lit (.int 0))) (.cons (.ret (.call "value" (.cons (.var 1) (.cons (.var 2) (.cons (.var 3) (.cons (.var 4) .nil)))))) .nil) .nil) (.cons (.ite (.cmp .eq (.var 0) (.lit (.int 1))) (.cons (.ret (.call "least" (.cons (.var 1) (.cons (.var 2) (.cons (.var 3) (.cons (.var 4) .nil)))))) .nil) .nil) (.cons (.ite (.cmp .eq (.var 0) (.lit (.int 2))) (.cons (.ret (.call "greatest" (.cons (.var 1) (.cons (.var 2) (.cons (.var 3) (.cons (.var 4) .nil)))))) .nil) .nil) (.cons (.ite (.cmp .eq (.var 0) (.lit (.int 3))) (.cons (.ret (.call "least_completion" (.cons (.var 1) (.cons (.var 2) (.cons (.var 3) (.cons (.var 4) .nil)))))) .nil) .nil) (.cons (.ite (.cmp .eq (.var 0) (.lit (.int 4))) (.cons (.ret (.call "greatest_completion" (.cons (.var 1) (.cons (.var 2) (.cons (.var 3) (.cons (.var 4) .nil)))))) .nil) .nil) (.cons (.ite (.cmp .eq (.var 0) (.lit (.int 5))) (.cons (.ret (.call "possible_values" (.cons (.var 1) (.cons (.var 2) (.cons (.var 3) (.cons (.var 4) .nil)))))) .nil) .nil) (.cons (.ite (.cmp .eq (.var 0) (.lit (.int 6))) (.cons (.ret (.call "is_best" (.cons (.var 1) (.cons (.var 2) (.cons (.var 3) (.cons (.var 4) .nil)))))) .nil) .nil) (.cons (.ret (.call "regret" (.cons (.var 1) (.cons (.var 2) (.cons (.var 3) (.cons (.var 4) .nil)))))) .nil))))))))⟩⟩
def c__law_compared : DI := ⟨"_law_compared", ["number", "docs", "entries", "one", "other", "measure"], ⟨6, 6, (.cons (.ite (.cmp .eq (.var 0) (.lit (.int 0))) (.cons (.ret (.call "compare" (.cons (.var 1) (.cons (.var 2) (.cons (.var 3) (.cons (.var 4) (.cons (.var 5) .nil))))))) .nil) .nil) (.cons (.ite (.cmp .eq (.var 0) (.lit (.int 1))) (.cons (.ret (.call "is_never_worse" (.cons (.var 1) (.cons (.var 2) (.cons (.var 3) (.cons (.var 4) (.cons (.var 5) .nil))))))) .nil) .nil) (.cons (.ite (.cmp .eq (.var 0) (.lit (.int 2))) (.cons (.ret (.call "completion_against" (.cons (.var 1) (.cons (.var 2) (.cons (.var 3) (.cons (.var 4) (.cons (.var 5) .nil))))))) .nil) .nil) (.cons (.ite (.cmp .eq (.var 0) (.lit (.int 3))) (.cons (.ret (.call "settling_sets" (.cons (.kvar 1) (.cons (.var 2) (.cons (.var 3) (.cons (.var 4) (.cons (.var 5) .nil))))))) .nil) .nil) (.cons (.ite (.cmp .eq (.var 0) (.lit (.int 4))) (.cons (.ret (.call "fewest_questions" (.cons (.kvar 1) (.cons (.var 2) (.cons (.var 3) (.cons (.var 4) (.cons (.var 5) .nil))))))) .nil) .nil) (.cons (.ite (.cmp .eq (.var 0) (.lit (.int 5))) (.cons (.ret (.call "next_question" (.cons (.kvar 1) (.cons (.var 2) (.cons (.var 3) (.cons (.var 4) (.cons (.var 5) .nil))))))) .nil) .nil) (.cons (.ret (.call "does_settle" (.cons (.kvar 1) (.cons (.var 2) (.cons (.var 3) (.cons (.var 4) (.cons (.var 5) (.cons (.lst (.cons (.lit (.str "a")) .nil)) .nil)))))))) .nil)))))))⟩⟩
def c__law_chanced : DI := ⟨"_law_chanced", ["number", "docs", "entries", "odds", "one", "other", "measure"], ⟨7, 7, (.cons (.ite (.cmp .eq (.var 0) (.lit (.int 0))) (.cons (.ret (.call "expected" (.cons (.var 1) (.cons (.var 2) (.cons (.var 3) (.cons (.var 4) (.cons (.var 6) .nil))))))) .nil) .nil) (.cons (.ite (.cmp .eq (.var 0) (.lit (.int 1))) (.cons (.ret (.call "chance_better" (.cons (.var 1) (.cons (.var 2) (.cons (.var 3) (.cons (.var 4) (.cons (.var 5) (.cons (.var 6) .nil)))))))) .nil) .nil) (.cons (.ret (.call "chance_equal" (.cons (.var 1) (.cons (.var 2) (.cons (.var 3) (.cons (.var 4) (.cons (.var 5) (.cons (.var 6) .nil)))))))) .nil)))⟩⟩
def c__law_pooled : DI := ⟨"_law_pooled", ["number", "docs", "entries", "rows", "depth"], ⟨5, 5, (.cons (.ite (.cmp .eq (.var 0) (.lit (.int 0))) (.cons (.ret (.call "is_judged" (.cons (.var 1) (.cons (.var 2) (.cons (.var 3) (.cons (.var 4) .nil)))))) .nil) .nil) (.cons (.ret (.call "left_to_judge" (.cons (.var 1) (.cons (.var 2) (.cons (.var 3) (.cons (.var 4) .nil)))))) .nil))⟩⟩
def c__law_told : DI := ⟨"_law_told", ["way", "number", "docs", "entries", "odds", "one", "other", "measure"], ⟨8, 8, (.cons (.ite (.cmp .eq (.var 0) (.lit (.int 0))) (.cons (.ret (.call "_law_judged" (.cons (.var 1) (.cons (.kvar 2) (.cons (.var 3) (.cons (.var 7) .nil)))))) .nil) .nil) (.cons (.ite (.cmp .eq (.var 0) (.lit (.int 1))) (.cons (.ret (.call "_law_ranked" (.cons (.var 1) (.cons (.var 2) (.cons (.var 3) (.cons (.var 5) (.cons (.var 7) .nil))))))) .nil) .nil) (.cons (.ite (.cmp .eq (.var 0) (.lit (.int 2))) (.cons (.ret (.call "_law_compared" (.cons (.var 1) (.cons (.kvar 2) (.cons (.var 3) (.cons (.var 5) (.cons (.var 6) (.cons (.var 7) .nil)))))))) .nil) .nil) (.cons (.ite (.cmp .eq (.var 0) (.lit (.int 3))) (.cons (.ret (.call "_law_chanced" (.cons (.var 1) (.cons (.var 2) (.cons (.var 3) (.cons (.var 4) (.cons (.var 5) (.cons (.var 6) (.cons (.var 7) .nil))))))))) .nil) .nil) (.cons (.ite (.cmp .eq (.var 0) (.lit (.int 4))) (.cons (.ret (.call "_law_pooled" (.cons (.var 1) (.cons (.var 2) (.cons (.var 3) (.cons (.var 5) (.cons (.var 6) .nil))))))) .nil) .nil) (.cons (.ite (.cmp .eq (.var 0) (.lit (.int 5))) (.cons (.ret (.call "_law_plain" (.cons (.var 1) (.cons (.var 2) (.cons (.var 5) .nil))))) .nil) .nil) (.cons (.ite (.cmp .eq (.var 0) (.lit (.int 6))) (.cons (.ret (.call "swapped" (.cons (.var 2) (.cons (.var 5) (.cons (.var 6) .nil))))) .nil) .nil) (.cons (.ite (.cmp .eq (.var 0) (.lit (.int 7))) (.cons (.ret (.call "sure_order" (.cons (.var 2) (.cons (.var 3) (.cons (.var 5) (.cons (.var 7) .nil)))))) .nil) .nil) (.cons (.ret (.call "pool" (.cons (.var 2) (.cons (.var 5) (.cons (.var 6) .nil))))) .nil)))))))))⟩⟩
def c__law_told_or : DI := ⟨"_law_told_or", ["way", "number", "docs", "entries", "odds", "one", "other", "measure"], ⟨8, 8, (.cons (.try_ (.call "_law_told" (.cons (.var 0) (.cons (.var 1) (.cons (.kvar 2) (.cons (.var 3) (.cons (.var 4) (.cons (.var 5) (.cons (.var 6) (.cons (.var 7) .nil))))))))) [("InvalidCollection", .str "InvalidCollection"), ("InvalidJudgements", .str "InvalidJudgements"), ("InvalidRanking", .str "InvalidRanking"), ("InvalidRankings", .str "InvalidRankings"), ("InvalidMeasure", .str "InvalidMeasure"), ("InvalidChances", .str "InvalidChances"), ("InvalidDepth", .str "InvalidDepth"), ("InvalidRank", .str "InvalidRank"), ("InvalidJudges", .str "InvalidJudges"), ("InvalidDocuments", .str "InvalidDocuments")]) .nil)⟩⟩
def c__law_no_docs : DI := ⟨"_law_no_docs", ["script", "state", "many", "some"], ⟨2, 4, (.cons (.asg 2 (.tup (.cons (.lit (.str "a")) (.cons (.lit (.str "b")) (.cons (.lit (.str "c")) (.cons (.lit (.str "d")) (.cons (.lit (.str "e")) (.cons (.lit (.str "f")) (.cons (.lit (.str "g")) (.cons (.lit (.str "h")) .nil)))))))))) (.cons (.asg 3 (.lst (.cons (.lit .non) (.cons (.lit (.int 5)) (.cons (.lit (.str "a")) (.cons (.tup .nil) (.cons (.lst .nil) (.cons (.lst (.cons (.lit (.str "a")) .nil)) (.cons (.tup (.cons (.lit (.str "b")) (.cons (.lit (.str "a")) .nil))) (.cons (.tup (.cons (.lit (.str "a")) (.cons (.lit (.str "a")) .nil))) (.cons (.tup (.cons (.lit (.str "")) .nil)) (.cons (.tup (.cons (.lit (.str "abcd")) .nil)) (.cons (.tup (.cons (.lit (.str "A")) .nil)) (.cons (.tup (.cons (.lit (.int 1)) .nil)) (.cons (.var 2) (.cons (.tup (.cons (.tup (.cons (.lit (.str "a")) .nil)) .nil)) .nil)))))))))))))))) (.cons (.ret (.call "_law_pick" (.cons (.var 0) (.cons (.var 1) (.cons (.var 3) .nil))))) .nil)))⟩⟩
def c__law_no_entries : DI := ⟨"_law_no_entries", ["script", "state", "entries", "some"], ⟨3, 4, (.cons (.asg 3 (.lst (.cons (.lit .non) (.cons (.lit (.int 5)) (.cons (.tup .nil) (.cons (.lst .nil) (.cons (.bin .add (.var 2) (.tup (.cons (.lit .non) .nil))) (.cons (.sl (.var 2) .no (.so (.bin .sub (.blt .len (.var 2)) (.lit (.int 1))))) (.cons (.blt .list (.var 2)) (.cons (.bin .add (.var 2) (.tup (.cons (.lit (.int 1)) .nil))) .nil)))))))))) (.cons (.ret (.call "_law_pick" (.cons (.var 0) (.cons (.var 1) (.cons (.bin .add (.var 3) (.lst (.cons (.blt .tuple (.bin .mul (.lst (.cons (.lit (.int 2)) .nil)) (.blt .len (.var 2)))) (.cons (.blt .tuple (.bin .mul (.lst (.cons (.lit (.bl true)) .nil)) (.blt .len (.var 2)))) .nil)))) .nil))))) .nil))⟩⟩
def c__law_no_ranking : DI := ⟨"_law_no_ranking", ["script", "state", "docs"], ⟨3, 3, (.cons (.ret (.call "_law_pick" (.cons (.var 0) (.cons (.var 1) (.cons (.lst (.cons (.lit .non) (.cons (.lit (.int 5)) (.cons (.lit (.str "a")) (.cons (.blt .list (.var 2)) (.cons (.bin .add (.var 2) (.tup (.cons (.ix (.var 2) (.lit (.int 0))) .nil))) (.cons (.tup (.cons (.lit (.str "zz")) .nil)) (.cons (.tup (.cons (.lit (.int 1)) .nil)) (.cons (.tup (.cons (.tup (.cons (.ix (.var 2) (.lit (.int 0))) .nil)) .nil)) .nil))))))))) .nil))))) .nil)⟩⟩
def c__law_no_measure : DI := ⟨"_law_no_measure", ["script", "state", "some"], ⟨2, 3, (.cons (.asg 2 (.lst (.cons (.lit .non) (.cons (.tup .nil) (.cons (.lit (.str "average")) (.cons (.lst (.cons (.lit (.str "average")) .nil)) (.cons (.tup (.cons (.lit (.str "average")) (.cons (.lit (.int 1)) .nil))) (.cons (.tup (.cons (.lit (.str "precision")) .nil)) (.cons (.tup (.cons (.lit (.str "precision")) (.cons (.lit (.int 0)) .nil))) (.cons (.tup (.cons (.lit (.str "gain")) (.cons (.lit (.int 8)) .nil))) .nil)))))))))) (.cons (.ret (.call "_law_pick" (.cons (.var 0) (.cons (.var 1) (.cons (.bin .add (.var 2) (.lst (.cons (.tup (.cons (.lit (.str "share")) (.cons (.lit (.bl true)) .nil))) (.cons (.tup (.cons (.lit (.str "mean")) .nil)) (.cons (.tup (.cons (.lit (.str "reciprocal")) (.cons (.lit (.int 3)) .nil))) (.cons (.tup (.cons (.lit (.str "recall")) (.cons (.lit (.str "1")) .nil))) (.cons (.tup (.cons (.lit (.int 1)) (.cons (.lit (.int 2)) .nil))) .nil))))))) .nil))))) .nil))⟩⟩
def c__law_no_odds : DI := ⟨"_law_no_odds", ["script", "state", "docs", "size", "some"], ⟨3, 5, (.cons (.asg 3 (.blt .len (.var 2))) (.cons (.asg 4 (.lst (.cons (.lit .non) (.cons (.tup .nil) (.cons (.bin .mul (.tup (.cons (.tup (.cons (.lit (.int 1)) (.cons (.lit (.int 2)) .nil))) .nil)) (.bin .add (.var 3) (.lit (.int 1)))) (.cons (.bin .mul (.tup (.cons (.tup (.cons (.lit (.int 2)) (.cons (.lit (.int 4)) .nil))) .nil)) (.var 3)) (.cons (.bin .mul (.tup (.cons (.tup (.cons (.lit (.int 3)) (.cons (.lit (.int 2)) .nil))) .nil)) (.var 3)) (.cons (.bin .mul (.tup (.cons (.tup (.cons (.lit (.int 1)) (.cons (.lit (.int 21)) .nil))) .nil)) (.var 3)) (.cons (.bin .mul (.lst (.cons (.tup (.cons (.lit (.int 1)) (.cons (.lit (.int 2)) .nil))) .nil)) (.var 3)) .nil))))))))) (.cons (.ret (.call "_law_pick" (.cons (.var 0) (.cons (.var 1) (.cons (.bin .add (.var 4) (.lst (.cons (.bin .mul (.tup (.cons (.tup (.cons (.lit (.int 0)) (.cons (.lit (.int 2)) .nil))) .nil)) (.var 3)) (.cons (.bin .mul (.tup (.cons (.lit .non) .nil)) (.var 3)) (.cons (.bin .mul (.tup (.cons (.tup (.cons (.lit (.int 1)) (.cons (.lit (.int 2)) (.cons (.lit (.int 3)) .nil)))) .nil)) (.var 3)) .nil))))) .nil))))) .nil)))⟩⟩
def c__law_no_rows : DI := ⟨"_law_no_rows", ["script", "state", "docs"], ⟨3, 3, (.cons (.ret (.call "_law_pick" (.cons (.var 0) (.cons (.var 1) (.cons (.lst (.cons (.lit .non) (.cons (.tup .nil) (.cons (.lst .nil) (.cons (.lst (.cons (.lit .non) .nil)) (.cons (.bin .mul (.lst (.cons (.var 2) .nil)) (.lit (.int 6))) (.cons (.tup (.cons (.var 2) .nil)) (.cons (.lst (.cons (.blt .list (.var 2)) .nil)) (.cons (.lst (.cons (.var 2) (.cons (.tup (.cons (.lit (.str "zz")) .nil)) .nil))) .nil))))))))) .nil))))) .nil)⟩⟩
def c__law_good_docs : DI := ⟨"_law_good_docs", ["script", "state", "docs", "entries", "odds", "one", "other", "measure", "way", "many", "number", "wrong", "first", "second"], ⟨4, 14, (.cons (.par [(5, false), (6, false), (7, false)] (.cons (.var 2) (.cons (.sl (.var 2) .no (.so (.lit (.int 1)))) (.cons (.call "_law_measure" (.cons (.var 0) (.cons (.var 1) .nil))) .nil)))) (.cons (.asg 4 (.bin .mul (.tup (.cons (.tup (.cons (.lit (.int 1)) (.cons (.lit (.int 2)) .nil))) .nil)) (.blt .len (.var 2)))) (.cons (.for_ (.seq (.tup (.cons (.tup (.cons (.lit (.int 0)) (.cons (.lit (.int 12)) .nil))) (.cons (.tup (.cons (.lit (.int 1)) (.cons (.lit (.int 8)) .nil))) (.cons (.tup (.cons (.lit (.int 2)) (.cons (.lit (.int 7)) .nil))) (.cons (.tup (.cons (.lit (.int 3)) (.cons (.lit (.int 3)) .nil))) (.cons (.tup (.cons (.lit (.int 4)) (.cons (.lit (.int 2)) .nil))) (.cons (.tup (.cons (.lit (.int 7)) (.cons (.lit (.int 1)) .nil))) .nil)))))))) (.tup [(.nm 8), (.nm 9)]) (.cons (.for_ (.rng (.var 9)) (.nm 10) (.cons (.asg 11 (.call "_law_no_entries" (.cons (.var 0) (.cons (.var 1) (.cons (.var 3) .nil))))) (.cons (.ite (.cmp .ne (.call "_law_told_or" (.cons (.var 8) (.cons (.var 10) (.cons (.kvar 2) (.cons (.var 11) (.cons (.var 4) (.cons (.var 5) (.cons (.var 6) (.cons (.var 7) .nil))))))))) (.lit (.str "InvalidJudgements"))) (.cons (.ret (.lit (.bl false))) .nil) .nil) .nil))) .nil)) (.cons (.for_ (.seq (.tup (.cons (.tup (.cons (.lit (.int 1)) (.cons (.lit (.int 8)) .nil))) (.cons (.tup (.cons (.lit (.int 2)) (.cons (.lit (.int 7)) .nil))) (.cons (.tup (.cons (.lit (.int 3)) (.cons (.lit (.int 3)) .nil))) .nil))))) (.tup [(.nm 8), (.nm 9)]) (.cons (.for_ (.rng (.var 9)) (.nm 10) (.cons (.asg 11 (.call "_law_no_ranking" (.cons (.var 0) (.cons (.var 1) (.cons (.var 2) .nil))))) (.cons (.ite (.cmp .ne (.call "_law_told_or" (.cons (.var 8) (.cons (.var 10) (.cons (.kvar 2) (.cons (.var 3) (.cons (.var 4) (.cons (.var 11) (.cons (.var 6) (.cons (.var 7) .nil))))))))) (.lit (.str "InvalidRanking"))) (.cons (.ret (.lit (.bl false))) .nil) .nil) (.cons (.asg 11 (.call "_law_no_measure" (.cons (.var 0) (.cons (.var 1) .nil)))) (.cons (.ite (.cmp .ne (.call "_law_told_or" (.cons (.var 8) (.cons (.var 10) (.cons (.kvar 2) (.cons (.var 3) (.cons (.var 4) (.cons (.var 5) (.cons (.var 6) (.cons (.var 11) .nil))))))))) (.lit (.str "InvalidMeasure"))) (.cons (.ret (.lit (.bl false))) .nil) .nil) .nil))))) .nil)) (.cons (.for_ (.seq (.tup (.cons (.tup (.cons (.lit (.int 2)) (.cons (.lit (.int 0)) .nil))) (.cons (.tup (.cons (.lit (.int 2)) (.cons (.lit (.int 1)) .nil))) (.cons (.tup (.cons (.lit (.int 2)) (.cons (.lit (.int 2)) .nil))) (.cons (.tup (.cons (.lit (.int 2)) (.cons (.lit (.int 3)) .nil))) (.cons (.tup (.cons (.lit (.int 2)) (.cons (.lit (.int 4)) .nil))) (.cons (.tup (.cons (.lit (.int 2)) (.cons (.lit (.int 5)) .nil))) (.cons (.tup (.cons (.lit (.int 2)) (.cons (.lit (.int 6)) .nil))) (.cons (.tup (.cons (.lit (.int 3)) (.cons (.lit (.int 1)) .nil))) (.cons (.tup (.cons (.lit (.int 3)) (.cons (.lit (.int 2)) .nil))) (.cons (.tup (.cons (.lit (.int 5)) (.cons (.lit (.int 5)) .nil))) (.cons (.tup (.cons (.lit (.int 6)) (.cons (.lit (.int 0)) .nil))) .nil))))))))))))) (.tup [(.nm 8), (.nm 10)]) (.cons (.asg 11 (.call "_law_no_ranking" (.cons (.var 0) (.cons (.var 1) (.cons (.var 2) .nil))))) (.cons (.asgT (.tup [(.nm 12), (.nm 13)]) (.ife (.cmp .gt (.var 8) (.lit (.int 4))) (.tup (.cons (.var 11) (.cons (.lit (.int 1)) .nil))) (.tup (.cons (.var 5) (.cons (.var 11) .nil))))) (.cons (.ite (.cmp .ne (.call "_law_told_or" (.cons (.var 8) (.cons (.var 10) (.cons (.kvar 2) (.cons (.var 3) (.cons (.var 4) (.cons (.var 12) (.cons (.var 13) (.cons (.var 7) .nil))))))))) (.lit (.str "InvalidRanking"))) (.cons (.ret (.lit (.bl false))) .nil) .nil) .nil)))) (.cons (.ret (.cmp .eq (.call "_law_told_or" (.cons (.lit (.int 2)) (.cons (.lit (.int 6)) (.cons (.kvar 2) (.cons (.var 3) (.cons (.var 4) (.cons (.var 5) (.cons (.var 6) (.cons (.var 7) .nil))))))))) (.lit (.str "InvalidDocuments")))) .nil))))))⟩⟩
def c__law_judges : DI := ⟨"_law_judges", ["script", "state", "docs", "entries", "measure", "odds", "wrong", "late", "number"], ⟨6, 9, (.cons (.asg 6 (.call "_law_pick" (.cons (.var 0) (.cons (.var 1) (.cons (.lst (.cons (.lit .non) (.cons (.tup .nil) (.cons (.lst .nil) (.cons (.lst (.cons (.lit .non) .nil)) (.cons (.bin .mul (.lst (.cons (.var 3) .nil)) (.lit (.int 8))) (.cons (.tup (.cons (.var 3) .nil)) (.cons (.lst (.cons (.bin .add (.var 3) (.tup (.cons (.lit (.int 1)) .nil))) .nil)) .nil)))))))) .nil))))) (.cons (.for_ (.seq (.tup (.cons (.lit (.int 3)) (.cons (.lit (.int 4)) (.cons (.lit (.int 6)) .nil))))) (.nm 7) (.cons (.ite (.cmp .ne (.call "_law_told_or" (.cons (.lit (.int 5)) (.cons (.lit (.int 8)) (.cons (.kvar 2) (.cons (.var 3) (.cons (.var 5) (.cons (.bin .add (.bin .mul (.lst (.cons (.var 3) .nil)) (.var 7)) (.lst (.cons (.bin .add (.var 3) (.tup (.cons (.lit (.int 1)) .nil))) .nil))) (.cons (.lit (.int 1)) (.cons (.var 4) .nil))))))))) (.lit (.str "InvalidJudges"))) (.cons (.ret (.lit (.bl false))) .nil) .nil) .nil)) (.cons (.for_ (.seq (.tup (.cons (.lit (.int 3)) (.cons (.lit (.int 4)) .nil)))) (.nm 7) (.cons (.ite (.cmp .ne (.call "_law_told_or" (.cons (.lit (.int 7)) (.cons (.lit (.int 0)) (.cons (.kvar 2) (.cons (.var 3) (.cons (.var 5) (.cons (.bin .add (.bin .mul (.lst (.cons (.var 2) .nil)) (.var 7)) (.lst (.cons (.tup (.cons (.lit (.str "zz")) .nil)) .nil))) (.cons (.lit (.int 1)) (.cons (.var 4) .nil))))))))) (.lit (.str "InvalidRankings"))) (.cons (.ret (.lit (.bl false))) .nil) .nil) .nil)) (.cons (.ite (.cmp .ne (.call "_law_told_or" (.cons (.lit (.int 0)) (.cons (.lit (.int 9)) (.cons (.kvar 2) (.cons (.var 3) (.cons (.var 5) (.cons (.var 2) (.cons (.lit (.int 1)) (.cons (.var 4) .nil))))))))) (.lit (.str "InvalidRanking"))) (.cons (.ret (.lit (.bl false))) .nil) .nil) (.cons (.for_ (.seq (.tup (.cons (.lit (.int 10)) (.cons (.lit (.int 11)) .nil)))) (.nm 8) (.cons (.ite (.cmp .ne (.call "_law_told_or" (.cons (.lit (.int 0)) (.cons (.var 8) (.cons (.kvar 2) (.cons (.var 3) (.cons (.var 5) (.cons (.var 2) (.cons (.lit (.int 1)) (.cons (.call "_law_no_measure" (.cons (.var 0) (.cons (.var 1) .nil))) .nil))))))))) (.lit (.str "InvalidMeasure"))) (.cons (.ret (.lit (.bl false))) .nil) .nil) .nil)) (.cons (.ret (.cmp .eq (.call "_law_told_or" (.cons (.lit (.int 5)) (.cons (.lit (.int 8)) (.cons (.kvar 2) (.cons (.var 3) (.cons (.var 5) (.cons (.var 6) (.cons (.lit (.int 1)) (.cons (.var 4) .nil))))))))) (.lit (.str "InvalidJudges")))) .nil))))))⟩⟩
def c__law_further : DI := ⟨"_law_further", ["script", "state", "docs", "entries", "number", "wrong", "measure", "odds", "way"], ⟨4, 9, (.cons (.par [(6, false), (7, false)] (.cons (.call "_law_measure" (.cons (.var 0) (.cons (.var 1) .nil))) (.cons (.bin .mul (.tup (.cons (.tup (.cons (.lit (.int 1)) (.cons (.lit (.int 2)) .nil))) .nil)) (.blt .len (.var 2))) .nil))) (.cons (.for_ (.rng (.lit (.int 3))) (.nm 4) (.cons (.asg 5 (.call "_law_no_odds" (.cons (.var 0) (.cons (.var 1) (.cons (.var 2) .nil))))) (.cons (.ite (.cmp .ne (.call "_law_told_or" (.cons (.lit (.int 3)) (.cons (.var 4) (.cons (.kvar 2) (.cons (.var 3) (.cons (.var 5) (.cons (.var 2) (.cons (.var 2) (.cons (.var 6) .nil))))))))) (.lit (.str "InvalidChances"))) (.cons (.ret (.lit (.bl false))) .nil) .nil) .nil))) (.cons (.for_ (.seq (.tup (.cons (.tup (.cons (.lit (.int 4)) (.cons (.lit (.int 0)) .nil))) (.cons (.tup (.cons (.lit (.int 4)) (.cons (.lit (.int 1)) .nil))) (.cons (.tup (.cons (.lit (.int 5)) (.cons (.lit (.int 6)) .nil))) (.cons (.tup (.cons (.lit (.int 5)) (.cons (.lit (.int 7)) .nil))) (.cons (.tup (.cons (.lit (.int 7)) (.cons (.lit (.int 0)) .nil))) (.cons (.tup (.cons (.lit (.int 8)) (.cons (.lit (.int 0)) .nil))) .nil)))))))) (.tup [(.nm 8), (.nm 4)]) (.cons (.asg 5 (.call "_law_no_rows" (.cons (.var 0) (.cons (.var 1) (.cons (.var 2) .nil))))) (.cons (.ite (.cmp .ne (.call "_law_told_or" (.cons (.var 8) (.cons (.var 4) (.cons (.kvar 2) (.cons (.var 3) (.cons (.var 7) (.cons (.var 5) (.cons (.lit (.int 1)) (.cons (.var 6) .nil))))))))) (.lit (.str "InvalidRankings"))) (.cons (.ret (.lit (.bl false))) .nil) .nil) .nil))) (.cons (.for_ (.seq (.tup (.cons (.tup (.cons (.lit (.int 4)) (.cons (.lit (.int 0)) .nil))) (.cons (.tup (.cons (.lit (.int 4)) (.cons (.lit (.int 1)) .nil))) (.cons (.tup (.cons (.lit (.int 8)) (.cons (.lit (.int 0)) .nil))) .nil))))) (.tup [(.nm 8), (.nm 4)]) (.cons (.asg 5 (.call "_law_pick" (.cons (.var 0) (.cons (.var 1) (.cons (.lst (.cons (.lit .non) (.cons (.lit (.int 0)) (.cons (.lit (.int 8)) (.cons (.lit (.str "1")) (.cons (.lit (.bl true)) (.cons (.tup (.cons (.lit (.int 1)) .nil)) .nil))))))) .nil))))) (.cons (.ite (.cmp .ne (.call "_law_told_or" (.cons (.var 8) (.cons (.var 4) (.cons (.kvar 2) (.cons (.var 3) (.cons (.var 7) (.cons (.lst (.cons (.var 2) .nil)) (.cons (.var 5) (.cons (.var 6) .nil))))))))) (.lit (.str "InvalidDepth"))) (.cons (.ret (.lit (.bl false))) .nil) .nil) .nil))) (.cons (.asg 5 (.call "_law_pick" (.cons (.var 0) (.cons (.var 1) (.cons (.lst (.cons (.lit .non) (.cons (.lit (.int 0)) (.cons (.blt .len (.var 2)) (.cons (.lit (.bl true)) (.cons (.lit (.str "1")) .nil)))))) .nil))))) (.cons (.ite (.cmp .ne (.call "_law_told_or" (.cons (.lit (.int 6)) (.cons (.lit (.int 0)) (.cons (.kvar 2) (.cons (.var 3) (.cons (.var 7) (.cons (.var 2) (.cons (.var 5) (.cons (.var 6) .nil))))))))) (.lit (.str "InvalidRank"))) (.cons (.ret (.lit (.bl false))) .nil) .nil) (.cons (.ite (.cmp .ne (.call "_law_told_or" (.cons (.lit (.int 7)) (.cons (.lit (.int 0)) (.cons (.kvar 2) (.cons (.var 3) (.cons (.var 7) (.cons (.lst (.cons (.var 2) .nil)) (.cons (.lit (.int 1)) (.cons (.call "_law_no_measure" (.cons (.var 0) (.cons (.var 1) .nil))) .nil))))))))) (.lit (.str "InvalidMeasure"))) (.cons (.ret (.lit (.bl false))) .nil) .nil) (.cons (.ret (.call "_law_judges" (.cons (.var 0) (.cons (.var 1) (.cons (.kvar 2) (.cons (.var 3) (.cons (.var 6) (.cons (.var 7) .nil)))))))) .nil))))))))⟩⟩
def uDefs : List DI := [c_is_ascending, c_is_document, c_is_collection, c_require_collection, c_is_valid_ranking, c_is_ranking, c__law_draw, c__law_pick, c__law_shuffled, c__law_bent, c__law_collection, c__law_ranking, c__law_is_collection, c__law_is_ranking, c__law_is_ranking_or, c_is_integer, c_are_valid_judgements, c_are_judgements, c_require_judgements, c_all_completions, c_completions, c_open_documents, c_unjudged, c_changed, c_require_document, c_with_judgement, c__law_same, c__law_entries, c__law_all, c__law_with_judgement_or, c__law_completions_or, c__law_unjudged_or, c__law_are_judgements_or, c_is_measure, c__law_measure, c_require_ranking, c_require_measure, c_lowest_terms, c_added, c_hits_of, c_gain_of, c_average_of, c_value_of, c_require_complete, c_value, c__law_full, c__law_fraction, c__law_plus, c__law_value, c__law_value_or, c_relevant_first, c_best_ranking, c__law_below, c_is_below, c_values_of, c_lowest, c_highest, c_checked_values, c_least, c_greatest, c_least_completion, c_greatest_completion, c_possible_values, c__law_ordered, c__law_least_or, c__law_greatest_or, c__law_least_completion_or, c__law_greatest_completion_or, c__law_possible_values_or, c_assumed, c_require_two, c_sign_of, c_verdict, c_compare, c_first_against, c_is_never_worse, c_completion_against, c__law_compare_or, c__law_is_never_worse_or, c__law_completion_against_or, c_require_rankings, c_sure_order, c__law_sure_order_or, c_is_settled, c_ways_to_judge, c_settles, c_does_settle, c__law_answers, c__law_is_settled, c__law_settles, c__law_sets, c__law_rest, c__law_does_settle_or, c_choices, c_settling_sets, c__law_settling_sets_or, c__law_deciding, c_need_of, c__law_need, c__law_fewest_questions_or, c__law_next_question_or, c__law_asked, c_best_value, c_is_best, c_swapped, c__law_rankings, c__law_swapped_or, c__law_is_best_or, c__law_best_ranking_or, c_less, c_regret_of, c_regret, c_all_rankings, c_least_regret, c__law_orders, c__law_lost, c__law_regret_or, c__law_least_regret_or, c__law_swaps, c_is_chance, c_are_valid_chances, c_are_chances, c__law_odds, c__law_are_chances_or, c_times, c_require_chances, c_expected, c_chance_of_sign, c_chance_better, c_chance_equal, c__law_expected_or, c__law_chance_better_or, c__law_chance_equal_or, c__law_same_value, c__law_are_all, c__law_parted, c_require_depth, c_count_in, c_pool_of, c_pool, c_open_in_pool, c_is_judged, c_left_to_judge, c__law_pool_or, c__law_is_judged_or, c__law_left_to_judge_or, c__law_assumed_or, c_require_pair, c_differences, c_joined, c_agreement, c_majority, c__law_differences_or, c__law_joined_or, c__law_agreement_or, c__law_majority_or, c__law_masked, c__wall, c__law_open, c_mark_of, c_judgements_text, c_format_judgements, c_format_ranking, c__law_format_judgements_or, c__law_format_ranking_or, c_entry_of, c_parse_judgements, c_parse_ranking, c__law_parse_judgements_or, c__law_parse_ranking_or, c_naive_average, c_naive_best_value, c__law_naive_average_or, c__law_naive_best_value_or, c__law_of_wrong, c__law_judged, c__law_ranked, c__law_compared, c__law_chanced, c__law_pooled, c__law_told, c__law_told_or, c__law_no_docs, c__law_no_entries, c__law_no_ranking, c__law_no_measure, c__law_no_odds, c__law_no_rows, c__law_good_docs, c__law_judges, c__law_further]
end J
end JDefs

section JPure
set_option Elab.async false
set_option linter.all false
set_option maxRecDepth 100000
set_option autoImplicit false
set_option maxHeartbeats 8000000
/-! J.Pure: the drawing functions, in the pure reading. -/
namespace J
open PySem
@[simp] theorem line_n : lineN = 16777216 := rfl
section
variable {a b : Int} {x y : D} {xs ys : List D} {s z : Str}
@[simp] theorem blt_lenL : bltD .len (.list xs) = some (.int xs.length) := rfl
@[simp] theorem blt_lenT : bltD .len (.tuple xs) = some (.int xs.length) := rfl
theorem blt_lenS (h : s.length ≤ lineN) : bltD .len (.str s) = some (.int s.length) := by simp only [bltD, h, if_true]
@[simp] theorem blt_max : bltD .max (.list xs) = ((intsOf xs).bind maxI).map .int := rfl
@[simp] theorem blt_min : bltD .min (.list xs) = ((intsOf xs).bind minI).map .int := rfl
@[simp] theorem blt_all : bltD .all (.list xs) = (boolsOf xs).map fun bs => .bool (bs.all id) := rfl
@[simp] theorem blt_any : bltD .any (.list xs) = (boolsOf xs).map fun bs => .bool (bs.any id) := rfl
@[simp] theorem blt_sum : bltD .sum (.list xs) = (intsOf xs).map fun ns => .int ns.sum := rfl
@[simp] theorem blt_abs : bltD .abs (.int a) = some (.int (if a < 0 then -a else a)) := rfl
@[simp] theorem blt_tupL : bltD .tuple (.list xs) = some (.tuple xs) := rfl
@[simp] theorem blt_tupT : bltD .tuple (.tuple xs) = some (.tuple xs) := rfl
@[simp] theorem blt_lstL : bltD .list (.list xs) = some (.list xs) := rfl
@[simp] theorem blt_lstT : bltD .list (.tuple xs) = some (.list xs) := rfl
theorem blt_str (h : a.natAbs.log2 < 1920) : bltD .str (.int a) = some (.str (toString a)) := by simp only [bltD, h, if_true]
@[simp] theorem bin_addI : binD .add (.int a) (.int b) = some (.int (a + b)) := rfl
@[simp] theorem bin_subI : binD .sub (.int a) (.int b) = some (.int (a - b)) := rfl
theorem bin_mulI (h : mulOk a b = true) : binD .mul (.int a) (.int b) = some (.int (a * b)) := by simp only [binD, h, if_true]
theorem bin_fdivI (h : divOk b = true) : binD .fdiv (.int a) (.int b) = some (.int (a / b)) := by simp only [binD, h, if_true]
theorem bin_modI (h : 0 < b) : binD .mod (.int a) (.int b) = some (.int (a % b)) := by simp only [binD, h, if_true]
theorem bin_addL (h : xs.length + ys.length ≤ lineN) : binD .add (.list xs) (.list ys) = some (.list (xs ++ ys)) := by simp only [binD, h, if_true]
theorem bin_addT (h : xs.length + ys.length ≤ lineN) : binD .add (.tuple xs) (.tuple ys) = some (.tuple (xs ++ ys)) := by simp only [binD, h, if_true]
@[simp] theorem ix_L : ixD (.list xs) (.int a) = atI xs a := rfl
@[simp] theorem ix_T : ixD (.tuple xs) (.int a) = atI xs a := rfl
@[simp] theorem sl_L (l u : Option Int) : slD (.list xs) l u = some (.list (cut xs l u)) := rfl
@[simp] theorem sl_T (l u : Option Int) : slD (.tuple xs) l u = some (.tuple (cut xs l u)) := rfl
@[simp] theorem rev_T : revD (.tuple xs) = some (.tuple xs.reverse) := rfl
@[simp] theorem cmp_ltI : cmpD .lt (.int a) (.int b) = some (decide (a < b)) := rfl
@[simp] theorem cmp_leI : cmpD .le (.int a) (.int b) = some (decide (a ≤ b)) := rfl
@[simp] theorem cmp_gtI : cmpD .gt (.int a) (.int b) = some (decide (b < a)) := rfl
@[simp] theorem cmp_geI : cmpD .ge (.int a) (.int b) = some (decide (b ≤ a)) := rfl
theorem cmp_eq (hx : SeqAt.shaped x = true) (hy : SeqAt.shaped y = true) : cmpD .eq x y = some (PyData.eqv x y) := by simp only [cmpD, hx, hy, Bool.and_self, if_true]
theorem cmp_ne (hx : SeqAt.shaped x = true) (hy : SeqAt.shaped y = true) : cmpD .ne x y = some (!PyData.eqv x y) := by simp only [cmpD, hx, hy, Bool.and_self, if_true]
@[simp] theorem cmp_eqI : cmpD .eq (.int a) (.int b) = some (PyData.eqv (.int a) (.int b)) := rfl
@[simp] theorem cmp_neI : cmpD .ne (.int a) (.int b) = some (!PyData.eqv (.int a) (.int b)) := rfl
end
def iD (ns : List Int) : List D := ns.map .int
@[simp] theorem iD_len (ns : List Int) : (iD ns).length = ns.length := by simp [iD]
@[simp] theorem iD_nil : iD [] = [] := rfl
@[simp] theorem iD_cons (n : Int) (ns : List Int) : iD (n :: ns) = .int n :: iD ns := rfl
@[simp] theorem iD_app (a b : List Int) : iD (a ++ b) = iD a ++ iD b := by simp [iD]
theorem iD_get (ns : List Int) (i : Nat) (h : i < ns.length) : (iD ns)[i]? = some (.int ns[i]) := by simp [iD, h]
@[simp] theorem intsOf_iD : ∀ ns : List Int, intsOf (iD ns) = some ns
  | [] => rfl
  | n :: ns => by simp [intsOf, intsOf_iD ns]
theorem maxI_some : ∀ ns : List Int, ns ≠ [] → ∃ m, maxI ns = some m
  | [], h => absurd rfl h
  | [a], _ => ⟨a, rfl⟩
  | a :: b :: r, _ => by
    obtain ⟨m, e⟩ := maxI_some (b :: r) (by simp)
    exact ⟨_, by simp only [maxI, e]; rfl⟩
theorem log2_le {x k : Nat} (hx : x < 2 ^ k) : x.log2 ≤ k := by
  by_cases z : x = 0
  · subst z; simp
  · exact Nat.le_of_lt ((Nat.log2_lt z).mpr hx)
theorem mulOk_of {a b : Int} (k m : Nat) (ha : a.natAbs < 2 ^ k) (hb : b.natAbs < 2 ^ m) (h : k + m < 1000000) : mulOk a b = true := by
  unfold mulOk
  have h1 := log2_le ha
  have h2 := log2_le hb
  exact decide_eq_true (by omega)
theorem compL_pure {α : Type} (f : D → PH → Rs (Option D)) (i : α → D) (g : α → Option D) (h : PH) : ∀ xs : List α, (∀ x ∈ xs, f (i x) h = .ok (g x) h) → compL f (xs.map i) h = .ok (xs.filterMap g) h
  | [], _ => rfl
  | x :: xs, hf => by
    simp only [List.map_cons, compL, hf x List.mem_cons_self, rs_ok, compL_pure f i g h xs fun y hy => hf y (List.mem_cons_of_mem _ hy)]
    cases e : g x <;> simp [List.filterMap_cons, e]
@[simp] theorem ixN_zero (n : Nat) : ixN (n + 1) 0 = some 0 := by
  unfold ixN
  rw [if_pos (Int.le_refl 0), if_pos (by omega)]
  rfl
@[simp] theorem atI_zero {α : Type} (x : α) (xs : List α) : atI (x :: xs) 0 = some x := by
  simp only [atI, List.length_cons, ixN_zero, Option.bind_some, List.getElem?_cons_zero]
theorem atI_of {α : Type} {xs : List α} {i : Int} (h0 : 0 ≤ i) (h1 : i < xs.length) : ∃ x ∈ xs, atI xs i = some x := by
  have hj : i.toNat < xs.length := by omega
  refine ⟨xs[i.toNat], List.getElem_mem hj, ?_⟩
  simp [atI, ixN, h0, h1]
theorem set_same {h : PH} {c : Nat} {x : Cl} (e : h[c]? = some x) : h.set c x = h := by
  apply List.ext_getElem?
  intro j
  rw [List.getElem?_set]
  split
  · rename_i z
    subst z
    split
    · exact e.symm
    · rename_i z; rw [List.getElem?_eq_none (by omega)] at e; cases e
  · rfl
theorem lt_of_get {h : PH} {c : Nat} {x : Cl} (e : h[c]? = some x) : c < h.length := by
  rcases Nat.lt_or_ge c h.length with z | z
  · exact z
  · rw [List.getElem?_eq_none z] at e; cases e
theorem appAt_ok {h : PH} {c : Nat} {xs : List D} {x : D} (e : h[c]? = some (.lst xs)) (hl : xs.length < lineN) : appAt c (.d x) h = .ok () (h.set c (.lst (xs ++ [x]))) := by
  simp only [appAt, e, hl, if_true]
theorem putAt_ok {h : PH} {c j : Nat} {i : Int} {xs : List D} {x : D} (e : h[c]? = some (.lst xs)) (hj : ixN xs.length i = some j) : putAt c (.d (.int i)) (.d x) h = .ok () (h.set c (.lst (xs.set j x))) := by
  simp only [putAt, e, hj]
theorem isC_ok {h : PH} {c : Nat} {xs : List D} (e : h[c]? = some (.lst xs)) : isC h c = true := by simp only [isC, e]
theorem get_set {h : PH} {c : Nat} {x y : Cl} (e : h[c]? = some x) : (h.set c y)[c]? = some y := by
  rw [List.getElem?_set_self (lt_of_get e)]
/-! ### a draw -/
theorem draw_ok {T : String → Option CDef} (hT : T "_law_draw" = some c__law_draw.c) (n : Nat) (ns : List Int) (hn : ns.length ≤ 63) (h : PH) (c : Nat) (xs : List Int) (hc : h[c]? = some (.lst (iD xs))) (hl : xs.length + 2 ≤ lineN) (many : Int) (hm : 0 < many) :
    ∃ (r : Int) (ys : List Int), run T (n + 1) "_law_draw" [.d (.list (iD ns)), .cell c, .d (.int many)] h = .ok (.d (.int r)) (h.set c (.lst (iD ys))) ∧ 0 ≤ r ∧ r < many ∧ ys.length ≤ xs.length + 2 := by
  rw [run_eq hT _ _ _ rfl]
  have hlt : c < h.length := lt_of_get hc
  have h64 : ns.length + 1 ≤ lineN := by unfold lineN; omega
  have h64' : ns.length ≤ lineN := by unfold lineN; omega
  simp only [c__law_draw, List.map_cons, List.map_nil, List.length_cons, List.length_nil, Nat.reduceAdd, Nat.reduceSub, List.replicate, List.cons_append, List.nil_append]
  have fst0 : ∃ xs1 : List Int, xs1 ≠ [] ∧ xs1.length ≤ xs.length + 1 ∧ ex (run T n) (.ite (.not (.var 1)) (.cons (.app 1 (.blt .max (.bin .add (.lc (.seq (.var 0)) (.nm 4) (.lit (.bl true)) (.blt .abs (.var 4)) [4]) (.lst (.cons (.lit (.int 0)) .nil))))) .nil) .nil) [some (.d (.list (iD ns))), some (.cell c), some (.d (.int many)), none, none, none, none, none] h = .ok (.nx [some (.d (.list (iD ns))), some (.cell c), some (.d (.int many)), none, none, none, none, none]) (h.set c (.lst (iD xs1))) := by
    cases xs with
    | cons x r =>
      refine ⟨x :: r, by simp, by simp, ?_⟩
      rw [set_same hc]
      simp [val_cell hc]
    | nil =>
      obtain ⟨m, em⟩ := maxI_some (ns.map (fun i => if i < 0 then -i else i) ++ [0]) (by simp)
      refine ⟨[m], by simp, by simp, ?_⟩
      have key := compL_pure (compF (.nm 4) [4] (fun σ h => ev (run T n) (.lit (.bl true)) σ h) (fun σ h => ev (run T n) (.blt .abs (.var 4)) σ h) [some (.d (.list (iD ns))), some (.cell c), some (.d (.int many)), none, none, none, none, none]) PyData.int (fun i => some (.int (if i < 0 then -i else i))) h ns (fun x _ => by simp [compF, wipeP, assignD])
      have key' : compL (compF (.nm 4) [4] (fun σ h => ev (run T n) (.lit (.bl true)) σ h) (fun σ h => ev (run T n) (.blt .abs (.var 4)) σ h) [some (.d (.list (iD ns))), some (.cell c), some (.d (.int many)), none, none, none, none, none]) (iD ns) h = .ok (iD (ns.map fun i => if i < 0 then -i else i)) h := by
        refine Eq.trans key ?_
        congr 1
        simp [iD, List.filterMap_eq_map, Function.comp_def]
      have e1 : ev (run T n) (.lc (.seq (.var 0)) (.nm 4) (.lit (.bl true)) (.blt .abs (.var 4)) [4]) [some (.d (.list (iD ns))), some (.cell c), some (.d (.int many)), none, none, none, none, none] h = .ok (.d (.list (iD (ns.map fun i => if i < 0 then -i else i)))) h := by
        rw [ev_24]
        simp only [evI_0, ev_0, List.getElem?_cons_zero, rs_ok, seqItems, ofO_some, iD_len, h64', if_true]
        rw [key']
        rfl
      have e2 : binD .add (.list (iD (ns.map fun i => if i < 0 then -i else i))) (.list [.int 0]) = some (.list (iD (ns.map (fun i => if i < 0 then -i else i) ++ [0]))) := by
        rw [bin_addL (by simpa using h64)]; simp
      rw [show ex (run T n) (.ite (.not (.var 1)) (.cons (.app 1 (.blt .max (.bin .add (.lc (.seq (.var 0)) (.nm 4) (.lit (.bl true)) (.blt .abs (.var 4)) [4]) (.lst (.cons (.lit (.int 0)) .nil))))) .nil) .nil) = _ from rfl]
      simp only [iD_nil] at hc
      simp [-ev_24, -iD_app, val_cell hc, isC_ok hc, e1, e2, em, appAt_ok (x := .int m) hc (by decide)]
  obtain ⟨xs1, hne, hl1, e⟩ := fst0
  rw [exB_1, e]
  simp only [rs_ok]
  obtain ⟨x0, r, rfl⟩ : ∃ x0 r, xs1 = x0 :: r := by
    cases xs1 with
    | nil => exact absurd rfl hne
    | cons x r => exact ⟨x, r, rfl⟩
  clear e hne
  have g1 : (h.set c (.lst (iD (x0 :: r))))[c]? = some (.lst (iD (x0 :: r))) := get_set hc
  have l1 : (iD (x0 :: r)).length < lineN := by rw [iD_len]; simp only [List.length_cons] at hl1 ⊢; omega
  have g2 : (h.set c (.lst (iD (x0 :: (r ++ [0])))))[c]? = some (.lst (iD (x0 :: (r ++ [0])))) := get_set hc
  have a1 : appAt c (.d (.int 0)) (h.set c (.lst (iD (x0 :: r)))) = .ok () (h.set c (.lst (iD (x0 :: (r ++ [0]))))) := by
    rw [appAt_ok g1 l1, List.set_set]; simp
  generalize hk : (((r ++ [0]).length + 1 : Nat) : Int) = k
  have hk0 : 0 ≤ k := by omega
  have cell : ∃ ce : Int, ∀ (h : PH) (p q : Option PV), ev (run T n) (.ife (.var 0) (.ix (.var 0) (.bin .mod (.var 3) (.blt .len (.var 0)))) (.lit (.int 0))) [some (.d (.list (iD ns))), some (.cell c), some (.d (.int many)), some (.d (.int k)), none, none, none, none] h = .ok (.d (.int ce)) h := by
    cases ns with
    | nil => exact ⟨0, fun h p q => by simp⟩
    | cons n0 ns =>
      have hp : (0 : Int) < ((n0 :: ns).length : Nat) := by simp only [List.length_cons]; omega
      obtain ⟨x, hx, ex⟩ := atI_of (xs := iD (n0 :: ns)) (i := k % ((n0 :: ns).length : Nat)) (Int.emod_nonneg _ (by omega)) (by rw [iD_len]; exact Int.emod_lt_of_pos _ hp)
      obtain ⟨ce, _, rfl⟩ := List.mem_map.mp hx
      refine ⟨ce, fun h p q => ?_⟩
      have bm := bin_modI (a := k) hp
      simp only [iD_cons, List.length_cons] at ex bm
      push_cast at ex bm
      simp [bm, ex]
  obtain ⟨ce, ece⟩ := cell
  have kb : k.natAbs < 2 ^ 30 := by
    simp only [List.length_append, List.length_cons, List.length_nil] at hk hl1
    unfold lineN at hl
    omega
  have b1 : binD .mod (.int x0) (.int 65536) = some (.int (x0 % 65536)) := bin_modI (by decide)
  have b2 : binD .fdiv (.int x0) (.int 65536) = some (.int (x0 / 65536)) := bin_fdivI (by decide)
  have d0 : 0 ≤ x0 % 65536 := Int.emod_nonneg _ (by decide)
  have d1 : x0 % 65536 < 65536 := Int.emod_lt_of_pos _ (by decide)
  generalize hd : x0 % 65536 = dg at b1 d0 d1
  have b3 : binD .mul (.int 40503) (.int dg) = some (.int (40503 * dg)) := bin_mulI (mulOk_of 16 17 (by decide) (by omega) (by decide))
  have b4 : binD .mul (.int 104729) (.int k) = some (.int (104729 * k)) := bin_mulI (mulOk_of 17 30 (by decide) kb (by decide))
  have b5 : binD .mod (.int (ce + 40503 * dg + 104729 * k)) (.int 4294967291) = some (.int ((ce + 40503 * dg + 104729 * k) % 4294967291)) := bin_modI (by decide)
  have n0 : 0 ≤ (ce + 40503 * dg + 104729 * k) % 4294967291 := Int.emod_nonneg _ (by decide)
  have n1 : (ce + 40503 * dg + 104729 * k) % 4294967291 < 4294967291 := Int.emod_lt_of_pos _ (by decide)
  generalize (ce + 40503 * dg + 104729 * k) % 4294967291 = nu at b5 n0 n1
  have sq : ∀ x : Int, 0 ≤ x → x < 4294967291 → mulOk x x = true := fun x h0 h1 => mulOk_of 32 32 (by omega) (by omega) (by decide)
  have md : ∀ x : Int, 0 ≤ x % 4294967279 ∧ x % 4294967279 < 4294967279 := fun x => ⟨Int.emod_nonneg _ (by decide), Int.emod_lt_of_pos _ (by decide)⟩
  have md' : ∀ x : Int, 0 ≤ x % 4294967291 ∧ x % 4294967291 < 4294967291 := fun x => ⟨Int.emod_nonneg _ (by decide), Int.emod_lt_of_pos _ (by decide)⟩
  have m1 : ∀ x : Int, mulOk (x % 4294967279) 48271 = true := fun x => mulOk_of 32 17 (by have := md x; omega) (by decide) (by decide)
  have m2 : ∀ x : Int, mulOk (x % 4294967279) 69621 = true := fun x => mulOk_of 32 18 (by have := md x; omega) (by decide) (by decide)
  have m3 : ∀ x : Int, 0 ≤ x → x < 4294967291 → mulOk (x / 64) 67108864 = true := fun x h0 h1 => mulOk_of 32 28 (by omega) (by decide) (by decide)
  have q1 : ∀ x : Int, binD .mod (.int x) (.int 4294967279) = some (.int (x % 4294967279)) := fun x => bin_modI (by decide)
  have q2 : ∀ x : Int, binD .mod (.int x) (.int 4294967291) = some (.int (x % 4294967291)) := fun x => bin_modI (by decide)
  have q3 : ∀ x : Int, binD .fdiv (.int x) (.int 64) = some (.int (x / 64)) := fun x => bin_fdivI (by decide)
  have b6 := bin_mulI (sq nu n0 n1)
  have b7 := fun x => bin_mulI (m1 x)
  have b8 := fun x => bin_mulI (m2 x)
  generalize hnu : (nu * nu % 4294967279 * 48271) % 4294967291 = nu2
  have nb : 0 ≤ nu2 ∧ nu2 < 4294967291 := by rw [← hnu]; exact md' _
  have b9 := bin_mulI (sq nu2 nb.1 nb.2)
  have b10 := bin_mulI (m3 nu2 nb.1 nb.2)
  refine ⟨_, (x0 / 65536) :: (r ++ [0]), ?_, Int.emod_nonneg (nu2 / 64 * 67108864 + (nu2 * nu2 % 4294967279 * 69621) % 4294967291 / 64) (by omega), Int.emod_lt_of_pos _ hm, by simp only [List.length_cons, List.length_append, List.length_nil] at hl1 ⊢; omega⟩
  have g3 : (h.set c (.lst (iD (x0 / 65536 :: (r ++ [0])))))[c]? = some (.lst (iD (x0 / 65536 :: (r ++ [0])))) := get_set hc
  have p1 : putAt c (.d (.int 0)) (.d (.int (x0 / 65536))) (h.set c (.lst (iD (x0 :: (r ++ [0]))))) = .ok () (h.set c (.lst (iD (x0 / 65536 :: (r ++ [0]))))) := by
    rw [putAt_ok (j := 0) g2 (by simp), List.set_set]
    rfl
  have at0 : atI (iD (x0 :: (r ++ [0]))) 0 = some (.int x0) := by simp
  have v2 := val_cell g2
  have bm := bin_modI (a := nu2 / 64 * 67108864 + (nu2 * nu2 % 4294967279 * 69621) % 4294967291 / 64) hm
  have ck : ((iD (x0 :: (r ++ [0]))).length : Int) = k := by rw [← hk, iD_len]; rfl
  simp only [exB_1, exB_0, ex_0, ex_6, ex_7, ev_0, List.getElem?_cons_zero, List.getElem?_cons_succ, isC_ok g1, if_true, ev_2, dat_int, rs_ok, a1, ev_18, v2, Option.bind_some, blt_lenL, Option.map_some, ofO_some, ck, List.set_cons_succ, List.set_cons_zero]
  rw [ece _ none none]
  simp only [rs_ok, ev_5, ev_15, ev_0, ev_2, dat_int, ex_8, List.getElem?_cons_zero, List.getElem?_cons_succ, v2, val_d, Option.bind_some, ix_L, at0, Option.map_some, ofO_some, b1, b2, p1, b3, b4, bin_addI, b5, b6, b7, q1, q2, hnu, b8, b9, b10, q3, bm, List.set_cons_succ, List.set_cons_zero, finish, leave]
  rw [List.take_of_length_le (by simp)]
end J
end JPure

section JStep
set_option Elab.async false
set_option linter.all false
set_option maxRecDepth 100000
set_option autoImplicit false
set_option maxHeartbeats 8000000
/-! J.Step: a block statement by statement. -/
namespace J
open PySem
section
variable {Γ : Fns} {e q k : CE} {i : Nat} {σ : PEnv} {h h1 h2 : PH} {v : PV} {r a b : CB} {x : D}
def kont (Γ : Fns) (r : CB) (f : Fl) (h : PH) : Rs Fl := match f with
  | .nx σ' => exB Γ r σ' h
  | .rt v => .ok (.rt v) h
@[simp] theorem kont_nx : kont Γ r (.nx σ) h = exB Γ r σ h := rfl
@[simp] theorem kont_rt : kont Γ r (.rt v) h = .ok (.rt v) h := rfl
theorem xb_cons {s : CS} : exB Γ (.cons s r) σ h = (ex Γ s σ h).bind (kont Γ r) := by
  rw [exB_1]
  rfl
theorem xb_asg (he : ev Γ e σ h = .ok v h1) : exB Γ (.cons (.asg i e) r) σ h = exB Γ r (σ.set i (some v)) h1 := by
  rw [xb_cons, ex_0, he]; rfl
theorem xb_asgC {xs : List D} (he : ev Γ e σ h = .ok (.d (.list xs)) h1) : exB Γ (.cons (.asgC i e) r) σ h = exB Γ r (σ.set i (some (.cell h1.length))) (h1 ++ [.lst xs]) := by
  rw [xb_cons, ex_2, he]; rfl
theorem xb_ret (he : ev Γ e σ h = .ok v h1) : exB Γ (.cons (.ret e) r) σ h = .ok (.rt v) h1 := by
  rw [xb_cons, ex_8, he]; rfl
theorem xb_expr (he : ev Γ e σ h = .ok v h1) : exB Γ (.cons (.expr e) r) σ h = exB Γ r σ h1 := by
  rw [xb_cons, ex_5, he]; rfl
theorem xb_app {n : Nat} {xs : List D} (hi : σ[i]? = some (some (.cell n))) (hc : isC h n = true) (he : ev Γ e σ h = .ok (.d x) h1) (hx : h1[n]? = some (.lst xs)) (hl : xs.length < lineN) : exB Γ (.cons (.app i e) r) σ h = exB Γ r σ (h1.set n (.lst (xs ++ [x]))) := by
  rw [xb_cons, ex_6, hi]
  simp only [hc, if_true, he, rs_ok, appAt_ok hx hl, kont_nx]
theorem xb_iteT (he : ev Γ q σ h = .ok v h1) (ht : (val h1 v).bind truD = some true) : exB Γ (.cons (.ite q a b) r) σ h = (exB Γ a σ h1).bind (kont Γ r) := by
  rw [xb_cons, ex_9, he]
  simp only [rs_ok, ht, ofO_some]
theorem xb_iteF (he : ev Γ q σ h = .ok v h1) (ht : (val h1 v).bind truD = some false) : exB Γ (.cons (.ite q a b) r) σ h = (exB Γ b σ h1).bind (kont Γ r) := by
  rw [xb_cons, ex_9, he]
  simp only [rs_ok, ht, ofO_some]
/-- an if without else that is not taken -/
theorem xb_skip (he : ev Γ q σ h = .ok v h1) (ht : (val h1 v).bind truD = some false) : exB Γ (.cons (.ite q a .nil) r) σ h = exB Γ r σ h1 := by
  rw [xb_iteF he ht, exB_0]; rfl
theorem xb_for {it : CI} {t : Tg} {xs : List D} (he : evI Γ it σ h = .ok xs h1) : exB Γ (.cons (.for_ it t b) r) σ h = (forL (fun x σ h => (ofO (assignD t x σ) h).bind fun σ' h => exB Γ b σ' h) xs σ h1).bind (kont Γ r) := by
  rw [xb_cons, ex_10, he]; rfl
theorem ev_at (hi : σ[i]? = some (some (.d x))) : ev Γ (.var i) σ h = .ok (.d x) h := by rw [ev_0, hi]
theorem ev_atC {n : Nat} (hi : σ[i]? = some (some (.cell n))) : ev Γ (.var i) σ h = .ok (.cell n) h := by rw [ev_0, hi]
theorem ev_atK (hi : σ[i]? = some (some (.k x))) : ev Γ (.var i) σ h = .ok (.d x) h := by rw [ev_0, hi]
theorem ev_call {f : String} {as : CA} {vs : List PV} (ha : evA Γ as σ h = .ok vs h1) : ev Γ (.call f as) σ h = Γ f vs h1 := by rw [ev_23, ha]; rfl
theorem ev_bin {o : Bin} {a b : CE} {u w : PV} {x y z : D} (ha : ev Γ a σ h = .ok u h1) (hb : ev Γ b σ h1 = .ok w h2) (hx : val h2 u = some x) (hy : val h2 w = some y) (hz : binD o x y = some z) : ev Γ (.bin o a b) σ h = .ok (.d z) h2 := by
  rw [ev_5, ha, rs_ok, hb, rs_ok, hx, hy]
  simp only [Option.bind_some, hz, Option.map_some, ofO_some]
theorem ev_cmp {o : Cmp} {a b : CE} {u w : PV} {x y : D} {z : Bool} (ha : ev Γ a σ h = .ok u h1) (hb : ev Γ b σ h1 = .ok w h2) (hx : val h2 u = some x) (hy : val h2 w = some y) (hz : cmpD o x y = some z) : ev Γ (.cmp o a b) σ h = .ok (.d (.bool z)) h2 := by
  rw [ev_8, ha, rs_ok, hb, rs_ok, hx, hy]
  simp only [Option.bind_some, hz, Option.map_some, ofO_some]
theorem ev_blt {f : Blt} {a : CE} {u : PV} {x z : D} (ha : ev Γ a σ h = .ok u h1) (hx : val h1 u = some x) (hz : bltD f x = some z) : ev Γ (.blt f a) σ h = .ok (.d z) h1 := by
  rw [ev_18, ha, rs_ok, hx]
  simp only [Option.bind_some, hz, Option.map_some, ofO_some]
theorem ev_ktup {a : CE} {u : PV} {xs : List D} (ha : ev Γ a σ h = .ok u h1) (hx : val h1 u = some (.list xs)) : ev Γ (.ktup a) σ h = .ok (.k (.tuple xs)) h1 := by
  rw [ev_27, ha, rs_ok, hx]
theorem ev_b2 {f : B2} {a b : CE} {u w : PV} {x y z : D} (ha : ev Γ a σ h = .ok u h1) (hb : ev Γ b σ h1 = .ok w h2) (hx : val h2 u = some x) (hy : val h2 w = some y) (hz : b2D f x y = some z) : ev Γ (.b2 f a b) σ h = .ok (.d z) h2 := by
  rw [ev_28, ha, rs_ok, hb, rs_ok, hx, hy]
  simp only [Option.bind_some, hz, Option.map_some, ofO_some]
/-! loops -/
theorem forL_nil (f : D → PEnv → PH → Rs Fl) : forL f [] σ h = .ok (.nx σ) h := rfl
theorem forL_cons (f : D → PEnv → PH → Rs Fl) (y : D) (ys : List D) {σ' : PEnv} (e : f y σ h = .ok (.nx σ') h1) : forL f (y :: ys) σ h = forL f ys σ' h1 := by
  simp only [forL, e, rs_ok]
/-- a loop that keeps an invariant and never returns -/
theorem forL_inv (f : D → PEnv → PH → Rs Fl) (I : Nat → PEnv → PH → Prop) (N : Nat) : ∀ (xs : List D) (j : Nat) (σ : PEnv) (h : PH), j + xs.length ≤ N → I j σ h → (∀ j x σ h, j < N → x ∈ xs → I j σ h → ∃ σ' h', f x σ h = .ok (.nx σ') h' ∧ I (j + 1) σ' h') → ∃ σ' h', forL f xs σ h = .ok (.nx σ') h' ∧ I (j + xs.length) σ' h'
  | [], j, σ, h, _, i, _ => ⟨σ, h, rfl, i⟩
  | x :: xs, j, σ, h, hN, i, s => by
    simp only [List.length_cons] at hN
    obtain ⟨σ1, h1, e, i1⟩ := s j x σ h (by omega) List.mem_cons_self i
    obtain ⟨σ2, h2, e2, i2⟩ := forL_inv f I N xs (j + 1) σ1 h1 (by omega) i1 fun j y σ h hj hy => s j y σ h hj (List.mem_cons_of_mem _ hy)
    refine ⟨σ2, h2, ?_, ?_⟩
    · rw [forL_cons f x xs e, e2]
    · rw [show j + (x :: xs).length = j + 1 + xs.length by simp only [List.length_cons]; omega]
      exact i2
end
end J
end JStep

section JU
set_option Elab.async false
set_option linter.all false
set_option maxRecDepth 100000
set_option autoImplicit false
set_option maxHeartbeats 8000000
/-! J.U: one table of all shared defs; a law's table reads the same. -/
namespace J
open PySem
mutual
/-- calls go to the named defs alone -/
def clE (S : List String) : CE → Bool
  | .var _ => true
  | .frz _ => true
  | .kvar _ => true
  | .lit _ => true
  | .ktup a => clE S a
  | .b2 _ a b => clE S a && clE S b
  | .tup es => clA S es
  | .lst es => clA S es
  | .bin _ a b => clE S a && clE S b
  | .neg a => clE S a
  | .not a => clE S a
  | .cmp _ a b => clE S a && clE S b
  | .chain _ _ a b c => clE S a && (clE S b && clE S c)
  | .isn a => clE S a
  | .notn a => clE S a
  | .and a b => clE S a && clE S b
  | .or a b => clE S a && clE S b
  | .ife c a b => clE S c && (clE S a && clE S b)
  | .ix a b => clE S a && clE S b
  | .sl a lo hi => clE S a && (clO S lo && clO S hi)
  | .rev a => clE S a
  | .blt _ a => clE S a
  | .min2 a b => clE S a && clE S b
  | .isi a _ => clE S a
  | .mth _ a b => clE S a && clE S b
  | .pop _ a => clE S a
  | .call f as => decide (f ∈ S) && clA S as
  | .lc it _ c e _ => clI S it && (clE S c && clE S e)
  | .lc2 it _ c it1 _ c1 e _ _ => clI S it && (clE S c && (clI S it1 && (clE S c1 && clE S e)))
def clA (S : List String) : CA → Bool
  | .nil => true
  | .cons a as => clE S a && clA S as
def clO (S : List String) : CO → Bool
  | .no => true
  | .so a => clE S a
def clI (S : List String) : CI → Bool
  | .seq a => clE S a
  | .rng a => clE S a
  | .rng2 a b => clE S a && clE S b
  | .zip a b => clE S a && clE S b
  | .enum a => clE S a
end
mutual
def clS (S : List String) : CS → Bool
  | .asg _ e => clE S e
  | .asgT _ e => clE S e
  | .asgC _ e => clE S e
  | .par _ es => clA S es
  | .aug _ e => clE S e
  | .expr e => clE S e
  | .app _ e => clE S e
  | .put _ k e => clE S k && clE S e
  | .ret e => clE S e
  | .ite c a b => clE S c && (clB S a && clB S b)
  | .for_ it _ b => clI S it && clB S b
  | .whl c b => clE S c && clB S b
  | .raise _ => true
  | .try_ e _ => clE S e
  | .pass => true
def clB (S : List String) : CB → Bool
  | .nil => true
  | .cons s b => clS S s && clB S b
end
section
variable {Γ Δ : Fns} {S : List String}
mutual
theorem agE (a : ∀ f ∈ S, Γ f = Δ f) : ∀ c : CE, clE S c = true → ev Γ c = ev Δ c
  | .var _, _ => by funext σ h; simp only [ev_0]
  | .frz _, _ => by funext σ h; simp only [ev_1]
  | .kvar _, _ => by funext σ h; simp only [ev_26]
  | .lit _, _ => by funext σ h; simp only [ev_2]
  | .ktup e, hc => by
    simp only [clE] at hc
    funext σ h; simp only [ev_27, agE a e hc]
  | .b2 _ x y, hc => by
    simp only [clE, Bool.and_eq_true] at hc
    funext σ h; simp only [ev_28, agE a x hc.1, agE a y hc.2]
  | .tup es, hc => by
    simp only [clE] at hc
    funext σ h; simp only [ev_3, agD a es hc]
  | .lst es, hc => by
    simp only [clE] at hc
    funext σ h; simp only [ev_4, agD a es hc]
  | .bin _ x y, hc => by
    simp only [clE, Bool.and_eq_true] at hc
    funext σ h; simp only [ev_5, agE a x hc.1, agE a y hc.2]
  | .neg e, hc => by
    simp only [clE] at hc
    funext σ h; simp only [ev_6, agE a e hc]
  | .not e, hc => by
    simp only [clE] at hc
    funext σ h; simp only [ev_7, agE a e hc]
  | .cmp _ x y, hc => by
    simp only [clE, Bool.and_eq_true] at hc
    funext σ h; simp only [ev_8, agE a x hc.1, agE a y hc.2]
  | .chain _ _ x y z, hc => by
    simp only [clE, Bool.and_eq_true] at hc
    funext σ h; simp only [ev_9, agE a x hc.1, agE a y hc.2.1, agE a z hc.2.2]
  | .isn e, hc => by
    simp only [clE] at hc
    funext σ h; simp only [ev_10, agE a e hc]
  | .notn e, hc => by
    simp only [clE] at hc
    funext σ h; simp only [ev_11, agE a e hc]
  | .and x y, hc => by
    simp only [clE, Bool.and_eq_true] at hc
    funext σ h; simp only [ev_12, agE a x hc.1, agE a y hc.2]
  | .or x y, hc => by
    simp only [clE, Bool.and_eq_true] at hc
    funext σ h; simp only [ev_13, agE a x hc.1, agE a y hc.2]
  | .ife x y z, hc => by
    simp only [clE, Bool.and_eq_true] at hc
    funext σ h; simp only [ev_14, agE a x hc.1, agE a y hc.2.1, agE a z hc.2.2]
  | .ix x y, hc => by
    simp only [clE, Bool.and_eq_true] at hc
    funext σ h; simp only [ev_15, agE a x hc.1, agE a y hc.2]
  | .sl x lo hi, hc => by
    simp only [clE, Bool.and_eq_true] at hc
    funext σ h; simp only [ev_16, agE a x hc.1, agO a lo hc.2.1, agO a hi hc.2.2]
  | .rev e, hc => by
    simp only [clE] at hc
    funext σ h; simp only [ev_17, agE a e hc]
  | .blt _ e, hc => by
    simp only [clE] at hc
    funext σ h; simp only [ev_18, agE a e hc]
  | .min2 x y, hc => by
    simp only [clE, Bool.and_eq_true] at hc
    funext σ h; simp only [ev_19, agE a x hc.1, agE a y hc.2]
  | .isi e _, hc => by
    simp only [clE] at hc
    funext σ h; simp only [ev_20, agE a e hc]
  | .mth _ x y, hc => by
    simp only [clE, Bool.and_eq_true] at hc
    funext σ h; simp only [ev_21, agE a x hc.1, agE a y hc.2]
  | .pop _ e, hc => by
    simp only [clE] at hc
    funext σ h; simp only [ev_22, agE a e hc]
  | .call f as, hc => by
    simp only [clE, Bool.and_eq_true, decide_eq_true_eq] at hc
    funext σ h; simp only [ev_23, agA a as hc.2, a f hc.1]
  | .lc it _ c e _, hc => by
    simp only [clE, Bool.and_eq_true] at hc
    funext σ h; simp only [ev_24, agI a it hc.1, agE a c hc.2.1, agE a e hc.2.2]
  | .lc2 it _ c it1 _ c1 e _ _, hc => by
    simp only [clE, Bool.and_eq_true] at hc
    funext σ h; simp only [ev_25, agI a it hc.1, agE a c hc.2.1, agI a it1 hc.2.2.1, agE a c1 hc.2.2.2.1, agE a e hc.2.2.2.2]
theorem agA (a : ∀ f ∈ S, Γ f = Δ f) : ∀ c : CA, clA S c = true → evA Γ c = evA Δ c
  | .nil, _ => by funext σ h; simp only [evA_0]
  | .cons x y, hc => by
    simp only [clA, Bool.and_eq_true] at hc
    funext σ h; simp only [evA_1, agE a x hc.1, agA a y hc.2]
theorem agD (a : ∀ f ∈ S, Γ f = Δ f) : ∀ c : CA, clA S c = true → evD Γ c = evD Δ c
  | .nil, _ => by funext σ h; simp only [evD_0]
  | .cons x y, hc => by
    simp only [clA, Bool.and_eq_true] at hc
    funext σ h; simp only [evD_1, agE a x hc.1, agD a y hc.2]
theorem agO (a : ∀ f ∈ S, Γ f = Δ f) : ∀ c : CO, clO S c = true → evO Γ c = evO Δ c
  | .no, _ => by funext σ h; simp only [evO_0]
  | .so x, hc => by
    simp only [clO] at hc
    funext σ h; simp only [evO_1, agE a x hc]
theorem agI (a : ∀ f ∈ S, Γ f = Δ f) : ∀ c : CI, clI S c = true → evI Γ c = evI Δ c
  | .seq x, hc => by
    simp only [clI] at hc
    funext σ h; simp only [evI_0, agE a x hc]
  | .rng x, hc => by
    simp only [clI] at hc
    funext σ h; simp only [evI_1, agE a x hc]
  | .rng2 x y, hc => by
    simp only [clI, Bool.and_eq_true] at hc
    funext σ h; simp only [evI_2, agE a x hc.1, agE a y hc.2]
  | .zip x y, hc => by
    simp only [clI, Bool.and_eq_true] at hc
    funext σ h; simp only [evI_3, agE a x hc.1, agE a y hc.2]
  | .enum x, hc => by
    simp only [clI] at hc
    funext σ h; simp only [evI_4, agE a x hc]
end
theorem agP (a : ∀ f ∈ S, Γ f = Δ f) : ∀ (is : List (Nat × Bool)) (c : CA), clA S c = true → ∀ σ h, evP Γ is c σ h = evP Δ is c σ h
  | [], .nil, _, _, _ => rfl
  | [], .cons _ _, _, _, _ => rfl
  | _ :: _, .nil, _, _, _ => by simp only [evP]
  | (_, false) :: is, .cons x y, hc, σ, h => by
    simp only [clA, Bool.and_eq_true] at hc
    simp only [evP, agE a x hc.1, agP a is y hc.2]
  | (_, true) :: is, .cons x y, hc, σ, h => by
    simp only [clA, Bool.and_eq_true] at hc
    simp only [evP, agE a x hc.1, agP a is y hc.2]
mutual
theorem agS (a : ∀ f ∈ S, Γ f = Δ f) : ∀ c : CS, clS S c = true → ex Γ c = ex Δ c
  | .asg _ e, hc => by
    simp only [clS] at hc
    funext σ h; simp only [ex_0, agE a e hc]
  | .asgT _ e, hc => by
    simp only [clS] at hc
    funext σ h; simp only [ex_1, agE a e hc]
  | .asgC _ e, hc => by
    simp only [clS] at hc
    funext σ h; simp only [ex_2, agE a e hc]
  | .par is es, hc => by
    simp only [clS] at hc
    funext σ h; simp only [ex_3, agP a is es hc]
  | .aug _ e, hc => by
    simp only [clS] at hc
    funext σ h; simp only [ex_4, agE a e hc]
  | .expr e, hc => by
    simp only [clS] at hc
    funext σ h; simp only [ex_5, agE a e hc]
  | .app _ e, hc => by
    simp only [clS] at hc
    funext σ h; simp only [ex_6, agE a e hc]
  | .put _ k e, hc => by
    simp only [clS, Bool.and_eq_true] at hc
    funext σ h; simp only [ex_7, agE a k hc.1, agE a e hc.2]
  | .ret e, hc => by
    simp only [clS] at hc
    funext σ h; simp only [ex_8, agE a e hc]
  | .ite c x y, hc => by
    simp only [clS, Bool.and_eq_true] at hc
    funext σ h; simp only [ex_9, agE a c hc.1, agB a x hc.2.1, agB a y hc.2.2]
  | .for_ it _ b, hc => by
    simp only [clS, Bool.and_eq_true] at hc
    funext σ h; simp only [ex_10, agI a it hc.1, agB a b hc.2]
  | .whl c b, hc => by
    simp only [clS, Bool.and_eq_true] at hc
    funext σ h; simp only [ex_11, agE a c hc.1, agB a b hc.2]
  | .raise _, _ => by funext σ h; simp only [ex_12]
  | .try_ e _, hc => by
    simp only [clS] at hc
    funext σ h; simp only [ex_13, agE a e hc]
  | .pass, _ => by funext σ h; simp only [ex_14]
theorem agB (a : ∀ f ∈ S, Γ f = Δ f) : ∀ c : CB, clB S c = true → exB Γ c = exB Δ c
  | .nil, _ => by funext σ h; simp only [exB_0]
  | .cons s b, hc => by
    simp only [clB, Bool.and_eq_true] at hc
    funext σ h; simp only [exB_1, agS a s hc.1, agB a b hc.2]
end
end
def clT (S : List String) (T : String → Option CDef) : Bool := S.all fun f => match T f with | some c => clB S c.body | none => true
theorem run_ag {T V : String → Option CDef} {S : List String} (hT : ∀ f ∈ S, T f = V f) (hc : clT S V = true) : ∀ n, ∀ f ∈ S, run T n f = run V n f
  | 0, f, _ => by funext vs h; rfl
  | n + 1, f, hf => by
    funext vs h
    simp only [run, hT f hf]
    cases e : V f with
    | none => rfl
    | some c =>
      have := List.all_eq_true.mp hc f hf
      rw [e] at this
      simp only [body, agB (run_ag hT hc n) c.body this]
/-- the table of all shared defs -/
def U : String → Option CDef := tabOf uDefs
end J
end JU

section C07
set_option Elab.async false
set_option linter.all false
set_option maxRecDepth 100000
set_option autoImplicit false
set_option maxHeartbeats 0
/-! the core of the law's defs (printed by gen.py), checked against the row -/
namespace J
open PySem PySem.Spec PyProof.Rows L2
def c_law : DI := ⟨"law", ["script", "state", "k", "collection", "measure", "low", "high", "own", "now", "document", "entries", "ranking", "left", "right"], ⟨1, 14, (.cons (.asgC 1 (.lst .nil)) (.cons (.for_ (.rng (.lit (.int 7))) (.nm 2) (.cons (.asg 3 (.call "_law_collection" (.cons (.var 0) (.cons (.var 1) (.cons (.lit (.int 7)) .nil))))) (.cons (.par [(10, false), (11, false)] (.cons (.call "_law_entries" (.cons (.var 0) (.cons (.var 1) (.cons (.var 3) .nil)))) (.cons (.call "_law_ranking" (.cons (.var 0) (.cons (.var 1) (.cons (.var 3) .nil)))) .nil))) (.cons (.asg 4 (.call "_law_measure" (.cons (.var 0) (.cons (.var 1) .nil)))) (.cons (.asg 5 (.call "least" (.cons (.var 3) (.cons (.var 10) (.cons (.var 11) (.cons (.var 4) .nil)))))) (.cons (.asg 6 (.call "greatest" (.cons (.var 3) (.cons (.var 10) (.cons (.var 11) (.cons (.var 4) .nil)))))) (.cons (.asg 7 (.call "value" (.cons (.var 3) (.cons (.call "_law_pick" (.cons (.var 0) (.cons (.var 1) (.cons (.call "completions" (.cons (.var 3) (.cons (.var 10) .nil))) .nil)))) (.cons (.var 11) (.cons (.var 4) .nil)))))) (.cons (.ite (.or (.call "_law_below" (.cons (.var 7) (.cons (.var 5) .nil))) (.call "_law_below" (.cons (.var 6) (.cons (.var 7) .nil)))) (.cons (.ret (.lit (.bl false))) .nil) .nil) (.cons (.ite (.cmp .nin (.var 7) (.call "possible_values" (.cons (.var 3) (.cons (.var 10) (.cons (.var 11) (.cons (.var 4) .nil)))))) (.cons (.ret (.lit (.bl false))) .nil) .nil) (.cons (.ite (.cmp .ne (.call "value" (.cons (.var 3) (.cons (.call "least_completion" (.cons (.var 3) (.cons (.var 10) (.cons (.var 11) (.cons (.var 4) .nil))))) (.cons (.var 11) (.cons (.var 4) .nil))))) (.var 5)) (.cons (.ret (.lit (.bl false))) .nil) .nil) (.cons (.ite (.cmp .ne (.call "value" (.cons (.var 3) (.cons (.call "greatest_completion" (.cons (.var 3) (.cons (.var 10) (.cons (.var 11) (.cons (.var 4) .nil))))) (.cons (.var 11) (.cons (.var 4) .nil))))) (.var 6)) (.cons (.ret (.lit (.bl false))) .nil) .nil) (.cons (.asg 8 (.var 10)) (.cons (.for_ (.seq (.call "_law_shuffled" (.cons (.var 0) (.cons (.var 1) (.cons (.call "unjudged" (.cons (.var 3) (.cons (.var 10) .nil))) .nil))))) (.nm 9) (.cons (.asg 8 (.call "with_judgement" (.cons (.kvar 3) (.cons (.var 8) (.cons (.var 9) (.cons (.call "_law_draw" (.cons (.var 0) (.cons (.var 1) (.cons (.lit (.int 2)) .nil)))) .nil)))))) (.cons (.par [(12, false), (13, false)] (.cons (.call "least" (.cons (.var 3) (.cons (.var 8) (.cons (.var 11) (.cons (.var 4) .nil))))) (.cons (.call "greatest" (.cons (.var 3) (.cons (.var 8) (.cons (.var 11) (.cons (.var 4) .nil))))) .nil))) (.cons (.ite (.or (.call "_law_below" (.cons (.var 12) (.cons (.var 5) .nil))) (.call "_law_below" (.cons (.var 6) (.cons (.var 13) .nil)))) (.cons (.ret (.lit (.bl false))) .nil) .nil) (.cons (.par [(5, false), (6, false)] (.cons (.var 12) (.cons (.var 13) .nil))) .nil))))) (.cons (.ite (.cmp .ne (.var 5) (.var 6)) (.cons (.ret (.lit (.bl false))) .nil) .nil) (.cons (.ite (.cmp .in_ (.ix (.var 4) (.lit (.int 0))) (.tup (.cons (.lit (.str "precision")) (.cons (.lit (.str "reciprocal")) (.cons (.lit (.str "gain")) .nil))))) (.cons (.asg 7 (.call "value" (.cons (.var 3) (.cons (.call "assumed" (.cons (.var 3) (.cons (.var 10) .nil))) (.cons (.var 11) (.cons (.var 4) .nil)))))) (.cons (.ite (.cmp .ne (.var 7) (.call "least" (.cons (.var 3) (.cons (.var 10) (.cons (.var 11) (.cons (.var 4) .nil)))))) (.cons (.ret (.lit (.bl false))) .nil) .nil) .nil)) .nil) .nil))))))))))))))) (.cons (.ret (.lit (.bl true))) .nil)))⟩⟩
def cDefs : List DI := [c_is_integer, c_is_ascending, c_is_document, c_is_collection, c_require_collection, c_is_valid_ranking, c_require_ranking, c_are_valid_judgements, c_require_judgements, c_all_completions, c_completions, c_open_documents, c_unjudged, c_changed, c_require_document, c_with_judgement, c_is_measure, c_require_measure, c_lowest_terms, c_added, c_is_below, c_hits_of, c_gain_of, c_average_of, c_value_of, c_require_complete, c_value, c_values_of, c_lowest, c_highest, c_checked_values, c_least, c_greatest, c_least_completion, c_greatest_completion, c_possible_values, c_assumed, c__law_draw, c__law_pick, c__law_shuffled, c__law_collection, c__law_ranking, c__law_entries, c__law_measure, c__law_below, c_law]
def cBs : List String := ["isinstance", "bool", "int", "all", "zip", "len", "str", "tuple", "set", "abs", "dict", "enumerate", "sum", "min", "max", "list", "sorted", "range"]
def cEs : List String := ["InvalidCollection", "InvalidRanking", "InvalidJudgements", "InvalidDocument", "InvalidEntry", "InvalidMeasure", "Incomplete"]

def st0 : CS := (.asg 3 (.call "_law_collection" (.cons (.var 0) (.cons (.var 1) (.cons (.lit (.int 7)) .nil)))))
def st1 : CS := (.par [(10, false), (11, false)] (.cons (.call "_law_entries" (.cons (.var 0) (.cons (.var 1) (.cons (.var 3) .nil)))) (.cons (.call "_law_ranking" (.cons (.var 0) (.cons (.var 1) (.cons (.var 3) .nil)))) .nil)))
def st2 : CS := (.asg 4 (.call "_law_measure" (.cons (.var 0) (.cons (.var 1) .nil))))
def st3 : CS := (.asg 5 (.call "least" (.cons (.var 3) (.cons (.var 10) (.cons (.var 11) (.cons (.var 4) .nil))))))
def st4 : CS := (.asg 6 (.call "greatest" (.cons (.var 3) (.cons (.var 10) (.cons (.var 11) (.cons (.var 4) .nil))))))
def st5 : CS := (.asg 7 (.call "value" (.cons (.var 3) (.cons (.call "_law_pick" (.cons (.var 0) (.cons (.var 1) (.cons (.call "completions" (.cons (.var 3) (.cons (.var 10) .nil))) .nil)))) (.cons (.var 11) (.cons (.var 4) .nil))))))
def st6 : CS := (.ite (.or (.call "_law_below" (.cons (.var 7) (.cons (.var 5) .nil))) (.call "_law_below" (.cons (.var 6) (.cons (.var 7) .nil)))) (.cons (.ret (.lit (.bl false))) .nil) .nil)
def st7 : CS := (.ite (.cmp .nin (.var 7) (.call "possible_values" (.cons (.var 3) (.cons (.var 10) (.cons (.var 11) (.cons (.var 4) .nil)))))) (.cons (.ret (.lit (.bl false))) .nil) .nil)
def st8 : CS := (.ite (.cmp .ne (.call "value" (.cons (.var 3) (.cons (.call "least_completion" (.cons (.var 3) (.cons (.var 10) (.cons (.var 11) (.cons (.var 4) .nil))))) (.cons (.var 11) (.cons (.var 4) .nil))))) (.var 5)) (.cons (.ret (.lit (.bl false))) .nil) .nil)
def st9 : CS := (.ite (.cmp .ne (.call "value" (.cons (.var 3) (.cons (.call "greatest_completion" (.cons (.var 3) (.cons (.var 10) (.cons (.var 11) (.cons (.var 4) .nil))))) (.cons (.var 11) (.cons (.var 4) .nil))))) (.var 6)) (.cons (.ret (.lit (.bl false))) .nil) .nil)
def st10 : CS := (.asg 8 (.var 10))
def st11 : CS := (.for_ (.seq (.call "_law_shuffled" (.cons (.var 0) (.cons (.var 1) (.cons (.call "unjudged" (.cons (.var 3) (.cons (.var 10) .nil))) .nil))))) (.nm 9) (.cons (.asg 8 (.call "with_judgement" (.cons (.kvar 3) (.cons (.var 8) (.cons (.var 9) (.cons (.call "_law_draw" (.cons (.var 0) (.cons (.var 1) (.cons (.lit (.int 2)) .nil)))) .nil)))))) (.cons (.par [(12, false), (13, false)] (.cons (.call "least" (.cons (.var 3) (.cons (.var 8) (.cons (.var 11) (.cons (.var 4) .nil))))) (.cons (.call "greatest" (.cons (.var 3) (.cons (.var 8) (.cons (.var 11) (.cons (.var 4) .nil))))) .nil))) (.cons (.ite (.or (.call "_law_below" (.cons (.var 12) (.cons (.var 5) .nil))) (.call "_law_below" (.cons (.var 6) (.cons (.var 13) .nil)))) (.cons (.ret (.lit (.bl false))) .nil) .nil) (.cons (.par [(5, false), (6, false)] (.cons (.var 12) (.cons (.var 13) .nil))) .nil)))))
def st12 : CS := (.ite (.cmp .ne (.var 5) (.var 6)) (.cons (.ret (.lit (.bl false))) .nil) .nil)
def st13 : CS := (.ite (.cmp .in_ (.ix (.var 4) (.lit (.int 0))) (.tup (.cons (.lit (.str "precision")) (.cons (.lit (.str "reciprocal")) (.cons (.lit (.str "gain")) .nil))))) (.cons (.asg 7 (.call "value" (.cons (.var 3) (.cons (.call "assumed" (.cons (.var 3) (.cons (.var 10) .nil))) (.cons (.var 11) (.cons (.var 4) .nil)))))) (.cons (.ite (.cmp .ne (.var 7) (.call "least" (.cons (.var 3) (.cons (.var 10) (.cons (.var 11) (.cons (.var 4) .nil)))))) (.cons (.ret (.lit (.bl false))) .nil) .nil) .nil)) .nil)
abbrev L14 : CB := .nil
def L13 : CB := .cons st13 L14
def L12 : CB := .cons st12 L13
def L11 : CB := .cons st11 L12
def L10 : CB := .cons st10 L11
def L9 : CB := .cons st9 L10
def L8 : CB := .cons st8 L9
def L7 : CB := .cons st7 L8
def L6 : CB := .cons st6 L7
def L5 : CB := .cons st5 L6
def L4 : CB := .cons st4 L5
def L3 : CB := .cons st3 L4
def L2 : CB := .cons st2 L3
def L1 : CB := .cons st1 L2
def L0 : CB := .cons st0 L1
theorem body_eq : c_law.c.body = (.cons (.asgC 1 (.lst .nil)) (.cons (.for_ (.rng (.lit (.int 7))) (.nm 2) L0) (.cons (.ret (.lit (.bl true))) .nil))) := rfl
def cT : String → Option CDef := tabOf cDefs
def cS : List String := ["is_integer", "is_ascending", "is_document", "is_collection", "require_collection", "is_valid_ranking", "require_ranking", "are_valid_judgements", "require_judgements", "all_completions", "completions", "open_documents", "unjudged", "changed", "require_document", "with_judgement", "is_measure", "require_measure", "lowest_terms", "added", "is_below", "hits_of", "gain_of", "average_of", "value_of", "require_complete", "value", "values_of", "lowest", "highest", "checked_values", "least", "greatest", "least_completion", "greatest_completion", "possible_values", "assumed", "_law_draw", "_law_pick", "_law_shuffled", "_law_collection", "_law_ranking", "_law_entries", "_law_measure", "_law_below"]
theorem cAg : ∀ n, ∀ f ∈ cS, run cT n f = run U n f := run_ag (List.forall_mem_cons.mpr ⟨rfl, List.forall_mem_cons.mpr ⟨rfl, List.forall_mem_cons.mpr ⟨rfl, List.forall_mem_cons.mpr ⟨rfl, List.forall_mem_cons.mpr ⟨rfl, List.forall_mem_cons.mpr ⟨rfl, List.forall_mem_cons.mpr ⟨rfl, List.forall_mem_cons.mpr ⟨rfl, List.forall_mem_cons.mpr ⟨rfl, List.forall_mem_cons.mpr ⟨rfl, List.forall_mem_cons.mpr ⟨rfl, List.forall_mem_cons.mpr ⟨rfl, List.forall_mem_cons.mpr ⟨rfl, List.forall_mem_cons.mpr ⟨rfl, List.forall_mem_cons.mpr ⟨rfl, List.forall_mem_cons.mpr ⟨rfl, List.forall_mem_cons.mpr ⟨rfl, List.forall_mem_cons.mpr ⟨rfl, List.forall_mem_cons.mpr ⟨rfl, List.forall_mem_cons.mpr ⟨rfl, List.forall_mem_cons.mpr ⟨rfl, List.forall_mem_cons.mpr ⟨rfl, List.forall_mem_cons.mpr ⟨rfl, List.forall_mem_cons.mpr ⟨rfl, List.forall_mem_cons.mpr ⟨rfl, List.forall_mem_cons.mpr ⟨rfl, List.forall_mem_cons.mpr ⟨rfl, List.forall_mem_cons.mpr ⟨rfl, List.forall_mem_cons.mpr ⟨rfl, List.forall_mem_cons.mpr ⟨rfl, List.forall_mem_cons.mpr ⟨rfl, List.forall_mem_cons.mpr ⟨rfl, List.forall_mem_cons.mpr ⟨rfl, List.forall_mem_cons.mpr ⟨rfl, List.forall_mem_cons.mpr ⟨rfl, List.forall_mem_cons.mpr ⟨rfl, List.forall_mem_cons.mpr ⟨rfl, List.forall_mem_cons.mpr ⟨rfl, List.forall_mem_cons.mpr ⟨rfl, List.forall_mem_cons.mpr ⟨rfl, List.forall_mem_cons.mpr ⟨rfl, List.forall_mem_cons.mpr ⟨rfl, List.forall_mem_cons.mpr ⟨rfl, List.forall_mem_cons.mpr ⟨rfl, List.forall_mem_cons.mpr ⟨rfl, (fun _ h => nomatch h)⟩⟩⟩⟩⟩⟩⟩⟩⟩⟩⟩⟩⟩⟩⟩⟩⟩⟩⟩⟩⟩⟩⟩⟩⟩⟩⟩⟩⟩⟩⟩⟩⟩⟩⟩⟩⟩⟩⟩⟩⟩⟩⟩⟩⟩) (by decide +kernel)
@[simp] theorem cq_is_integer (n : Nat) (vs : List PV) (h : PH) : run cT n "is_integer" vs h = run U n "is_integer" vs h := by rw [cAg n "is_integer" (by decide +kernel)]
@[simp] theorem cq_is_ascending (n : Nat) (vs : List PV) (h : PH) : run cT n "is_ascending" vs h = run U n "is_ascending" vs h := by rw [cAg n "is_ascending" (by decide +kernel)]
@[simp] theorem cq_is_document (n : Nat) (vs : List PV) (h : PH) : run cT n "is_document" vs h = run U n "is_document" vs h := by rw [cAg n "is_document" (by decide +kernel)]
@[simp] theorem cq_is_collection (n : Nat) (vs : List PV) (h : PH) : run cT n "is_collection" vs h = run U n "is_collection" vs h := by rw [cAg n "is_collection" (by decide +kernel)]
@[simp] theorem cq_require_collection (n : Nat) (vs : List PV) (h : PH) : run cT n "require_collection" vs h = run U n "require_collection" vs h := by rw [cAg n "require_collection" (by decide +kernel)]
@[simp] theorem cq_is_valid_ranking (n : Nat) (vs : List PV) (h : PH) : run cT n "is_valid_ranking" vs h = run U n "is_valid_ranking" vs h := by rw [cAg n "is_valid_ranking" (by decide +kernel)]
@[simp] theorem cq_require_ranking (n : Nat) (vs : List PV) (h : PH) : run cT n "require_ranking" vs h = run U n "require_ranking" vs h := by rw [cAg n "require_ranking" (by decide +kernel)]
@[simp] theorem cq_are_valid_judgements (n : Nat) (vs : List PV) (h : PH) : run cT n "are_valid_judgements" vs h = run U n "are_valid_judgements" vs h := by rw [cAg n "are_valid_judgements" (by decide +kernel)]
@[simp] theorem cq_require_judgements (n : Nat) (vs : List PV) (h : PH) : run cT n "require_judgements" vs h = run U n "require_judgements" vs h := by rw [cAg n "require_judgements" (by decide +kernel)]
@[simp] theorem cq_all_completions (n : Nat) (vs : List PV) (h : PH) : run cT n "all_completions" vs h = run U n "all_completions" vs h := by rw [cAg n "all_completions" (by decide +kernel)]
@[simp] theorem cq_completions (n : Nat) (vs : List PV) (h : PH) : run cT n "completions" vs h = run U n "completions" vs h := by rw [cAg n "completions" (by decide +kernel)]
@[simp] theorem cq_open_documents (n : Nat) (vs : List PV) (h : PH) : run cT n "open_documents" vs h = run U n "open_documents" vs h := by rw [cAg n "open_documents" (by decide +kernel)]
@[simp] theorem cq_unjudged (n : Nat) (vs : List PV) (h : PH) : run cT n "unjudged" vs h = run U n "unjudged" vs h := by rw [cAg n "unjudged" (by decide +kernel)]
@[simp] theorem cq_changed (n : Nat) (vs : List PV) (h : PH) : run cT n "changed" vs h = run U n "changed" vs h := by rw [cAg n "changed" (by decide +kernel)]
@[simp] theorem cq_require_document (n : Nat) (vs : List PV) (h : PH) : run cT n "require_document" vs h = run U n "require_document" vs h := by rw [cAg n "require_document" (by decide +kernel)]
@[simp] theorem cq_with_judgement (n : Nat) (vs : List PV) (h : PH) : run cT n "with_judgement" vs h = run U n "with_judgement" vs h := by rw [cAg n "with_judgement" (by decide +kernel)]
@[simp] theorem cq_is_measure (n : Nat) (vs : List PV) (h : PH) : run cT n "is_measure" vs h = run U n "is_measure" vs h := by rw [cAg n "is_measure" (by decide +kernel)]
@[simp] theorem cq_require_measure (n : Nat) (vs : List PV) (h : PH) : run cT n "require_measure" vs h = run U n "require_measure" vs h := by rw [cAg n "require_measure" (by decide +kernel)]
@[simp] theorem cq_lowest_terms (n : Nat) (vs : List PV) (h : PH) : run cT n "lowest_terms" vs h = run U n "lowest_terms" vs h := by rw [cAg n "lowest_terms" (by decide +kernel)]
@[simp] theorem cq_added (n : Nat) (vs : List PV) (h : PH) : run cT n "added" vs h = run U n "added" vs h := by rw [cAg n "added" (by decide +kernel)]
@[simp] theorem cq_is_below (n : Nat) (vs : List PV) (h : PH) : run cT n "is_below" vs h = run U n "is_below" vs h := by rw [cAg n "is_below" (by decide +kernel)]
@[simp] theorem cq_hits_of (n : Nat) (vs : List PV) (h : PH) : run cT n "hits_of" vs h = run U n "hits_of" vs h := by rw [cAg n "hits_of" (by decide +kernel)]
@[simp] theorem cq_gain_of (n : Nat) (vs : List PV) (h : PH) : run cT n "gain_of" vs h = run U n "gain_of" vs h := by rw [cAg n "gain_of" (by decide +kernel)]
@[simp] theorem cq_average_of (n : Nat) (vs : List PV) (h : PH) : run cT n "average_of" vs h = run U n "average_of" vs h := by rw [cAg n "average_of" (by decide +kernel)]
@[simp] theorem cq_value_of (n : Nat) (vs : List PV) (h : PH) : run cT n "value_of" vs h = run U n "value_of" vs h := by rw [cAg n "value_of" (by decide +kernel)]
@[simp] theorem cq_require_complete (n : Nat) (vs : List PV) (h : PH) : run cT n "require_complete" vs h = run U n "require_complete" vs h := by rw [cAg n "require_complete" (by decide +kernel)]
@[simp] theorem cq_value (n : Nat) (vs : List PV) (h : PH) : run cT n "value" vs h = run U n "value" vs h := by rw [cAg n "value" (by decide +kernel)]
@[simp] theorem cq_values_of (n : Nat) (vs : List PV) (h : PH) : run cT n "values_of" vs h = run U n "values_of" vs h := by rw [cAg n "values_of" (by decide +kernel)]
@[simp] theorem cq_lowest (n : Nat) (vs : List PV) (h : PH) : run cT n "lowest" vs h = run U n "lowest" vs h := by rw [cAg n "lowest" (by decide +kernel)]
@[simp] theorem cq_highest (n : Nat) (vs : List PV) (h : PH) : run cT n "highest" vs h = run U n "highest" vs h := by rw [cAg n "highest" (by decide +kernel)]
@[simp] theorem cq_checked_values (n : Nat) (vs : List PV) (h : PH) : run cT n "checked_values" vs h = run U n "checked_values" vs h := by rw [cAg n "checked_values" (by decide +kernel)]
@[simp] theorem cq_least (n : Nat) (vs : List PV) (h : PH) : run cT n "least" vs h = run U n "least" vs h := by rw [cAg n "least" (by decide +kernel)]
@[simp] theorem cq_greatest (n : Nat) (vs : List PV) (h : PH) : run cT n "greatest" vs h = run U n "greatest" vs h := by rw [cAg n "greatest" (by decide +kernel)]
@[simp] theorem cq_least_completion (n : Nat) (vs : List PV) (h : PH) : run cT n "least_completion" vs h = run U n "least_completion" vs h := by rw [cAg n "least_completion" (by decide +kernel)]
@[simp] theorem cq_greatest_completion (n : Nat) (vs : List PV) (h : PH) : run cT n "greatest_completion" vs h = run U n "greatest_completion" vs h := by rw [cAg n "greatest_completion" (by decide +kernel)]
@[simp] theorem cq_possible_values (n : Nat) (vs : List PV) (h : PH) : run cT n "possible_values" vs h = run U n "possible_values" vs h := by rw [cAg n "possible_values" (by decide +kernel)]
@[simp] theorem cq_assumed (n : Nat) (vs : List PV) (h : PH) : run cT n "assumed" vs h = run U n "assumed" vs h := by rw [cAg n "assumed" (by decide +kernel)]
@[simp] theorem cq__law_draw (n : Nat) (vs : List PV) (h : PH) : run cT n "_law_draw" vs h = run U n "_law_draw" vs h := by rw [cAg n "_law_draw" (by decide +kernel)]
@[simp] theorem cq__law_pick (n : Nat) (vs : List PV) (h : PH) : run cT n "_law_pick" vs h = run U n "_law_pick" vs h := by rw [cAg n "_law_pick" (by decide +kernel)]
@[simp] theorem cq__law_shuffled (n : Nat) (vs : List PV) (h : PH) : run cT n "_law_shuffled" vs h = run U n "_law_shuffled" vs h := by rw [cAg n "_law_shuffled" (by decide +kernel)]
@[simp] theorem cq__law_collection (n : Nat) (vs : List PV) (h : PH) : run cT n "_law_collection" vs h = run U n "_law_collection" vs h := by rw [cAg n "_law_collection" (by decide +kernel)]
@[simp] theorem cq__law_ranking (n : Nat) (vs : List PV) (h : PH) : run cT n "_law_ranking" vs h = run U n "_law_ranking" vs h := by rw [cAg n "_law_ranking" (by decide +kernel)]
@[simp] theorem cq__law_entries (n : Nat) (vs : List PV) (h : PH) : run cT n "_law_entries" vs h = run U n "_law_entries" vs h := by rw [cAg n "_law_entries" (by decide +kernel)]
@[simp] theorem cq__law_measure (n : Nat) (vs : List PV) (h : PH) : run cT n "_law_measure" vs h = run U n "_law_measure" vs h := by rw [cAg n "_law_measure" (by decide +kernel)]
@[simp] theorem cq__law_below (n : Nat) (vs : List PV) (h : PH) : run cT n "_law_below" vs h = run U n "_law_below" vs h := by rw [cAg n "_law_below" (by decide +kernel)]
theorem c_ok : progOk cBs cEs cDefs (defsOf PySem.Challenge.pw_judgedranks_k07_whole_bounds) = true := by decide +kernel
abbrev cHook : PySem.W.Hook := hookJ 4 (factsOf cDefs cBs cEs) (defsOf PySem.Challenge.pw_judgedranks_k07_whole_bounds)
def cOb (s : PySem.W.SharedT) : He.AlD := obsJ 4 (factsOf cDefs cBs cEs) (defsOf PySem.Challenge.pw_judgedranks_k07_whole_bounds) (HandSHeadRun.getT s)
theorem cOb_eq (s : PySem.W.SharedT) : cOb s = cHook.obs s.abs := obsJ_eq (HandSHeadRun.getT_eq s)
def cLoose0 : List Str := ["RankingError", "InvalidCollection", "InvalidJudgements", "InvalidRanking", "InvalidMeasure", "Incomplete", "InvalidDocument", "InvalidEntry", "is_integer", "is_ascending", "is_document", "is_collection", "require_collection", "is_valid_ranking", "require_ranking", "are_valid_judgements", "require_judgements", "all_completions", "completions", "open_documents"]
def cLoose1 : List Str := ["unjudged", "changed", "require_document", "with_judgement", "is_measure", "require_measure", "lowest_terms", "added", "is_below", "hits_of", "gain_of", "average_of", "value_of", "require_complete", "value", "values_of", "lowest", "highest", "checked_values", "least"]
def cLoose2 : List Str := ["greatest", "least_completion", "greatest_completion", "possible_values", "assumed", "_law_draw", "_law_pick", "_law_shuffled", "_law_collection", "_law_ranking", "_law_entries", "_law_measure", "_law_below"]
abbrev cLoose : List Str := cLoose0 ++ cLoose1 ++ cLoose2
theorem cRun (w : World) : HandSHeadRun.RunEq (PySem.W.OpenLaw.row PySem.Challenge.rw_judgedranks_k07_whole_bounds) (PySem.W.view (PySem.W.OpenLaw.row PySem.Challenge.rw_judgedranks_k07_whole_bounds).prog [59]) cHook cOb 3600 cLoose w := by
  intro os
  kernel_rfl
end J
open PySem PySem.W PySem.Calls PyProof.Rows in
theorem J.to_law (pure : ∀ ns : List Int, ns.length ≤ 63 → ∃ h', J.run J.cT 200 "law" [.d (.list (ns.map PyData.int))] [] = .ok (.d (.bool true)) h') : PySem.Challenge.rw_judgedranks_k07_whole_bounds.Holds := by
  w_on; o_law
  refine HandSHeadRun.head_any (r := OpenLaw.row PySem.Challenge.rw_judgedranks_k07_whole_bounds) (q := view (OpenLaw.row PySem.Challenge.rw_judgedranks_k07_whole_bounds).prog [59]) (H := J.cHook) (ob := J.cOb) (M := 3600) (loose := J.cLoose) (d := HandSHeadRun.topDef (OpenLaw.row PySem.Challenge.rw_judgedranks_k07_whole_bounds).prog 59) (kwd := []) J.cOb_eq
    (by kernel_rfl) (fun s => by kernel_rfl) J.cRun (by kernel_rfl) (by kernel_rfl) (by kernel_rfl) (by rfl) (by first | assumption | decide +kernel) (by decide +kernel) ⟨rfl, rfl, rfl, rfl, rfl, by decide +kernel⟩ ?hw ?hc
  case hw => w_witness2
  case hc => exact J.walk_J (l := PySem.Challenge.rw_judgedranks_k07_whole_bounds) (k := 199) rfl rfl (by kernel_rfl) ⟨rfl, by decide, by decide⟩ J.c_ok rfl rfl pure
end C07

section JBent
set_option Elab.async false
set_option linter.all false
set_option maxRecDepth 100000
set_option autoImplicit false
set_option maxHeartbeats 8000000
/-! J.Bent: plain data, and what _law_pick and _law_bent yield. -/
namespace J
open PySem
/-- plain data: depth at most m, and not large -/
def gd : Nat → D → Bool
  | _, .none => true
  | _, .bool _ => true
  | m, .int i => decide (i.natAbs ≤ 100 + m)
  | _, .str s => PyData.strOk s
  | m + 1, .list xs => decide (xs.length ≤ 100 + m) && xs.all (gd m)
  | m + 1, .tuple xs => decide (xs.length ≤ 100 + m) && xs.all (gd m)
  | _, _ => false
theorem gd_mono1 : ∀ {m : Nat} {x : D}, gd m x = true → gd (m + 1) x = true := by
  intro m
  induction m with
  | zero =>
    intro x h
    cases x <;> simp_all [gd]
    omega
  | succ m ih =>
    intro x h
    cases x <;> simp only [gd, Bool.and_eq_true, decide_eq_true_eq, List.all_eq_true] at h ⊢
    · omega
    · exact h
    · exact ⟨by omega, fun y hy => ih (h.2 y hy)⟩
    · exact ⟨by omega, fun y hy => ih (h.2 y hy)⟩
    · cases h
theorem gd_mono {m k : Nat} (hk : m ≤ k) {x : D} (h : gd m x = true) : gd k x = true := by
  induction hk with
  | refl => exact h
  | step _ ih => exact gd_mono1 ih
theorem canAll {xs : List D} (h : ∀ x ∈ xs, PyData.canLay0 x = true) : PyData.canLayAll0 xs = true := by
  induction xs with
  | nil => simp [PyData.canLayAll0]
  | cons x xs ih => simp only [PyData.canLayAll0, h x List.mem_cons_self, ih fun y hy => h y (List.mem_cons_of_mem _ hy), Bool.and_self]
theorem depthAll_le {xs : List D} {m : Nat} (h : ∀ x ∈ xs, PyData.depth x ≤ m) : PyData.depthAll xs ≤ m := by
  induction xs with
  | nil => simp [PyData.depthAll]
  | cons x xs ih =>
    simp only [PyData.depthAll]
    exact Nat.max_le.mpr ⟨h x List.mem_cons_self, ih fun y hy => h y (List.mem_cons_of_mem _ hy)⟩
theorem gd_shape : ∀ {m : Nat} {x : D}, gd m x = true → PyData.canLay0 x = true ∧ PyData.depth x ≤ m := by
  intro m
  induction m with
  | zero =>
    intro x h
    cases x <;> simp_all [gd, PyData.canLay0, PyData.depth]
  | succ m ih =>
    intro x h
    cases x <;> simp only [gd, Bool.and_eq_true, decide_eq_true_eq, List.all_eq_true] at h
    · simp [PyData.canLay0, PyData.depth]
    · simp [PyData.canLay0, PyData.depth]
    · simp [PyData.canLay0, PyData.depth]
    · simp [PyData.canLay0, PyData.depth, h]
    · simp only [PyData.canLay0, PyData.depth]
      exact ⟨canAll fun y hy => (ih (h.2 y hy)).1, Nat.succ_le_succ (depthAll_le fun y hy => (ih (h.2 y hy)).2)⟩
    · simp only [PyData.canLay0, PyData.depth]
      exact ⟨canAll fun y hy => (ih (h.2 y hy)).1, Nat.succ_le_succ (depthAll_le fun y hy => (ih (h.2 y hy)).2)⟩
    · cases h
theorem gd_shaped {m : Nat} {x : D} (h : gd m x = true) (hm : m ≤ 64) : SeqAt.shaped x = true := by
  obtain ⟨h1, h2⟩ := gd_shape h
  simp only [SeqAt.shaped, h1, Bool.true_and, decide_eq_true_eq]
  omega
theorem gd_tup {m : Nat} {xs : List D} (h : gd (m + 1) (.tuple xs) = true) : xs.length ≤ 100 + m ∧ ∀ y ∈ xs, gd m y = true := by
  simpa only [gd, Bool.and_eq_true, decide_eq_true_eq, List.all_eq_true] using h
theorem gd_tup' {m : Nat} {xs : List D} (h1 : xs.length ≤ 100 + m) (h2 : ∀ y ∈ xs, gd m y = true) : gd (m + 1) (.tuple xs) = true := by
  simp only [gd, Bool.and_eq_true, decide_eq_true_eq, List.all_eq_true]
  exact ⟨h1, h2⟩
theorem gd_lst' {m : Nat} {xs : List D} (h1 : xs.length ≤ 100 + m) (h2 : ∀ y ∈ xs, gd m y = true) : gd (m + 1) (.list xs) = true := by
  simp only [gd, Bool.and_eq_true, decide_eq_true_eq, List.all_eq_true]
  exact ⟨h1, h2⟩
theorem char_lt (c : Char) : c.toNat < 1114112 := by
  have := c.valid
  rcases this with h | ⟨_, h⟩
  · exact Nat.lt_trans h (by decide)
  · exact h
theorem strOk_of (s : String) : PyData.strOk (Str.ofString s) = true := by
  unfold PyData.strOk
  rw [Str.ofString_eq_toList]
  simp only [List.all_toArray, List.all_map, List.all_eq_true]
  intro c _
  exact decide_eq_true (char_lt c)
/-! ### a pick -/
theorem pick_ok {T : String → Option CDef} (hT : T "_law_draw" = some c__law_draw.c) (hP : T "_law_pick" = some c__law_pick.c) (n : Nat) (ns : List Int) (hn : ns.length ≤ 63) (h : PH) (c : Nat) (xs : List Int) (hc : h[c]? = some (.lst (iD xs))) (hl : xs.length + 2 ≤ lineN) (us : List D) (hu : us ≠ []) :
    ∃ (y : D) (ys : List Int), run T (n + 2) "_law_pick" [.d (.list (iD ns)), .cell c, .d (.list us)] h = .ok (.d y) (h.set c (.lst (iD ys))) ∧ y ∈ us ∧ ys.length ≤ xs.length + 2 := by
  rw [run_eq hP _ _ _ rfl]
  have hp : (0 : Int) < (us.length : Nat) := by
    cases us with
    | nil => exact absurd rfl hu
    | cons a r => simp only [List.length_cons]; omega
  obtain ⟨r, ys, e, h0, h1, hy⟩ := draw_ok hT n ns hn h c xs hc hl (us.length : Nat) hp
  obtain ⟨y, my, ey⟩ := atI_of h0 h1
  refine ⟨y, ys, ?_, my, hy⟩
  simp [c__law_pick, e, ey, finish, leave]
  rw [List.take_of_length_le (by simp)]
/-! ### bending -/
def bentC : List D := [.none, .bool true, .bool false, .int 0, .int 1, .int (-1), .int 3, .int 10, .str (Str.ofString "a"), .str (Str.ofString "b"), .str (Str.ofString ""), .str (Str.ofString "A"), .str (Str.ofString "abcd"), .tuple [], .list []] ++ [.tuple [.str (Str.ofString "a")], .tuple [.str (Str.ofString "b"), .str (Str.ofString "a")], .tuple [.int 1, .int 0], .tuple [.str (Str.ofString "gain"), .int 2]]
theorem bentC_gd : ∀ y ∈ bentC, gd 1 y = true := by decide +kernel
theorem bentC_len : bentC.length = 19 := rfl
def bentI (i : Int) (x : D) (s : Str) (b : Bool) : List D := [.int (i + 1), .int (i - 1), .bool b, .tuple [x], .str s]
def bentT (xs : List D) : List D := [.list xs, .tuple (cut xs none (some (-1))), .tuple (xs ++ cut xs (some (-1)) none), .tuple (cut xs (some 1) none), .tuple xs.reverse, .tuple (xs ++ [.none])]
/-- what a thing may be bent to, at once -/
def bentL : D → List D
  | .tuple xs => bentC ++ bentT xs
  | .int i => bentC ++ (bentI i (.int i) (toString i) (!(i != 0)) ++ bentI i (.int i) (toString i) (!(i != 0)))
  | .bool b => bentC ++ (bentI (if b = true then 1 else 0) (.bool b) (if b = true then Str.ofString "True" else Str.ofString "False") (!b) ++ bentI (if b = true then 1 else 0) (.bool b) (if b = true then Str.ofString "True" else Str.ofString "False") (!b))
  | _ => bentC
theorem cut_sub {α : Type} (xs : List α) (lo hi : Option Int) : ∀ y ∈ cut xs lo hi, y ∈ xs := fun y hy => List.mem_of_mem_drop (List.mem_of_mem_take hy)
theorem cut_len {α : Type} (xs : List α) (lo hi : Option Int) : (cut xs lo hi).length ≤ xs.length := by
  unfold cut
  rw [List.length_take, List.length_drop]
  omega
theorem cut_last {α : Type} (xs : List α) : (cut xs (some (-1)) none).length ≤ 1 := by
  unfold cut sIx
  rw [List.length_take, List.length_drop]
  simp
  omega
theorem bentL_gd {m : Nat} {x : D} (h : gd m x = true) : ∀ y ∈ bentL x, gd (m + 1) y = true := by
  have hC : ∀ y ∈ bentC, gd (m + 1) y = true := fun y hy => gd_mono (by omega) (bentC_gd y hy)
  intro y hy
  cases x with
  | none => exact hC y hy
  | str s => exact hC y hy
  | list xs => exact hC y hy
  | dict k => exact hC y hy
  | bool b =>
    rcases List.mem_append.mp hy with z | z
    · exact hC y z
    · simp only [bentI, List.mem_append, List.mem_cons, List.not_mem_nil, or_false] at z
      have : ∀ i : Int, i.natAbs ≤ 2 → gd (m + 1) (.int i) = true := fun i hi => by simp only [gd, decide_eq_true_eq]; omega
      have hs : PyData.strOk (if b = true then Str.ofString "True" else Str.ofString "False") = true := by cases b <;> exact strOk_of _
      have hb : (if b = true then (1 : Int) else 0).natAbs ≤ 1 := by cases b <;> decide
      rcases z with (rfl | rfl | rfl | rfl | rfl) | (rfl | rfl | rfl | rfl | rfl)
      · exact this _ (by omega)
      · exact this _ (by omega)
      · rfl
      · exact gd_tup' (by simp; omega) (by simpa using by simp [gd])
      · exact hs
      · exact this _ (by omega)
      · exact this _ (by omega)
      · rfl
      · exact gd_tup' (by simp; omega) (by simpa using by simp [gd])
      · exact hs
  | int i =>
    have hi : i.natAbs ≤ 100 + m := by cases m <;> simpa only [gd, decide_eq_true_eq] using h
    rcases List.mem_append.mp hy with z | z
    · exact hC y z
    · simp only [bentI, List.mem_append, List.mem_cons, List.not_mem_nil, or_false] at z
      have : ∀ j : Int, j.natAbs ≤ 101 + m → gd (m + 1) (.int j) = true := fun i hi => by simp only [gd, decide_eq_true_eq]; omega
      have ht : gd (m + 1) (.tuple [.int i]) = true := gd_tup' (by simp; omega) (by intro y hy; simp only [List.mem_cons, List.not_mem_nil, or_false] at hy; subst hy; exact h)
      rcases z with (rfl | rfl | rfl | rfl | rfl) | (rfl | rfl | rfl | rfl | rfl)
      · exact this _ (by omega)
      · exact this _ (by omega)
      · rfl
      · exact ht
      · exact strOk_of _
      · exact this _ (by omega)
      · exact this _ (by omega)
      · rfl
      · exact ht
      · exact strOk_of _
  | tuple xs =>
    cases m with
    | zero => cases h
    | succ m =>
      obtain ⟨h1, h2⟩ := gd_tup h
      have up : ∀ y ∈ xs, gd (m + 1) y = true := fun y hy => gd_mono1 (h2 y hy)
      rcases List.mem_append.mp hy with z | z
      · exact hC y z
      · simp only [bentT, List.mem_cons, List.not_mem_nil, or_false] at z
        rcases z with rfl | rfl | rfl | rfl | rfl | rfl
        · exact gd_lst' (by omega) up
        · exact gd_tup' (by have := cut_len xs none (some (-1)); omega) fun y hy => up y (cut_sub _ _ _ y hy)
        · refine gd_tup' (by have := cut_last xs; rw [List.length_append]; omega) fun y hy => ?_
          rcases List.mem_append.mp hy with q | q
          · exact up y q
          · exact up y (cut_sub _ _ _ y q)
        · exact gd_tup' (by have := cut_len xs (some 1) none; omega) fun y hy => up y (cut_sub _ _ _ y hy)
        · exact gd_tup' (by rw [List.length_reverse]; omega) fun y hy => up y (List.mem_reverse.mp hy)
        · refine gd_tup' (by simp; omega) fun y hy => ?_
          rcases List.mem_append.mp hy with q | q
          · exact up y q
          · simp only [List.mem_cons, List.not_mem_nil, or_false] at q
            subst q
            cases m <;> rfl
end J
end JBent

section JBent2
set_option Elab.async false
set_option linter.all false
set_option maxRecDepth 100000
set_option autoImplicit false
set_option maxHeartbeats 8000000
/-! J.Bent2: the run of _law_bent. -/
namespace J
open PySem
theorem bin_mulL2 {xs : List D} (h : xs.length ≤ 1000) : binD .mul (.list xs) (.int 2) = some (.list (xs ++ xs)) := by
  have : (0 : Int) ≤ 2 ∧ (2 : Int) < 1000 ∧ xs.length ≤ 1000 := ⟨by decide, by decide, h⟩
  simp only [binD, this, and_self, if_true]
  simp [List.replicate]
@[simp] theorem isi_eq {h : PH} {x : D} {t : Ty} : Option.map (fun x => PV.d (.bool (isiD x t))) (val h (.d x)) = some (.d (.bool (isiD x t))) := rfl
def bentA : CB := match c__law_bent.c.body with
  | .cons (.ite _ a _) _ => a
  | _ => .nil
def bentQ : CE := match c__law_bent.c.body with
  | .cons (.ite q _ _) _ => q
  | _ => .lit .non
theorem val_tru {h : PH} {x : D} : (val h (.d x)).bind truD = truD x := rfl
theorem bentA_ok {Γ : Fns} {m : Nat} {x : D} {s : D} {c : Nat} {h : PH} (hx : gd m x = true) (hm : m ≤ 64) :
    exB Γ bentA [some (.d s), some (.cell c), some (.d x), none, none] h = (Γ "_law_pick" [.d s, .cell c, .d (.list (bentL x))] h).bind fun v h1 => .ok (.rt v) h1 := by
  simp only [bentA, c__law_bent]
  rw [xb_asg (v := .d (.list (bentC.take 15))) (h1 := h) (by rfl)]
  rw [xb_asg (v := .d (.list bentC)) (h1 := h) (by rfl)]
  simp only [List.set_cons_succ, List.set_cons_zero]
  have fin : ∀ l : List D, exB Γ (.cons (.ret (.call "_law_pick" (.cons (.var 0) (.cons (.var 1) (.cons (.var 4) .nil))))) .nil) [some (.d s), some (.cell c), some (.d x), none, some (.d (.list l))] h = (Γ "_law_pick" [.d s, .cell c, .d (.list l)] h).bind fun v h1 => .ok (.rt v) h1 := fun l => by
    simp
    generalize Γ "_law_pick" _ h = r
    cases r <;> rfl
  cases x with
  | none =>
    rw [xb_skip (v := .d (.bool false)) (h1 := h) (by rfl) rfl]
    rw [xb_skip (v := .d (.bool false)) (h1 := h) (by rfl) rfl]
    exact fin _
  | str s =>
    rw [xb_skip (v := .d (.bool false)) (h1 := h) (by rfl) rfl]
    rw [xb_skip (v := .d (.bool false)) (h1 := h) (by rfl) rfl]
    exact fin _
  | list xs =>
    rw [xb_skip (v := .d (.bool false)) (h1 := h) (by rfl) rfl]
    rw [xb_skip (v := .d (.bool false)) (h1 := h) (by rfl) rfl]
    exact fin _
  | dict k =>
    rw [xb_skip (v := .d (.bool false)) (h1 := h) (by rfl) rfl]
    rw [xb_skip (v := .d (.bool false)) (h1 := h) (by rfl) rfl]
    exact fin _
  | bool b =>
    rw [xb_skip (v := .d (.bool false)) (h1 := h) (by rfl) rfl]
    rw [xb_iteT (v := .d (.bool true)) (h1 := h) (by rfl) rfl]
    rw [xb_asg (v := .d (.list (bentL (.bool b)))) (h1 := h) (by rfl)]
    simp only [List.set_cons_succ, List.set_cons_zero, exB_0, rs_ok, kont_nx]
    exact fin _
  | int i =>
    have hi : i.natAbs.log2 < 1920 := by
      have : i.natAbs ≤ 100 + m := by cases m <;> simpa only [gd, decide_eq_true_eq] using hx
      exact Nat.lt_of_le_of_lt (log2_le (k := 8) (by omega)) (by decide)
    rw [xb_skip (v := .d (.bool false)) (h1 := h) (by rfl) rfl]
    rw [xb_iteT (v := .d (.bool true)) (h1 := h) (by rfl) rfl]
    have e1 : ev Γ (.bin .mul (.lst (.cons (.bin .add (.var 2) (.lit (.int 1))) (.cons (.bin .sub (.var 2) (.lit (.int 1))) (.cons (.not (.var 2)) (.cons (.tup (.cons (.var 2) .nil)) (.cons (.blt .str (.var 2)) .nil)))))) (.lit (.int 2))) [some (.d s), some (.cell c), some (.d (.int i)), none, some (.d (.list bentC))] h = .ok (.d (.list (bentI i (.int i) (toString i) (!(i != 0)) ++ bentI i (.int i) (toString i) (!(i != 0))))) h := by
      refine ev_bin (h1 := h) (u := .d (.list (bentI i (.int i) (toString i) (!(i != 0))))) ?_ rfl rfl rfl (bin_mulL2 (by simp [bentI]))
      simp [blt_str hi, bentI]
    rw [xb_asg (v := .d (.list (bentL (.int i)))) (h1 := h) (ev_bin (h1 := h) (ev_at rfl) e1 rfl rfl (bin_addL (by simp [bentC_len, bentI])))]
    simp only [List.set_cons_succ, List.set_cons_zero, exB_0, rs_ok, kont_nx]
    exact fin _
  | tuple xs =>
    have hl : xs.length ≤ 200 := by
      cases m with
      | zero => cases hx
      | succ m => have := (gd_tup hx).1; omega
    rw [xb_iteT (v := .d (.bool true)) (h1 := h) (by rfl) rfl]
    have e1 : ev Γ (.lst (.cons (.blt .list (.var 2)) (.cons (.sl (.var 2) .no (.so (.neg (.lit (.int 1))))) (.cons (.bin .add (.var 2) (.sl (.var 2) (.so (.neg (.lit (.int 1)))) .no)) (.cons (.sl (.var 2) (.so (.lit (.int 1))) .no) (.cons (.rev (.var 2)) (.cons (.bin .add (.var 2) (.tup (.cons (.lit .non) .nil))) .nil))))))) [some (.d s), some (.cell c), some (.d (.tuple xs)), none, some (.d (.list bentC))] h = .ok (.d (.list (bentT xs))) h := by
      have c1 := cut_len xs (some (-1)) none
      have a1 : binD .add (.tuple xs) (.tuple (cut xs (some (-1)) none)) = some (.tuple (xs ++ cut xs (some (-1)) none)) := bin_addT (by unfold lineN; omega)
      have a2 : binD .add (.tuple xs) (.tuple [.none]) = some (.tuple (xs ++ [.none])) := bin_addT (by simp; omega)
      simp [a1, a2, bentT]
    rw [xb_asg (v := .d (.list (bentL (.tuple xs)))) (h1 := h) (ev_bin (h1 := h) (ev_at rfl) e1 rfl rfl (bin_addL (by simp [bentC_len, bentT])))]
    simp only [List.set_cons_succ, List.set_cons_zero, exB_0, rs_ok, kont_nx]
    rw [xb_skip (v := .d (.bool false)) (h1 := h) (by rfl) rfl]
    exact fin _
end J
end JBent2

section JBent3
set_option Elab.async false
set_option linter.all false
set_option maxRecDepth 100000
set_option autoImplicit false
set_option maxHeartbeats 8000000
/-! J.Bent3: the run of _law_bent, whole. -/
namespace J
open PySem
theorem cut_lens {α : Type} (xs : List α) {j : Int} (h0 : 0 ≤ j) (h1 : j < xs.length) : (cut xs none (some j)).length + 1 + (cut xs (some (j + 1)) none).length ≤ xs.length := by
  unfold cut sIx
  simp only [List.length_take, List.length_drop]
  rw [if_neg (by omega), if_neg (by omega)]
  omega
theorem fin_set {h : PH} {c : Nat} {x : Cl} {v : D} : finish h.length (.ok (.rt (.d v)) (h.set c x)) = .ok (.d v) (h.set c x) := by
  simp only [finish, leave]
  rw [List.take_of_length_le (by simp)]
theorem fin_setK {h : PH} {c : Nat} {x : Cl} {v : D} : finish h.length (.ok (.rt (.k v)) (h.set c x)) = .ok (.k v) (h.set c x) := by
  simp only [finish, leave]
  rw [List.take_of_length_le (by simp)]
theorem bent_ok {T : String → Option CDef} (hT : T "_law_draw" = some c__law_draw.c) (hP : T "_law_pick" = some c__law_pick.c) (hB : T "_law_bent" = some c__law_bent.c) (ns : List Int) (hn : ns.length ≤ 63) : ∀ (m : Nat), m ≤ 60 → ∀ (n : Nat) (h : PH) (c : Nat) (xs : List Int), h[c]? = some (.lst (iD xs)) → xs.length + 4 * (m + 1) ≤ lineN → ∀ x : D, gd m x = true →
    ∃ (y : D) (ys : List Int), run T (n + m + 3) "_law_bent" [.d (.list (iD ns)), .cell c, .d x] h = .ok (.d y) (h.set c (.lst (iD ys))) ∧ gd (m + 1) y = true ∧ ys.length ≤ xs.length + 4 * (m + 1) := by
  intro m
  induction m with
  | zero =>
    intro _ n h c xs hc hl x hx
    rw [run_eq hB _ _ _ rfl]
    have hb : c__law_bent.c.body = .cons (.ite bentQ bentA .nil) (match c__law_bent.c.body with | .cons _ r => r | _ => .nil) := rfl
    have hq : ev (run T (n + 0 + 2)) bentQ [some (.d (.list (iD ns))), some (.cell c), some (.d x), none, none] h = .ok (.d (.bool true)) h := by
      cases x <;> first | rfl | cases hx
    obtain ⟨y, ys, e, my, hy⟩ := pick_ok hT hP (n + 0) ns hn h c xs hc (by omega) (bentL x) (by cases x <;> simp [bentL, bentC])
    refine ⟨y, ys, ?_, bentL_gd hx y my, by omega⟩
    rw [hb]
    show finish h.length (exB (run T (n + 0 + 2)) _ [some (.d (.list (iD ns))), some (.cell c), some (.d x), none, none] h) = _
    rw [xb_iteT hq rfl, bentA_ok hx (by omega), e]
    exact fin_set
  | succ m ih =>
    intro hm n h c xs hc hl x hx
    rw [run_eq hB _ _ _ rfl]
    have hb : c__law_bent.c.body = .cons (.ite bentQ bentA .nil) (match c__law_bent.c.body with | .cons _ r => r | _ => .nil) := rfl
    rw [hb]
    show ∃ y ys, finish h.length (exB (run T (n + (m + 1) + 2)) _ [some (.d (.list (iD ns))), some (.cell c), some (.d x), none, none] h) = _ ∧ _
    have base : ∀ xs1 : List Int, xs1.length ≤ xs.length + 2 → ev (run T (n + (m + 1) + 2)) bentQ [some (.d (.list (iD ns))), some (.cell c), some (.d x), none, none] h = .ok (.d (.bool true)) (h.set c (.lst (iD xs1))) →
        ∃ (y : D) (ys : List Int), finish h.length (exB (run T (n + (m + 1) + 2)) (.cons (.ite bentQ bentA .nil) (match c__law_bent.c.body with | .cons _ r => r | _ => .nil)) [some (.d (.list (iD ns))), some (.cell c), some (.d x), none, none] h) = .ok (.d y) (h.set c (.lst (iD ys))) ∧ gd (m + 1 + 1) y = true ∧ ys.length ≤ xs.length + 4 * (m + 1 + 1) := by
      intro xs1 hl1 hq
      obtain ⟨y, ys, e, my, hy⟩ := pick_ok hT hP (n + (m + 1)) ns hn (h.set c (.lst (iD xs1))) c xs1 (get_set hc) (by omega) (bentL x) (by cases x <;> simp [bentL, bentC])
      refine ⟨y, ys, ?_, bentL_gd hx y my, by omega⟩
      rw [xb_iteT hq rfl, bentA_ok hx (by omega), e, List.set_set]
      exact fin_set
    have plain := base xs (by omega)
    rw [set_same hc] at plain
    cases x with
    | none => exact plain rfl
    | bool b => exact plain rfl
    | int i => exact plain rfl
    | str s => exact plain rfl
    | list l => exact plain rfl
    | dict k => exact plain rfl
    | tuple us =>
      cases us with
      | nil => exact plain rfl
      | cons u0 us =>
        obtain ⟨h1, h2⟩ := gd_tup hx
        obtain ⟨r, xs1, e, r0, r1, hl1⟩ := draw_ok hT (n + (m + 1) + 1) ns hn h c xs hc (by omega) 4 (by decide)
        have hq : ev (run T (n + (m + 1) + 2)) bentQ [some (.d (.list (iD ns))), some (.cell c), some (.d (.tuple (u0 :: us))), none, none] h = .ok (.d (.bool (r == 0))) (h.set c (.lst (iD xs1))) := by
          simp only [bentQ, c__law_bent]
          simp [isiD, e]
          rfl
        by_cases hr : r = 0
        · refine base xs1 hl1 ?_
          rw [hq, hr]
          rfl
        · have hf : (r == 0) = false := by simpa using hr
          rw [hf] at hq
          rw [xb_skip hq rfl]
          have hlen : (0 : Int) < ((u0 :: us).length : Nat) := by simp only [List.length_cons]; omega
          obtain ⟨j, xs2, e2, j0, j1, hl2⟩ := draw_ok hT (n + (m + 1) + 1) ns hn (h.set c (.lst (iD xs1))) c xs1 (get_set hc) (by omega) ((u0 :: us).length : Nat) hlen
          rw [List.set_set] at e2
          obtain ⟨z, mz, ez⟩ := atI_of j0 j1
          obtain ⟨y, ys, e3, gy, hy⟩ := ih (by omega) n (h.set c (.lst (iD xs2))) c xs2 (get_set hc) (by omega) z (h2 z mz)
          rw [List.set_set] at e3
          have cl := cut_lens (u0 :: us) j0 j1
          refine ⟨.tuple (cut (u0 :: us) none (some j) ++ [y] ++ cut (u0 :: us) (some (j + 1)) none), ys, ?_, ?_, by omega⟩
          · simp only [c__law_bent]
            rw [xb_asg (v := .d (.int j)) (h1 := h.set c (.lst (iD xs2))) (by rw [ev_call (vs := [.d (.list (iD ns)), .cell c, .d (.int ((u0 :: us).length : Nat))]) (h1 := h.set c (.lst (iD xs1))) (by rfl)]; exact e2)]
            have ec : ev (run T (n + (m + 1) + 2)) (.call "_law_bent" (.cons (.var 0) (.cons (.var 1) (.cons (.ix (.var 2) (.var 3)) .nil)))) [some (.d (.list (iD ns))), some (.cell c), some (.d (.tuple (u0 :: us))), some (.d (.int j)), none] (h.set c (.lst (iD xs2))) = .ok (.d y) (h.set c (.lst (iD ys))) := by
              rw [ev_call (vs := [.d (.list (iD ns)), .cell c, .d z]) (h1 := h.set c (.lst (iD xs2))) (by simp [ez])]
              exact e3
            rw [xb_ret (v := .d (.tuple (cut (u0 :: us) none (some j) ++ [y] ++ cut (u0 :: us) (some (j + 1)) none))) (h1 := h.set c (.lst (iD ys)))]
            · exact fin_set
            · simp only [List.set_cons_succ, List.set_cons_zero]
              refine ev_bin (u := .d (.tuple (cut (u0 :: us) none (some j) ++ [y]))) (h1 := h.set c (.lst (iD ys))) (w := .d (.tuple (cut (u0 :: us) (some (j + 1)) none))) (ev_bin (u := .d (.tuple (cut (u0 :: us) none (some j)))) (w := .d (.tuple [y])) (h1 := h.set c (.lst (iD xs2))) (by rfl) ?_ rfl rfl (bin_addT ?_)) (by rfl) rfl rfl (bin_addT ?_)
              · simp only [ev_3, evD, ec, rs_ok]
                rfl
              · simp only [List.length_cons, List.length_nil, line_n]
                simp only [List.length_cons] at cl h1
                omega
              · simp only [List.length_append, List.length_cons, List.length_nil, line_n]
                simp only [List.length_cons] at cl h1
                omega
          · refine gd_tup' (by simp only [List.length_append, List.length_cons, List.length_nil] at cl h1 ⊢; omega) fun q hq => ?_
            rcases List.mem_append.mp hq with w | w
            · rcases List.mem_append.mp w with w | w
              · exact gd_mono1 (h2 q (cut_sub _ _ _ q w))
              · simp only [List.mem_cons, List.not_mem_nil, or_false] at w
                subst w
                exact gy
            · exact gd_mono1 (h2 q (cut_sub _ _ _ q w))
end J
end JBent3

section JColl
set_option Elab.async false
set_option linter.all false
set_option maxRecDepth 100000
set_option autoImplicit false
set_option maxHeartbeats 8000000
/-! J.Coll: shuffling, collections. -/
namespace J
open PySem
theorem ixN_of {n : Nat} {i : Int} (h0 : 0 ≤ i) (h1 : i < n) : ixN n i = some i.toNat := by
  unfold ixN
  rw [if_pos h0, if_pos h1]
theorem whl_t {c : PEnv → PH → Rs Bool} {f : PEnv → PH → Rs Fl} {n : Nat} {σ σ' : PEnv} {h h1 h2 : PH} (hc : c σ h = .ok true h1) (hf : f σ h1 = .ok (.nx σ') h2) : whlL c f (n + 1) σ h = whlL c f n σ' h2 := by
  simp only [whlL, hc, rs_ok, hf]
theorem whl_f {c : PEnv → PH → Rs Bool} {f : PEnv → PH → Rs Fl} {n : Nat} {σ : PEnv} {h h1 : PH} (hc : c σ h = .ok false h1) : whlL c f (n + 1) σ h = .ok (.nx σ) h1 := by
  simp only [whlL, hc, rs_ok]
theorem xb_whl {Γ : Fns} {q : CE} {b r : CB} {σ : PEnv} {h : PH} : exB Γ (.cons (.whl q b) r) σ h = (whlL (fun σ h => (ev Γ q σ h).bind fun x h1 => ofO ((val h1 x).bind truD) h1) (fun σ h => exB Γ b σ h) whlMost σ h).bind (kont Γ r) := by
  rw [xb_cons, ex_11]
theorem erase_perm {α : Type} : ∀ (l : List α) (i : Nat) (h : i < l.length), l.Perm (l[i] :: l.eraseIdx i)
  | a :: l, 0, _ => by simp
  | a :: l, i + 1, h => by
    simp only [List.length_cons, Nat.add_lt_add_iff_right] at h
    simp only [List.getElem_cons_succ, List.eraseIdx_cons_succ]
    exact ((erase_perm l i h).cons a).trans (List.Perm.swap _ _ _)
/-- the loop's heap -/
abbrev shH (h : PH) (c : Nat) (xs : List Int) (rest found : List D) : PH := h.set c (.lst (iD xs)) ++ [.lst rest, .lst found]
theorem shH_c {h : PH} {c : Nat} {xs : List Int} {r f : List D} (hc : c < h.length) : (shH h c xs r f)[c]? = some (.lst (iD xs)) := by
  unfold shH
  rw [List.getElem?_append_left (by simpa using hc), List.getElem?_set_self hc]
theorem shH_r {h : PH} {c : Nat} {xs : List Int} {r f : List D} : (shH h c xs r f)[h.length]? = some (.lst r) := by
  unfold shH
  rw [List.getElem?_append_right (by simp)]
  simp
theorem shH_f {h : PH} {c : Nat} {xs : List Int} {r f : List D} : (shH h c xs r f)[h.length + 1]? = some (.lst f) := by
  unfold shH
  rw [List.getElem?_append_right (by simp)]
  simp
theorem shH_setc {h : PH} {c : Nat} {xs ys : List Int} {r f : List D} (hc : c < h.length) : (shH h c xs r f).set c (.lst (iD ys)) = shH h c ys r f := by
  unfold shH
  rw [List.set_append_left _ _ (by simpa using hc), List.set_set]
theorem shH_setr {h : PH} {c : Nat} {xs : List Int} {r r' f : List D} : (shH h c xs r f).set h.length (.lst r') = shH h c xs r' f := by
  unfold shH
  rw [List.set_append_right _ _ (by simp)]
  simp
theorem shH_setf {h : PH} {c : Nat} {xs : List Int} {r f f' : List D} : (shH h c xs r f).set (h.length + 1) (.lst f') = shH h c xs r f' := by
  unfold shH
  rw [List.set_append_right _ _ (by simp)]
  simp
def shufB : CB := match bHead'' (match c__law_shuffled.c.body with | .cons _ r => r | _ => .nil) with
  | .whl _ b => b
  | _ => .nil
where bHead'' : CB → CS
  | .cons s _ => s
  | .nil => .pass
theorem shuf_loop {T : String → Option CDef} (hT : T "_law_draw" = some c__law_draw.c) (n : Nat) (ns : List Int) (hn : ns.length ≤ 63) (h : PH) (c : Nat) (hc : c < h.length) (t : PV) : ∀ (k fuel : Nat) (xs : List Int) (rest found : List D), rest.length = k → k < fuel → xs.length + 2 * k ≤ 10000000 → found.length + k ≤ 10000 →
    ∃ (ys : List Int) (out : List D), whlL (fun σ h => (ev (run T (n + 1)) (.var 3) σ h).bind fun x h1 => ofO ((val h1 x).bind truD) h1) (fun σ h => exB (run T (n + 1)) shufB σ h) fuel [some (.d (.list (iD ns))), some (.cell c), some t, some (.cell h.length), some (.cell (h.length + 1))] (shH h c xs rest found) = .ok (.nx [some (.d (.list (iD ns))), some (.cell c), some t, some (.cell h.length), some (.cell (h.length + 1))]) (shH h c ys [] out) ∧ out.Perm (found ++ rest) ∧ ys.length ≤ xs.length + 2 * k := by
  intro k
  induction k with
  | zero =>
    intro fuel xs rest found hr hf hx hfo
    obtain ⟨f, rfl⟩ : ∃ f, fuel = f + 1 := ⟨fuel - 1, by omega⟩
    obtain rfl : rest = [] := by cases rest with | nil => rfl | cons a r => simp at hr
    refine ⟨xs, found, ?_, by simp, by omega⟩
    rw [whl_f (h1 := shH h c xs [] found)]
    simp only [ev_0, List.getElem?_cons_succ, List.getElem?_cons_zero, rs_ok, val_cell shH_r, Option.bind_some, tru_list, List.isEmpty_nil, Bool.not_true, ofO_some]
  | succ k ih =>
    intro fuel xs rest found hr hf hx hfo
    obtain ⟨f, rfl⟩ : ∃ f, fuel = f + 1 := ⟨fuel - 1, by omega⟩
    have hp : (0 : Int) < (rest.length : Nat) := by omega
    obtain ⟨j, ys, e, j0, j1, hy⟩ := draw_ok hT n ns hn (shH h c xs rest found) c xs (shH_c hc) (by unfold lineN; omega) (rest.length : Nat) hp
    rw [shH_setc hc] at e
    have hj : j.toNat < rest.length := by omega
    have hjm : (rest.eraseIdx j.toNat).length = k := by rw [List.length_eraseIdx_of_lt hj]; omega
    obtain ⟨zs, out, e2, hp2, hz⟩ := ih f ys (rest.eraseIdx j.toNat) (found ++ [rest[j.toNat]]) hjm (by omega) (by omega) (by simp only [List.length_append, List.length_cons, List.length_nil]; omega)
    refine ⟨zs, out, ?_, ?_, by omega⟩
    · rw [whl_t (h1 := shH h c xs rest found) (h2 := shH h c ys (rest.eraseIdx j.toNat) (found ++ [rest[j.toNat]])) (σ' := [some (.d (.list (iD ns))), some (.cell c), some t, some (.cell h.length), some (.cell (h.length + 1))])]
      · exact e2
      · have : rest.isEmpty = false := by cases rest with | nil => simp at hr | cons a r => rfl
        simp only [ev_0, List.getElem?_cons_succ, List.getElem?_cons_zero, rs_ok, val_cell shH_r, Option.bind_some, tru_list, this, Bool.not_false, ofO_some]
      · have pe : ev (run T (n + 1)) (.pop 3 (.call "_law_draw" (.cons (.var 0) (.cons (.var 1) (.cons (.blt .len (.var 3)) .nil))))) [some (.d (.list (iD ns))), some (.cell c), some t, some (.cell h.length), some (.cell (h.length + 1))] (shH h c xs rest found) = .ok (.d rest[j.toNat]) (shH h c ys (rest.eraseIdx j.toNat) found) := by
          rw [ev_22]
          simp only [List.getElem?_cons_succ, List.getElem?_cons_zero, isC_ok shH_r, if_true]
          rw [ev_call (vs := [.d (.list (iD ns)), .cell c, .d (.int (rest.length : Nat))]) (h1 := shH h c xs rest found) (by simp only [evA_0, evA_1, ev_0, List.getElem?_cons_succ, List.getElem?_cons_zero, rs_ok, ev_18, val_cell shH_r, Option.bind_some, blt_lenL, Option.map_some, ofO_some])]
          rw [e, rs_ok]
          simp only [popAt, shH_r, ixN_of j0 j1]
          rw [if_pos (by constructor <;> omega)]
          simp only [List.getElem?_eq_getElem hj]
          rw [shH_setr]
        show exB (run T (n + 1)) (.cons (.app 4 (.pop 3 (.call "_law_draw" (.cons (.var 0) (.cons (.var 1) (.cons (.blt .len (.var 3)) .nil)))))) .nil) _ _ = _
        rw [xb_app (n := h.length + 1) rfl (isC_ok shH_f) pe shH_f (by rw [line_n]; omega), shH_setf, exB_0]
    · refine hp2.trans ?_
      rw [List.append_assoc]
      exact ((erase_perm rest j.toNat hj).symm).append_left found
end J
end JColl

section JColl2
set_option Elab.async false
set_option linter.all false
set_option maxRecDepth 100000
set_option autoImplicit false
set_option maxHeartbeats 8000000
/-! J.Coll2: shuffled things, drawn collections. -/
namespace J
open PySem
theorem cut_to {α : Type} (xs : List α) {j : Int} (h : 0 ≤ j) : cut xs none (some j) = xs.take j.toNat := by
  simp only [cut, sIx]
  rw [if_neg (by omega), Nat.sub_zero, List.drop_zero, Nat.min_def]
  split
  · rfl
  · rw [List.take_of_length_le (Nat.le_refl _), List.take_of_length_le (by omega)]
theorem cut_from {α : Type} (xs : List α) {j : Int} (h : 0 ≤ j) : cut xs (some j) none = xs.drop j.toNat := by
  simp only [cut, sIx]
  rw [if_neg (by omega), Nat.min_def]
  split
  · exact List.take_of_length_le (by rw [List.length_drop]; omega)
  · rw [List.drop_of_length_le (Nat.le_refl _), List.drop_of_length_le (by omega)]
    simp
theorem cut_but1 {α : Type} (xs : List α) : cut xs none (some (-1)) = xs.take (xs.length - 1) := by
  simp only [cut, sIx]
  rw [if_pos (by omega), Nat.sub_zero, List.drop_zero]
  congr 1
  omega
theorem shuffled_ok {T : String → Option CDef} (hT : T "_law_draw" = some c__law_draw.c) (hS : T "_law_shuffled" = some c__law_shuffled.c) (n : Nat) (ns : List Int) (hn : ns.length ≤ 63) (h : PH) (c : Nat) (xs : List Int) (hc : h[c]? = some (.lst (iD xs))) (x : D) (us : List D) (hx : bltD .list x = some (.list us)) (hl : xs.length + 2 * us.length ≤ 10000000) (hu : us.length ≤ 10000) :
    ∃ (vs : List D) (ys : List Int), run T (n + 2) "_law_shuffled" [.d (.list (iD ns)), .cell c, .d x] h = .ok (.d (.list vs)) (h.set c (.lst (iD ys))) ∧ vs.Perm us ∧ ys.length ≤ xs.length + 2 * us.length := by
  rw [run_eq hS _ _ _ rfl]
  have hlt := lt_of_get hc
  simp only [c__law_shuffled]
  show ∃ vs ys, finish h.length (exB (run T (n + 1)) _ [some (.d (.list (iD ns))), some (.cell c), some (.d x), none, none] h) = _ ∧ _
  obtain ⟨ys, out, e, p, hy⟩ := shuf_loop hT n ns hn h c hlt (.d x) us.length whlMost xs us [] rfl (by unfold whlMost; omega) hl (by simpa using hu)
  refine ⟨out, ys, ?_, by simpa using p, hy⟩
  have hp : ex (run T (n + 1)) (.par [(3, true), (4, true)] (.cons (.blt .list (.var 2)) (.cons (.lst .nil) .nil))) [some (.d (.list (iD ns))), some (.cell c), some (.d x), none, none] h = .ok (.nx [some (.d (.list (iD ns))), some (.cell c), some (.d x), some (.cell h.length), some (.cell (h.length + 1))]) (shH h c xs us []) := by
    unfold shH
    rw [set_same hc]
    simp [evP, hx, toCell, parSet]
  rw [xb_cons, hp, rs_ok, kont_nx, xb_whl]
  have e' : whlL (fun σ h => (ev (run T (n + 1)) (.var 3) σ h).bind fun x h1 => ofO ((val h1 x).bind truD) h1) (fun σ h => exB (run T (n + 1)) (.cons (.app 4 (.pop 3 (.call "_law_draw" (.cons (.var 0) (.cons (.var 1) (.cons (.blt .len (.var 3)) .nil)))))) .nil) σ h) whlMost [some (.d (.list (iD ns))), some (.cell c), some (.d x), some (.cell h.length), some (.cell (h.length + 1))] (shH h c xs us []) = _ := e
  rw [e', rs_ok, kont_nx, xb_ret (v := .cell (h.length + 1)) (h1 := shH h c ys [] out) (by rfl)]
  simp only [finish, leave]
  rw [if_neg (by omega)]
  simp only [shH_f]
  unfold shH
  rw [List.take_append_of_le_length (by simp), List.take_of_length_le (by simp)]
def names8 : List Str := [Str.ofString "a", Str.ofString "b", Str.ofString "c", Str.ofString "d", Str.ofString "e", Str.ofString "f", Str.ofString "gg", Str.ofString "hh"]
/-- a drawn collection -/
structure Coll (most : Int) (ss : List Str) : Prop where
  pos : 0 < ss.length
  len : (ss.length : Int) ≤ most
  mem : ∀ s ∈ ss, s ∈ names8
  nd : ss.Nodup
  asc : ss.Pairwise leS
abbrev sD (ss : List Str) : List D := ss.map PyData.str
theorem strsOf_sD : ∀ ss : List Str, strsOf (sD ss) = some ss
  | [] => rfl
  | s :: r => by simp [strsOf, sD] at *; simp [strsOf_sD r]
theorem collection_ok {T : String → Option CDef} (hT : T "_law_draw" = some c__law_draw.c) (hS : T "_law_shuffled" = some c__law_shuffled.c) (hC : T "_law_collection" = some c__law_collection.c) (n : Nat) (ns : List Int) (hn : ns.length ≤ 63) (h : PH) (c : Nat) (xs : List Int) (hc : h[c]? = some (.lst (iD xs))) (hl : xs.length ≤ 1000000) (most : Int) (hm : 1 ≤ most) (hm8 : most ≤ 8) :
    ∃ (ss : List Str) (ys : List Int), run T (n + 3) "_law_collection" [.d (.list (iD ns)), .cell c, .d (.int most)] h = .ok (.k (.tuple (sD ss))) (h.set c (.lst (iD ys))) ∧ Coll most ss ∧ ys.length ≤ xs.length + 18 := by
  rw [run_eq hC _ _ _ rfl]
  simp only [c__law_collection]
  show ∃ ss ys, finish h.length (exB (run T (n + 2)) _ [some (.d (.list (iD ns))), some (.cell c), some (.d (.int most)), none] h) = _ ∧ _
  obtain ⟨vs, ys1, e1, p1, l1⟩ := shuffled_ok hT hS n ns hn h c xs hc (.list (sD names8)) (sD names8) rfl (by simp [names8]; omega) (by simp [names8])
  simp only [List.length_map] at l1
  rw [show names8.length = 8 from rfl] at l1
  rw [xb_asg (v := .d (.list vs)) (h1 := h.set c (.lst (iD ys1))) (by rw [ev_call (vs := [.d (.list (iD ns)), .cell c, .d (.list (sD names8))]) (h1 := h) (by rfl)]; exact e1)]
  simp only [List.set_cons_succ, List.set_cons_zero]
  obtain ⟨j, ys2, e2, j0, j1, l2⟩ := draw_ok hT (n + 1) ns hn (h.set c (.lst (iD ys1))) c ys1 (get_set hc) (by unfold lineN; omega) most (by omega)
  rw [List.set_set] at e2
  obtain ⟨ws, rfl, pw⟩ : ∃ ws : List Str, vs = sD ws ∧ ws.Perm names8 := by
    have : ∀ v ∈ vs, ∃ s : Str, v = .str s := fun v hv => by
      obtain ⟨s, _, e⟩ := List.mem_map.mp (p1.mem_iff.mp hv)
      exact ⟨s, e.symm⟩
    obtain ⟨ws, e⟩ : ∃ ws : List Str, vs = sD ws := by
      clear p1 e1
      induction vs with
      | nil => exact ⟨[], rfl⟩
      | cons v vs ih =>
        obtain ⟨s, rfl⟩ := this v List.mem_cons_self
        obtain ⟨ws, rfl⟩ := ih fun w hw => this w (List.mem_cons_of_mem _ hw)
        exact ⟨s :: ws, rfl⟩
    subst e
    refine ⟨ws, rfl, ?_⟩
    have inj : ∀ a b : Str, PyData.str a = PyData.str b → a = b := fun a b e => by cases e; rfl
    have q := p1.filterMap (fun d => match d with | .str s => some s | _ => none)
    have fm : ∀ l : List Str, (sD l).filterMap (fun d => match d with | .str s => some s | _ => none) = l := fun l => by
      induction l with
      | nil => rfl
      | cons a l ih => simp only [sD, List.map_cons, List.filterMap_cons] at *; rw [ih]
    rw [fm, fm] at q
    exact q
  have wl : ws.length = 8 := by rw [pw.length_eq]; rfl
  have hcut : cut (sD ws) none (some (1 + j)) = sD (ws.take (1 + j).toNat) := by
    rw [cut_to _ (by omega)]
    exact List.map_take.symm
  have tl : (ws.take (1 + j).toNat).length = (1 + j).toNat := by rw [List.length_take, wl]; omega
  refine ⟨sortS (ws.take (1 + j).toNat), ys2, ?_, ⟨?_, ?_, fun s hs => ?_, ?_, sortS_pw _⟩, by omega⟩
  · rw [xb_ret (v := .k (.tuple (sD (sortS (ws.take (1 + j).toNat))))) (h1 := h.set c (.lst (iD ys2)))]
    · exact fin_setK
    · refine ev_ktup (u := .d (.list (sD (sortS (ws.take (1 + j).toNat))))) (ev_blt (u := .d (.list (sD (ws.take (1 + j).toNat)))) ?_ rfl ?_) rfl
      · simp [e2]
        exact cut_to _ (by omega)
      · show (strsOf (sD (ws.take (1 + j).toNat))).bind _ = _
        rw [strsOf_sD]
        simp only [Option.bind_some]
        rw [if_pos (by rw [tl]; omega)]
  · rw [(sortS_perm _).length_eq, tl]; omega
  · rw [(sortS_perm _).length_eq, tl]; omega
  · exact pw.mem_iff.mp (List.mem_of_mem_take ((sortS_perm _).mem_iff.mp hs))
  · refine (sortS_perm _).nodup_iff.mpr (List.Nodup.sublist (List.take_sublist _ _) (pw.nodup_iff.mpr ?_))
    decide
end J
end JColl2

section JColl3
set_option Elab.async false
set_option linter.all false
set_option maxRecDepth 100000
set_option autoImplicit false
set_option maxHeartbeats 8000000
/-! J.Coll3: is_document, is_ascending, is_collection on texts. -/
namespace J
open PySem
theorem fin_rt {h : PH} {v : D} : finish h.length (.ok (.rt (.d v)) h) = .ok (.d v) h := by
  simp only [finish, leave]
  rw [List.take_of_length_le (Nat.le_refl _)]
@[simp] theorem boolsOf_map : ∀ bs : List Bool, boolsOf (bs.map PyData.bool) = some bs
  | [] => rfl
  | b :: r => by simp [boolsOf, boolsOf_map r]
theorem comp_map {α : Type} (f : D → PH → Rs (Option D)) (i g : α → D) (h : PH) (xs : List α) (hf : ∀ x ∈ xs, f (i x) h = .ok (some (g x)) h) : compL f (xs.map i) h = .ok (xs.map g) h := by
  rw [compL_pure f i (fun x => some (g x)) h xs hf]
  simp [List.filterMap_eq_map, Function.comp_def]
def lowS (c : Nat) : Bool := !strLt ⟨#[c]⟩ (Str.ofString "a") && !strLt (Str.ofString "z") ⟨#[c]⟩
def docB (s : Str) : Bool := decide (1 ≤ s.length) && decide (s.length ≤ 3) && s.cps.toList.all lowS
theorem ev_lc1 {Γ : Fns} {it : CI} {t : Tg} {c e : CE} {own : List Nat} {σ : PEnv} {h h1 : PH} {xs r : List D} (hi : evI Γ it σ h = .ok xs h1) (hl : xs.length ≤ lineN) (hc : compL (compF t own (fun σ h => ev Γ c σ h) (fun σ h => ev Γ e σ h) σ) xs h1 = .ok r h1) : ev Γ (.lc it t c e own) σ h = .ok (.d (.list r)) h1 := by
  rw [ev_24, hi, rs_ok, if_pos hl, hc, rs_ok]
theorem is_document_ok {T : String → Option CDef} (hD : T "is_document" = some c_is_document.c) (n : Nat) (h : PH) (s : Str) (hs : s.length ≤ lineN) : run T (n + 1) "is_document" [.d (.str s)] h = .ok (.d (.bool (docB s))) h := by
  rw [run_eq hD _ _ _ rfl]
  simp only [c_is_document]
  show finish h.length (exB (run T n) _ [some (.d (.str s)), none] h) = _
  have q : ev (run T n) (.or (.not (.isi (.var 0) .str)) (.not (.chain .le .le (.lit (.int 1)) (.blt .len (.var 0)) (.lit (.int 3))))) [some (.d (.str s)), none] h = .ok (.d (.bool (!(decide (1 ≤ s.length) && decide (s.length ≤ 3))))) h := by
    by_cases h1 : 1 ≤ s.length
    · have h1' : (1 : Int) ≤ (s.length : Nat) := by omega
      have h3 : decide ((s.length : Int) ≤ 3) = decide (s.length ≤ 3) := by
        by_cases q : s.length ≤ 3
        · rw [decide_eq_true q, decide_eq_true (by omega)]
        · rw [decide_eq_false q, decide_eq_false (by omega)]
      simp [isiD, blt_lenS hs, h1, h1', h3]
    · have h1' : ¬ (1 : Int) ≤ (s.length : Nat) := by omega
      simp [isiD, blt_lenS hs, h1, h1']
  cases b : (decide (1 ≤ s.length) && decide (s.length ≤ 3)) with
  | false =>
    rw [b] at q
    rw [xb_iteT q rfl]
    unfold docB
    rw [b, Bool.false_and]
    exact fin_rt
  | true =>
    rw [b] at q
    rw [xb_skip q rfl]
    unfold docB
    rw [b, Bool.true_and]
    rw [xb_ret (v := .d (.bool (s.cps.toList.all lowS))) (h1 := h)]
    · exact fin_rt
    · have key : ev (run T n) (.lc (.seq (.var 0)) (.nm 1) (.lit (.bl true)) (.chain .le .le (.lit (.str "a")) (.var 1) (.lit (.str "z"))) [1]) [some (.d (.str s)), none] h = .ok (.d (.list ((s.cps.toList.map lowS).map .bool))) h := by
        refine ev_lc1 (xs := s.cps.toList.map fun c => .str ⟨#[c]⟩) (by rfl) ?_ ?_
        · rw [List.length_map]
          have : s.cps.toList.length = s.length := by rw [Array.length_toList]; rfl
          omega
        · rw [List.map_map]
          refine comp_map _ _ _ _ _ fun c _ => ?_
          simp only [compF, wipeP, assignD, List.set_cons_succ, List.set_cons_zero, ofO_some, rs_ok, ev_2, dat_bl, calm_ok_, val_d, Option.bind_some, tru_bool, ev_9, ev_0, dat_str, List.getElem?_cons_succ, List.getElem?_cons_zero, Function.comp_def, lowS]
          show ((match !strLt ⟨#[c]⟩ (Str.ofString "a") with | true => _ | false => _ : Rs PV).calm.bind _) = _
          cases strLt ⟨#[c]⟩ (Str.ofString "a") <;> rfl
      refine ev_blt key rfl ?_
      rw [blt_all, boolsOf_map]
      simp
/-! ascending -/
def ascB (ss : List Str) : Bool := (ss.zip (ss.drop 1)).all fun p => strLt p.1 p.2
theorem zipD_map : ∀ (a b : List Str), zipD (sD a) (sD b) = (a.zip b).map fun p => PyData.tuple [.str p.1, .str p.2]
  | [], _ => by simp [zipD]
  | _ :: _, [] => by simp [zipD]
  | x :: a, y :: b => by
    have := zipD_map a b
    simp only [sD, List.map_cons, zipD, List.zip_cons_cons] at *
    rw [this]
theorem is_ascending_ok {T : String → Option CDef} (hA : T "is_ascending" = some c_is_ascending.c) (n : Nat) (h : PH) (ss : List Str) (hl : ss.length ≤ lineN) : run T (n + 1) "is_ascending" [.d (.tuple (sD ss))] h = .ok (.d (.bool (ascB ss))) h := by
  rw [run_eq hA _ _ _ rfl]
  simp only [c_is_ascending]
  show finish h.length (exB (run T n) _ [some (.d (.tuple (sD ss))), none, none] h) = _
  rw [xb_ret (v := .d (.bool (ascB ss))) (h1 := h)]
  · exact fin_rt
  · refine ev_blt (u := .d (.list (((ss.zip (ss.drop 1)).map fun p => strLt p.1 p.2).map .bool))) (ev_lc1 (xs := (ss.zip (ss.drop 1)).map fun p => PyData.tuple [.str p.1, .str p.2]) ?_ ?_ ?_) rfl ?_
    · simp only [evI, ev_0, ev_16, evO, ev_2, dat_int, List.getElem?_cons_zero, rs_ok, val_d, Option.bind_some, sl_T, Option.map_some, ofO_some]
      rw [cut_from _ (by decide)]
      show Rs.ok (zipD (sD ss) ((sD ss).drop 1)) h = _
      rw [show (sD ss).drop 1 = sD (ss.drop 1) from List.map_drop.symm, zipD_map]
    · rw [List.length_map, List.length_zip, List.length_drop]; omega
    · rw [List.map_map]
      refine comp_map _ _ _ _ _ fun p _ => ?_
      simp [compF, wipeP, assignD, assignDs, cmpD]
    · rw [blt_all, boolsOf_map]
      simp [ascB, Function.comp_def]
def collB (ss : List Str) : Bool := decide (1 ≤ ss.length) && decide (ss.length ≤ 7) && (ss.all docB && ascB ss)
theorem is_collection_ok {T : String → Option CDef} (hD : T "is_document" = some c_is_document.c) (hA : T "is_ascending" = some c_is_ascending.c) (hC : T "is_collection" = some c_is_collection.c) (n : Nat) (h : PH) (ss : List Str) (hs : ∀ s ∈ ss, s.length ≤ lineN) : run T (n + 2) "is_collection" [.d (.tuple (sD ss))] h = .ok (.d (.bool (collB ss))) h := by
  rw [run_eq hC _ _ _ rfl]
  simp only [c_is_collection]
  show finish h.length (exB (run T (n + 1)) _ [some (.d (.tuple (sD ss))), none] h) = _
  have q : ev (run T (n + 1)) (.or (.not (.isi (.var 0) .tuple)) (.not (.chain .le .le (.lit (.int 1)) (.blt .len (.var 0)) (.lit (.int 7))))) [some (.d (.tuple (sD ss))), none] h = .ok (.d (.bool (!(decide (1 ≤ ss.length) && decide (ss.length ≤ 7))))) h := by
    by_cases h1 : 1 ≤ ss.length
    · have h1' : (1 : Int) ≤ (ss.length : Nat) := by omega
      have h3 : decide ((ss.length : Int) ≤ 7) = decide (ss.length ≤ 7) := by
        by_cases q : ss.length ≤ 7
        · rw [decide_eq_true q, decide_eq_true (by omega)]
        · rw [decide_eq_false q, decide_eq_false (by omega)]
      simp [isiD, h1, h1', h3]
    · have h1' : ¬ (1 : Int) ≤ (ss.length : Nat) := by omega
      simp [isiD, h1, h1']
  unfold collB
  cases b : (decide (1 ≤ ss.length) && decide (ss.length ≤ 7)) with
  | false =>
    rw [b] at q
    rw [xb_iteT q rfl, Bool.false_and]
    exact fin_rt
  | true =>
    rw [b] at q
    rw [xb_skip q rfl, Bool.true_and]
    have hl : ss.length ≤ 7 := by
      rw [Bool.and_eq_true] at b
      exact of_decide_eq_true b.2
    have key : ev (run T (n + 1)) (.blt .all (.lc (.seq (.var 0)) (.nm 1) (.lit (.bl true)) (.call "is_document" (.cons (.var 1) .nil)) [1])) [some (.d (.tuple (sD ss))), none] h = .ok (.d (.bool (ss.all docB))) h := by
      refine ev_blt (u := .d (.list ((ss.map docB).map .bool))) (ev_lc1 (xs := sD ss) (by rfl) (by rw [List.length_map, line_n]; omega) ?_) rfl ?_
      · rw [List.map_map]
        refine comp_map _ _ _ _ _ fun s ms => ?_
        simp [compF, wipeP, assignD, is_document_ok hD n h s (hs s ms)]
      · rw [blt_all, boolsOf_map]
        simp [Function.comp_def]
    rw [xb_ret (v := .d (.bool (ss.all docB && ascB ss))) (h1 := h)]
    · exact fin_rt
    · rw [ev_12, key]
      simp only [rs_ok, val_d, Option.bind_some, tru_bool, ofO_some]
      cases ss.all docB with
      | false => rfl
      | true =>
        simp only [Bool.true_and]
        rw [ev_call (vs := [.d (.tuple (sD ss))]) (h1 := h) (by rfl)]
        exact is_ascending_ok hA n h ss (by rw [line_n]; omega)
/-! drawn collections are collections -/
theorem lt_of_le_ne {a b : Str} (h : leS a b) (hn : a ≠ b) : strLt a b = true := by
  cases q : strLt a b with
  | true => rfl
  | false => exact absurd (leS_anti a b h q) hn
theorem asc_of {ss : List Str} (h1 : ss.Pairwise leS) (h2 : ss.Nodup) : ascB ss = true := by
  induction ss with
  | nil => rfl
  | cons a r ih =>
    cases r with
    | nil => rfl
    | cons b r =>
      obtain ⟨p1, p2⟩ := List.pairwise_cons.mp h1
      obtain ⟨n1, n2⟩ := List.nodup_cons.mp h2
      have := ih p2 n2
      simp only [ascB, List.drop_succ_cons, List.drop_zero, List.zip_cons_cons, List.all_cons, Bool.and_eq_true] at this ⊢
      refine ⟨lt_of_le_ne (p1 b List.mem_cons_self) fun e => n1 (e ▸ List.mem_cons_self), ?_⟩
      exact this
theorem names8_doc : ∀ s ∈ names8, docB s = true ∧ s.length ≤ 3 := by decide +kernel
theorem Coll.ok {most : Int} {ss : List Str} (C : Coll most ss) (hm : most ≤ 7) : collB ss = true := by
  have hl := C.len
  have hp := C.pos
  have hd : ss.all docB = true := List.all_eq_true.mpr fun s hs => (names8_doc s (C.mem s hs)).1
  unfold collB
  rw [decide_eq_true (show 1 ≤ ss.length by omega), decide_eq_true (show ss.length ≤ 7 by omega), hd, asc_of C.asc C.nd]
  rfl
theorem Coll.small {most : Int} {ss : List Str} (C : Coll most ss) : ∀ s ∈ ss, s.length ≤ lineN := fun s hs => by
  have := (names8_doc s (C.mem s hs)).2
  rw [line_n]
  omega
end J
end JColl3

section JNum
set_option Elab.async false
set_option linter.all false
set_option maxRecDepth 100000
set_option autoImplicit false
set_option maxHeartbeats 8000000
/-! J.Num: is_integer, the greatest common divisor, lowest_terms. -/
namespace J
open PySem
def intIn (lo hi : Int) : D → Bool
  | .int i => decide (lo ≤ i) && decide (i ≤ hi)
  | _ => false
theorem is_integer_ok {T : String → Option CDef} (hI : T "is_integer" = some c_is_integer.c) (n : Nat) (h : PH) (x : D) (lo hi : Int) : run T (n + 1) "is_integer" [.d x, .d (.int lo), .d (.int hi)] h = .ok (.d (.bool (intIn lo hi x))) h := by
  rw [run_eq hI _ _ _ rfl]
  simp only [c_is_integer]
  rw [xb_ret (v := .d (.bool (intIn lo hi x))) (h1 := h)]
  · exact fin_rt
  · cases x with
    | int i => by_cases h1 : lo ≤ i <;> simp [isiD, intIn, h1]
    | _ => rfl
abbrev gcdB (i j : Nat) : CB := .cons (.par [(i, false), (j, false)] (.cons (.var j) (.cons (.bin .mod (.var i) (.var j)) .nil))) .nil
theorem set_id {σ : PEnv} {i : Nat} {v : Option PV} (e : σ[i]? = some v) : σ.set i v = σ := by
  apply List.ext_getElem?
  intro j
  rw [List.getElem?_set]
  split
  · rename_i z
    subst z
    split
    · exact e.symm
    · rename_i z; rw [List.getElem?_eq_none (by omega)] at e; cases e
  · rfl
theorem env_lt {σ : PEnv} {i : Nat} {v : Option PV} (e : σ[i]? = some v) : i < σ.length := by
  rcases Nat.lt_or_ge i σ.length with z | z
  · exact z
  · rw [List.getElem?_eq_none z] at e; cases e
theorem gcd_loop (Γ : Fns) (i j : Nat) (hij : i ≠ j) (h : PH) : ∀ (b a fuel : Nat) (σ : PEnv), b < fuel → σ[i]? = some (some (.d (.int a))) → σ[j]? = some (some (.d (.int b))) →
    whlL (fun σ h => (ev Γ (.var j) σ h).bind fun x h1 => ofO ((val h1 x).bind truD) h1) (fun σ h => exB Γ (gcdB i j) σ h) fuel σ h = .ok (.nx ((σ.set i (some (.d (.int (Nat.gcd a b))))).set j (some (.d (.int 0))))) h := by
  intro b
  induction b using Nat.strongRecOn with
  | ind b ih =>
    intro a fuel σ hf hi hj
    obtain ⟨f, rfl⟩ : ∃ f, fuel = f + 1 := ⟨fuel - 1, by omega⟩
    by_cases hb : b = 0
    · subst hb
      rw [whl_f (h1 := h) (by simp only [ev_0, hj, rs_ok, val_d, Option.bind_some, tru_int, ofO_some]; rfl)]
      rw [Nat.gcd_zero_right, set_id hi]
      exact congrArg (fun z => Rs.ok (Fl.nx z) h) (set_id (v := some (.d (.int 0))) hj).symm
    · have hb0 : (0 : Int) < (b : Nat) := by omega
      have hm : binD .mod (.int (a : Nat)) (.int (b : Nat)) = some (.int ((a % b : Nat) : Int)) := by
        rw [bin_modI hb0]; rfl
      have hc : (((b : Nat) : Int) != 0) = true := by simp; omega
      have step : exB Γ (gcdB i j) σ h = .ok (.nx ((σ.set i (some (.d (.int b)))).set j (some (.d (.int ((a % b : Nat) : Int)))))) h := by
        rw [xb_cons, ex_3]
        simp only [evP, ev_0, hi, hj, rs_ok, ev_5, val_d, Option.bind_some, hm, Option.map_some, ofO_some, parSet, kont_nx, exB_0]
      rw [whl_t (h1 := h) (by simp only [ev_0, hj, rs_ok, val_d, Option.bind_some, tru_int, ofO_some, hc]) step]
      have li := env_lt hi
      have lj := env_lt hj
      have r := ih (a % b) (Nat.mod_lt _ (by omega)) b f ((σ.set i (some (.d (.int b)))).set j (some (.d (.int ((a % b : Nat) : Int))))) (by have := Nat.mod_lt a (show 0 < b by omega); omega)
        (by rw [List.getElem?_set_ne (Ne.symm hij), List.getElem?_set_self li]) (by rw [List.getElem?_set_self (by simpa using lj)])
      rw [r]
      rw [show Nat.gcd b (a % b) = Nat.gcd a b by rw [Nat.gcd_comm, ← Nat.gcd_rec, Nat.gcd_comm]]
      have e1 : ∀ (u v w z : Option PV), (((σ.set i u).set j v).set i w).set j z = (σ.set i w).set j z := fun u v w z => by
        rw [List.set_comm _ _ (Ne.symm hij), List.set_set, List.set_set]
      rw [e1]
end J
end JNum

section JNum2
set_option Elab.async false
set_option linter.all false
set_option maxRecDepth 100000
set_option autoImplicit false
set_option maxHeartbeats 8000000
/-! J.Num2: lowest_terms, is_chance. -/
namespace J
open PySem
theorem divOk_nat {g : Nat} (h0 : 0 < g) (h1 : g < 2 ^ 200) : divOk (g : Int) = true := by
  unfold divOk
  rw [decide_eq_true (show (0 : Int) < g by omega), Bool.true_and]
  refine decide_eq_true ?_
  have : (g : Int).natAbs.log2 ≤ 200 := log2_le (by simpa using h1)
  omega
theorem lowest_ok {T : String → Option CDef} (hL : T "lowest_terms" = some c_lowest_terms.c) (n : Nat) (h : PH) (a b : Nat) (hb : 0 < b) (hb2 : b < 2 ^ 60) : run T (n + 1) "lowest_terms" [.d (.int a), .d (.int b)] h = .ok (.d (.tuple [.int ((a : Int) / (Nat.gcd a b : Nat)), .int ((b : Int) / (Nat.gcd a b : Nat))])) h := by
  rw [run_eq hL _ _ _ rfl]
  simp only [c_lowest_terms]
  show finish h.length (exB (run T n) _ [some (.d (.int a)), some (.d (.int b)), none, none] h) = _
  have hb0 : ((b : Int) == 0) = false := by simp; omega
  rw [xb_skip (v := .d (.bool false)) (h1 := h) (by
    refine ev_cmp (h1 := h) (h2 := h) (u := .d (.int b)) (w := .d (.int 0)) rfl rfl rfl rfl ?_
    rw [cmp_eqI]
    exact congrArg some hb0) rfl]
  have ha : (if (a : Int) < 0 then -(a : Int) else (a : Int)) = (a : Int) := if_neg (by omega)
  have hp : ex (run T n) (.par [(2, false), (3, false)] (.cons (.blt .abs (.var 0)) (.cons (.var 1) .nil))) [some (.d (.int a)), some (.d (.int b)), none, none] h = .ok (.nx [some (.d (.int a)), some (.d (.int b)), some (.d (.int a)), some (.d (.int b))]) h := by
    simp [evP, parSet, ha]
  rw [xb_cons, hp, rs_ok, kont_nx, xb_whl]
  rw [gcd_loop (run T n) 2 3 (by decide) h b a whlMost _ (by unfold whlMost; omega) rfl rfl, rs_ok, kont_nx]
  simp only [List.set_cons_succ, List.set_cons_zero]
  have hg : 0 < Nat.gcd a b := Nat.gcd_pos_of_pos_right _ hb
  have hg2 : Nat.gcd a b < 2 ^ 200 := Nat.lt_of_le_of_lt (Nat.le_of_dvd hb (Nat.gcd_dvd_right a b)) (Nat.lt_trans hb2 (Nat.pow_lt_pow_right (by decide) (by decide)))
  rw [xb_ret (v := .d (.tuple [.int ((a : Int) / (Nat.gcd a b : Nat)), .int ((b : Int) / (Nat.gcd a b : Nat))])) (h1 := h)]
  · exact fin_rt
  · have d1 := bin_fdivI (a := (a : Int)) (divOk_nat hg hg2)
    have d2 := bin_fdivI (a := (b : Int)) (divOk_nat hg hg2)
    simp only [ev_3, evD, ev_5, ev_0, List.getElem?_cons_zero, List.getElem?_cons_succ, rs_ok, val_d, Option.bind_some, d1, d2, Option.map_some, ofO_some]
    rfl
def chI (a b : Int) : Bool := (decide (1 ≤ b) && decide (b ≤ 20)) && ((decide (0 ≤ a) && decide (a ≤ b)) && (Nat.gcd a.toNat b.toNat == 1))
/-- a chance in lowest terms -/
def chD : D → Bool
  | .tuple [.int a, .int b] => chI a b
  | _ => false
theorem low_eq {a b : Nat} (hb : 0 < b) : ((((a : Int) / (Nat.gcd a b : Nat)) == (a : Int)) && (((b : Int) / (Nat.gcd a b : Nat)) == (b : Int))) = (Nat.gcd a b == 1) := by
  have e1 : ((a : Int) / (Nat.gcd a b : Nat)) = ((a / Nat.gcd a b : Nat) : Int) := rfl
  have e2 : ((b : Int) / (Nat.gcd a b : Nat)) = ((b / Nat.gcd a b : Nat) : Int) := rfl
  by_cases h : Nat.gcd a b = 1
  · simp [h]
  · have hg : 0 < Nat.gcd a b := Nat.gcd_pos_of_pos_right _ hb
    have hlt : b / Nat.gcd a b < b := Nat.div_lt_self hb (by omega)
    have : (((b : Int) / (Nat.gcd a b : Nat)) == (b : Int)) = false := by
      rw [e2]
      simp only [beq_eq_false_iff_ne, ne_eq]
      omega
    rw [this, Bool.and_false]
    symm
    simpa using h
theorem len_tail {α : Type} (a b c : α) (r : List α) : (((a :: b :: c :: r).length : Nat) : Int) ≠ 2 := by simp only [List.length_cons]; omega
theorem is_chance_ok {T : String → Option CDef} (hI : T "is_integer" = some c_is_integer.c) (hL : T "lowest_terms" = some c_lowest_terms.c) (hC : T "is_chance" = some c_is_chance.c) (n : Nat) (h : PH) (x : D) : run T (n + 2) "is_chance" [.d x] h = .ok (.d (.bool (chD x))) h := by
  rw [run_eq hC _ _ _ rfl]
  simp only [c_is_chance]
  cases x with
  | tuple us =>
    show finish h.length (exB (run T (n + 1)) _ [some (.d (.tuple us))] h) = _
    match us with
    | [] => exact fin_rt
    | [a] =>
      rw [show chD (.tuple [a]) = false by cases a <;> rfl]
      exact fin_rt
    | a :: b :: c :: r =>
      have q : ev (run T (n + 1)) (.or (.not (.isi (.var 0) .tuple)) (.or (.cmp .ne (.blt .len (.var 0)) (.lit (.int 2))) (.not (.call "is_integer" (.cons (.ix (.var 0) (.lit (.int 1))) (.cons (.lit (.int 1)) (.cons (.lit (.int 20)) .nil))))))) [some (.d (.tuple (a :: b :: c :: r)))] h = .ok (.d (.bool true)) h := by
        have l : ev (run T (n + 1)) (.cmp .ne (.blt .len (.var 0)) (.lit (.int 2))) [some (.d (.tuple (a :: b :: c :: r)))] h = .ok (.d (.bool true)) h := by
          refine ev_cmp (h1 := h) (h2 := h) (u := .d (.int ((a :: b :: c :: r).length : Nat))) (w := .d (.int 2)) rfl rfl rfl rfl ?_
          rw [cmp_neI]
          simp only [PyData.eqv]
          have := len_tail a b c r
          rw [beq_false_of_ne this]
          rfl
        rw [ev_13]
        show (ev (run T (n + 1)) (.or (.cmp .ne (.blt .len (.var 0)) (.lit (.int 2))) (.not (.call "is_integer" (.cons (.ix (.var 0) (.lit (.int 1))) (.cons (.lit (.int 1)) (.cons (.lit (.int 20)) .nil)))))) [some (.d (.tuple (a :: b :: c :: r)))] h) = _
        rw [ev_13, l]
        rfl
      rw [xb_iteT q rfl]
      rw [show chD (.tuple (a :: b :: c :: r)) = false by cases a <;> cases b <;> rfl]
      exact fin_rt
    | [a, b] =>
      have q : ev (run T (n + 1)) (.or (.not (.isi (.var 0) .tuple)) (.or (.cmp .ne (.blt .len (.var 0)) (.lit (.int 2))) (.not (.call "is_integer" (.cons (.ix (.var 0) (.lit (.int 1))) (.cons (.lit (.int 1)) (.cons (.lit (.int 20)) .nil))))))) [some (.d (.tuple [a, b]))] h = .ok (.d (.bool (!intIn 1 20 b))) h := by
        rw [ev_13]
        show (ev (run T (n + 1)) (.or (.cmp .ne (.blt .len (.var 0)) (.lit (.int 2))) (.not (.call "is_integer" (.cons (.ix (.var 0) (.lit (.int 1))) (.cons (.lit (.int 1)) (.cons (.lit (.int 20)) .nil)))))) [some (.d (.tuple [a, b]))] h) = _
        rw [ev_13]
        show (ev (run T (n + 1)) (.not (.call "is_integer" (.cons (.ix (.var 0) (.lit (.int 1))) (.cons (.lit (.int 1)) (.cons (.lit (.int 20)) .nil))))) [some (.d (.tuple [a, b]))] h) = _
        rw [ev_7, ev_call (vs := [.d b, .d (.int 1), .d (.int 20)]) (h1 := h) (by rfl), is_integer_ok hI]
        rfl
      cases qb : intIn 1 20 b with
      | false =>
        rw [qb] at q
        rw [xb_iteT q rfl]
        rw [show chD (.tuple [a, b]) = false by
          cases a <;> cases b <;> first | rfl | (simp only [intIn] at qb; simp only [chD, chI, qb, Bool.false_and])]
        exact fin_rt
      | true =>
        rw [qb] at q
        rw [xb_skip q rfl]
        obtain ⟨j, rfl⟩ : ∃ j, b = .int j := by cases b <;> first | exact ⟨_, rfl⟩ | cases qb
        rw [xb_ret (v := .d (.bool (chD (.tuple [a, .int j])))) (h1 := h)]
        · exact fin_rt
        · rw [ev_12, ev_call (vs := [.d a, .d (.int 0), .d (.int j)]) (h1 := h) (by rfl), is_integer_ok hI]
          simp only [rs_ok, val_d, Option.bind_some, tru_bool, ofO_some]
          cases qa : intIn 0 j a with
          | false =>
            rw [show chD (.tuple [a, .int j]) = false by
              cases a <;> first | rfl | (simp only [intIn] at qa; simp only [chD, chI, qa, Bool.false_and, Bool.and_false])]
          | true =>
            obtain ⟨i, rfl⟩ : ∃ i, a = .int i := by cases a <;> first | exact ⟨_, rfl⟩ | cases qa
            simp only [intIn, Bool.and_eq_true, decide_eq_true_eq] at qa qb
            obtain ⟨a', rfl⟩ : ∃ a' : Nat, i = a' := ⟨i.toNat, by omega⟩
            obtain ⟨b', rfl⟩ : ∃ b' : Nat, j = b' := ⟨j.toNat, by omega⟩
            refine ev_cmp (h1 := h) (h2 := h) (w := .d (.tuple [.int a', .int b'])) (by rw [ev_call (vs := [.d (.int a'), .d (.int b')]) (h1 := h) (by rfl)]; exact lowest_ok hL n h a' b' (by omega) (by omega)) rfl rfl rfl ?_
            rw [cmp_eq rfl rfl]
            simp only [PyData.eqv, PyData.eqvAll, Bool.and_true]
            rw [low_eq (by omega)]
            simp only [chD, chI, qa, qb, decide_true, Bool.true_and, Int.toNat_natCast]
  | _ => exact fin_rt
end J
end JNum2

section JOdds
set_option Elab.async false
set_option linter.all false
set_option maxRecDepth 100000
set_option autoImplicit false
set_option maxHeartbeats 8000000
/-! J.Odds: drawn chances; are_chances. -/
namespace J
open PySem
/-- a heap with the state's cell at c and one cell more -/
abbrev oH (h : PH) (c : Nat) (xs : List Int) (f : List D) : PH := h.set c (.lst (iD xs)) ++ [.lst f]
section
variable {h : PH} {c : Nat} {xs ys : List Int} {f g : List D}
theorem oH_c (hc : c < h.length) : (oH h c xs f)[c]? = some (.lst (iD xs)) := by
  unfold oH
  rw [List.getElem?_append_left (by simpa using hc), List.getElem?_set_self hc]
theorem oH_f : (oH h c xs f)[h.length]? = some (.lst f) := by
  unfold oH
  rw [List.getElem?_append_right (by simp)]
  simp
theorem oH_setc (hc : c < h.length) : (oH h c xs f).set c (.lst (iD ys)) = oH h c ys f := by
  unfold oH
  rw [List.set_append_left _ _ (by simpa using hc), List.set_set]
theorem oH_setf : (oH h c xs f).set h.length (.lst g) = oH h c xs g := by
  unfold oH
  rw [List.set_append_right _ _ (by simp)]
  simp
end
def bots : List D := [.int 1, .int 2, .int 3, .int 4, .int 10, .int 20]
def oddsB : CB := match (match c__law_odds.c.body with | .cons _ (.cons s _) => s | _ => .pass) with
  | .for_ _ _ b => b
  | _ => .nil
theorem odds_step {T : String → Option CDef} (hT : T "_law_draw" = some c__law_draw.c) (hP : T "_law_pick" = some c__law_pick.c) (n : Nat) (ns : List Int) (hn : ns.length ≤ 63) (h : PH) (c : Nat) (hc : c < h.length) (t : Option PV) (x : D) (v4 v5 v6 v7 v8 : Option PV) (xs : List Int) (f : List D) (hx : xs.length ≤ 1000000) (hf : f.length ≤ 10000) :
    ∃ (ys : List Int) (p q : Int) (w4 w5 w6 w7 w8 : Option PV), exB (run T (n + 2)) oddsB [some (.d (.list (iD ns))), some (.cell c), t, some (.cell h.length), some (.d x), v5, v6, v7, v8] (oH h c xs f) = .ok (.nx [some (.d (.list (iD ns))), some (.cell c), t, some (.cell h.length), w4, w5, w6, w7, w8]) (oH h c ys (f ++ [.tuple [.int p, .int q]])) ∧ p.natAbs ≤ 20 ∧ q.natAbs ≤ 20 ∧ ys.length ≤ xs.length + 4 := by
  obtain ⟨bo, ys1, e1, mb, l1⟩ := pick_ok hT hP n ns hn (oH h c xs f) c xs (oH_c hc) (by unfold lineN; omega) bots (by simp [bots])
  rw [oH_setc hc] at e1
  obtain ⟨b, rfl, b1, b2⟩ : ∃ b : Nat, bo = .int b ∧ 1 ≤ b ∧ b ≤ 20 := by
    simp only [bots, List.mem_cons, List.not_mem_nil, or_false] at mb
    rcases mb with rfl | rfl | rfl | rfl | rfl | rfl
    · exact ⟨1, rfl, by decide, by decide⟩
    · exact ⟨2, rfl, by decide, by decide⟩
    · exact ⟨3, rfl, by decide, by decide⟩
    · exact ⟨4, rfl, by decide, by decide⟩
    · exact ⟨10, rfl, by decide, by decide⟩
    · exact ⟨20, rfl, by decide, by decide⟩
  obtain ⟨r, ys2, e2, r0, r1, l2⟩ := draw_ok hT (n + 1) ns hn (oH h c ys1 f) c ys1 (oH_c hc) (by unfold lineN; omega) ((b : Int) + 1) (by omega)
  rw [oH_setc hc] at e2
  obtain ⟨a, rfl⟩ : ∃ a : Nat, r = a := ⟨r.toNat, by omega⟩
  have hg : 0 < Nat.gcd a b := Nat.gcd_pos_of_pos_right _ (by omega)
  have hgb : Nat.gcd a b ≤ b := Nat.le_of_dvd (by omega) (Nat.gcd_dvd_right a b)
  have dk : divOk (Nat.gcd a b : Nat) = true := divOk_nat hg (Nat.lt_of_le_of_lt (Nat.le_trans hgb b2) (by decide))
  refine ⟨ys2, (a : Int) / (Nat.gcd a b : Nat), (b : Int) / (Nat.gcd a b : Nat), some (.d (.int (Nat.gcd a b : Nat))), some (.d (.int b)), some (.d (.int a)), some (.d (.int b)), some (.d (.int 0)), ?_, ?_, ?_, by omega⟩
  · simp only [oddsB, c__law_odds]
    rw [xb_asg (v := .d (.int b)) (h1 := oH h c ys1 f) (by rw [ev_call (vs := [.d (.list (iD ns)), .cell c, .d (.list bots)]) (h1 := oH h c xs f) (by rfl)]; exact e1)]
    simp only [List.set_cons_succ, List.set_cons_zero]
    have p1 : ex (run T (n + 2)) (.par [(6, false), (7, false)] (.cons (.call "_law_draw" (.cons (.var 0) (.cons (.var 1) (.cons (.bin .add (.var 5) (.lit (.int 1))) .nil)))) (.cons (.var 5) .nil))) [some (.d (.list (iD ns))), some (.cell c), t, some (.cell h.length), some (.d x), some (.d (.int b)), v6, v7, v8] (oH h c ys1 f) = .ok (.nx [some (.d (.list (iD ns))), some (.cell c), t, some (.cell h.length), some (.d x), some (.d (.int b)), some (.d (.int a)), some (.d (.int b)), v8]) (oH h c ys2 f) := by
      have ec := ev_call (f := "_law_draw") (Γ := run T (n + 2)) (as := .cons (.var 0) (.cons (.var 1) (.cons (.bin .add (.var 5) (.lit (.int 1))) .nil))) (σ := [some (.d (.list (iD ns))), some (.cell c), t, some (.cell h.length), some (.d x), some (.d (.int b)), v6, v7, v8]) (vs := [.d (.list (iD ns)), .cell c, .d (.int ((b : Int) + 1))]) (h := oH h c ys1 f) (h1 := oH h c ys1 f) (by rfl)
      rw [e2] at ec
      simp only [ex_3, evP, ec, rs_ok, ev_0, List.getElem?_cons_succ, List.getElem?_cons_zero, parSet, List.set_cons_succ, List.set_cons_zero]
    rw [xb_cons, p1, rs_ok, kont_nx]
    have p2 : ex (run T (n + 2)) (.par [(4, false), (8, false)] (.cons (.var 6) (.cons (.var 5) .nil))) [some (.d (.list (iD ns))), some (.cell c), t, some (.cell h.length), some (.d x), some (.d (.int b)), some (.d (.int a)), some (.d (.int b)), v8] (oH h c ys2 f) = .ok (.nx [some (.d (.list (iD ns))), some (.cell c), t, some (.cell h.length), some (.d (.int a)), some (.d (.int b)), some (.d (.int a)), some (.d (.int b)), some (.d (.int b))]) (oH h c ys2 f) := by
      simp only [ex_3, evP, rs_ok, ev_0, List.getElem?_cons_succ, List.getElem?_cons_zero, parSet, List.set_cons_succ, List.set_cons_zero]
    rw [xb_cons, p2, rs_ok, kont_nx, xb_whl, gcd_loop (run T (n + 2)) 4 8 (by decide) _ b a whlMost _ (by unfold whlMost; omega) rfl rfl, rs_ok, kont_nx]
    simp only [List.set_cons_succ, List.set_cons_zero]
    have d1 := bin_fdivI (a := (a : Int)) dk
    have d2 := bin_fdivI (a := (b : Int)) dk
    rw [xb_app (n := h.length) (x := .tuple [.int ((a : Int) / (Nat.gcd a b : Nat)), .int ((b : Int) / (Nat.gcd a b : Nat))]) (xs := f) (h1 := oH h c ys2 f) rfl (isC_ok oH_f) (by
      simp only [ev_3, evD, ev_5, ev_0, List.getElem?_cons_zero, List.getElem?_cons_succ, rs_ok, val_d, Option.bind_some, d1, d2, Option.map_some, ofO_some]
      rfl) oH_f (by rw [line_n]; omega), oH_setf, exB_0]
  · have : ((a : Int) / (Nat.gcd a b : Nat)) = ((a / Nat.gcd a b : Nat) : Int) := rfl
    rw [this, Int.natAbs_natCast]
    have := Nat.div_le_self a (Nat.gcd a b)
    omega
  · have : ((b : Int) / (Nat.gcd a b : Nat)) = ((b / Nat.gcd a b : Nat) : Int) := rfl
    rw [this, Int.natAbs_natCast]
    have := Nat.div_le_self b (Nat.gcd a b)
    omega
theorem odds_loop {T : String → Option CDef} (hT : T "_law_draw" = some c__law_draw.c) (hP : T "_law_pick" = some c__law_pick.c) (n : Nat) (ns : List Int) (hn : ns.length ≤ 63) (h : PH) (c : Nat) (hc : c < h.length) (t : Option PV) : ∀ (ds : List D) (v4 v5 v6 v7 v8 : Option PV) (xs : List Int) (f : List D), xs.length + 4 * ds.length ≤ 1000000 → f.length + ds.length ≤ 10000 →
    ∃ (ys : List Int) (os : List D) (w4 w5 w6 w7 w8 : Option PV), forL (fun x σ h => (ofO (assignD (.nm 4) x σ) h).bind fun σ' h => exB (run T (n + 2)) oddsB σ' h) ds [some (.d (.list (iD ns))), some (.cell c), t, some (.cell h.length), v4, v5, v6, v7, v8] (oH h c xs f) = .ok (.nx [some (.d (.list (iD ns))), some (.cell c), t, some (.cell h.length), w4, w5, w6, w7, w8]) (oH h c ys (f ++ os)) ∧ os.length = ds.length ∧ (∀ o ∈ os, gd 1 o = true) ∧ ys.length ≤ xs.length + 4 * ds.length
  | [], v4, v5, v6, v7, v8, xs, f, _, _ => ⟨xs, [], v4, v5, v6, v7, v8, by rw [List.append_nil]; rfl, rfl, (fun _ ho => nomatch ho), Nat.le_add_right _ _⟩
  | d :: ds, v4, v5, v6, v7, v8, xs, f, hx, hf => by
    simp only [List.length_cons] at hx hf
    obtain ⟨ys1, p, q, a4, a5, a6, a7, a8, e1, hp, hq, l1⟩ := odds_step hT hP n ns hn h c hc t d v4 v5 v6 v7 v8 xs f (by omega) (by omega)
    obtain ⟨ys2, os, w4, w5, w6, w7, w8, e2, ho, hg, l2⟩ := odds_loop hT hP n ns hn h c hc t ds a4 a5 a6 a7 a8 ys1 (f ++ [.tuple [.int p, .int q]]) (by omega) (by simp only [List.length_append, List.length_cons, List.length_nil]; omega)
    refine ⟨ys2, .tuple [.int p, .int q] :: os, w4, w5, w6, w7, w8, ?_, by simp [ho], ?_, by simp only [List.length_cons]; omega⟩
    · rw [forL_cons _ d ds (σ' := [some (.d (.list (iD ns))), some (.cell c), t, some (.cell h.length), a4, a5, a6, a7, a8]) (h1 := oH h c ys1 (f ++ [.tuple [.int p, .int q]]))]
      · rw [e2, List.append_assoc]
        rfl
      · simp only [assignD, ofO_some, rs_ok, List.set_cons_succ, List.set_cons_zero]
        exact e1
    · intro o mo
      rcases List.mem_cons.mp mo with rfl | mo
      · refine gd_tup' (by simp) fun y hy => ?_
        simp only [List.mem_cons, List.not_mem_nil, or_false] at hy
        rcases hy with rfl | rfl <;> (simp only [gd, decide_eq_true_eq]; omega)
      · exact hg o mo
theorem odds_ok {T : String → Option CDef} (hT : T "_law_draw" = some c__law_draw.c) (hP : T "_law_pick" = some c__law_pick.c) (hO : T "_law_odds" = some c__law_odds.c) (n : Nat) (ns : List Int) (hn : ns.length ≤ 63) (h : PH) (c : Nat) (xs : List Int) (hc : h[c]? = some (.lst (iD xs))) (hl : xs.length ≤ 100000) (ss : List D) (hs : ss.length ≤ 100) :
    ∃ (os : List D) (ys : List Int), run T (n + 3) "_law_odds" [.d (.list (iD ns)), .cell c, .d (.tuple ss)] h = .ok (.d (.tuple os)) (h.set c (.lst (iD ys))) ∧ os.length = ss.length ∧ (∀ o ∈ os, gd 1 o = true) ∧ ys.length ≤ xs.length + 4 * ss.length := by
  rw [run_eq hO _ _ _ rfl]
  have hlt := lt_of_get hc
  show ∃ os ys, finish h.length (exB (run T (n + 2)) c__law_odds.c.body [some (.d (.list (iD ns))), some (.cell c), some (.d (.tuple ss)), none, none, none, none, none, none] h) = _ ∧ _
  obtain ⟨ys, os, w4, w5, w6, w7, w8, e, ho, hg, l⟩ := odds_loop hT hP n ns hn h c hlt (some (.d (.tuple ss))) ss none none none none none xs [] (by omega) (by simp; omega)
  refine ⟨os, ys, ?_, ho, hg, l⟩
  have hb : c__law_odds.c.body = .cons (.asgC 3 (.lst .nil)) (.cons (.for_ (.seq (.var 2)) (.nm 4) oddsB) (.cons (.ret (.blt .tuple (.var 3))) .nil)) := rfl
  rw [hb, xb_asgC (xs := []) (h1 := h) (by rfl)]
  simp only [List.set_cons_succ, List.set_cons_zero]
  have hh : h ++ [Cl.lst []] = oH h c xs [] := by unfold oH; rw [set_same hc]
  rw [hh, xb_for (xs := ss) (h1 := oH h c xs []) (by rfl), e, rs_ok, kont_nx, List.nil_append]
  rw [xb_ret (v := .d (.tuple os)) (h1 := oH h c ys os) (ev_blt (u := .cell h.length) (by rfl) (val_cell oH_f) rfl)]
  simp only [finish, leave]
  unfold oH
  rw [List.take_append_of_le_length (by simp), List.take_of_length_le (by simp)]
/-! are_chances -/
theorem require_ok {T : String → Option CDef} (hD : T "is_document" = some c_is_document.c) (hA : T "is_ascending" = some c_is_ascending.c) (hC : T "is_collection" = some c_is_collection.c) (hR : T "require_collection" = some c_require_collection.c) (n : Nat) (h : PH) (ss : List Str) (hs : ∀ s ∈ ss, s.length ≤ lineN) : run T (n + 3) "require_collection" [.d (.tuple (sD ss))] h = if collB ss then .ok (.d .none) h else .exc "InvalidCollection" h := by
  rw [run_eq hR _ _ _ rfl]
  simp only [c_require_collection]
  show finish h.length (exB (run T (n + 2)) _ [some (.d (.tuple (sD ss)))] h) = _
  have q : ev (run T (n + 2)) (.not (.call "is_collection" (.cons (.var 0) .nil))) [some (.d (.tuple (sD ss)))] h = .ok (.d (.bool (!collB ss))) h := by
    rw [ev_7, ev_call (vs := [.d (.tuple (sD ss))]) (h1 := h) (by rfl), is_collection_ok hD hA hC n h ss hs]
    rfl
  cases b : collB ss with
  | true =>
    rw [b] at q
    rw [xb_skip q rfl, exB_0]
    simp only [finish, if_true]
    rw [List.take_of_length_le (Nat.le_refl _)]
  | false =>
    rw [b] at q
    rw [xb_iteT q rfl, xb_cons, ex_12]
    simp only [rs_exc, finish, Bool.false_eq_true, if_false]
    rw [List.take_of_length_le (Nat.le_refl _)]
/-- chances for so many documents -/
def chsD (n : Nat) : D → Bool
  | .tuple us => (us.length == n) && us.all chD
  | _ => false
theorem valid_chances_ok {T : String → Option CDef} (hI : T "is_integer" = some c_is_integer.c) (hL : T "lowest_terms" = some c_lowest_terms.c) (hC : T "is_chance" = some c_is_chance.c) (hV : T "are_valid_chances" = some c_are_valid_chances.c) (n : Nat) (h : PH) (ss : List D) (x : D) (hx : ∀ us, x = .tuple us → us.length ≤ lineN) : run T (n + 3) "are_valid_chances" [.d (.tuple ss), .d x] h = .ok (.d (.bool (chsD ss.length x))) h := by
  rw [run_eq hV _ _ _ rfl]
  simp only [c_are_valid_chances]
  show finish h.length (exB (run T (n + 2)) _ [some (.d (.tuple ss)), some (.d x), none] h) = _
  cases x with
  | tuple us =>
    have q : ev (run T (n + 2)) (.or (.not (.isi (.var 1) .tuple)) (.cmp .ne (.blt .len (.var 1)) (.blt .len (.var 0)))) [some (.d (.tuple ss)), some (.d (.tuple us)), none] h = .ok (.d (.bool (!(us.length == ss.length)))) h := by
      rw [ev_13]
      show ev (run T (n + 2)) (.cmp .ne (.blt .len (.var 1)) (.blt .len (.var 0))) [some (.d (.tuple ss)), some (.d (.tuple us)), none] h = _
      refine ev_cmp (h1 := h) (h2 := h) (u := .d (.int (us.length : Nat))) (w := .d (.int (ss.length : Nat))) rfl rfl rfl rfl ?_
      rw [cmp_neI]
      simp only [PyData.eqv]
      congr 2
      by_cases e : us.length = ss.length
      · rw [e]; simp
      · rw [beq_false_of_ne e, beq_false_of_ne (by omega)]
    have hd : chsD ss.length (.tuple us) = ((us.length == ss.length) && us.all chD) := rfl
    rw [hd]
    cases b : (us.length == ss.length) with
    | false =>
      rw [b] at q
      rw [xb_iteT q rfl]
      exact fin_rt
    | true =>
      rw [b] at q
      rw [xb_skip q rfl]
      simp only [Bool.true_and]
      rw [xb_ret (v := .d (.bool (us.all chD))) (h1 := h)]
      · exact fin_rt
      · refine ev_blt (u := .d (.list ((us.map chD).map .bool))) (ev_lc1 (xs := us) (by rfl) (hx us rfl) ?_) rfl ?_
        · have := comp_map (compF (.nm 2) [2] (fun σ h => ev (run T (n + 2)) (.lit (.bl true)) σ h) (fun σ h => ev (run T (n + 2)) (.call "is_chance" (.cons (.var 2) .nil)) σ h) [some (.d (.tuple ss)), some (.d (.tuple us)), none]) id (fun x => .bool (chD x)) h us fun x _ => by
            simp [compF, wipeP, assignD, is_chance_ok hI hL hC n h x]
          rw [List.map_id] at this
          rw [List.map_map]
          exact this
        · rw [blt_all, boolsOf_map]
          simp [Function.comp_def]
  | _ => exact fin_rt
theorem are_chances_ok {T : String → Option CDef} (hD : T "is_document" = some c_is_document.c) (hA : T "is_ascending" = some c_is_ascending.c) (hC : T "is_collection" = some c_is_collection.c) (hR : T "require_collection" = some c_require_collection.c)
    (hI : T "is_integer" = some c_is_integer.c) (hL : T "lowest_terms" = some c_lowest_terms.c) (hCh : T "is_chance" = some c_is_chance.c) (hV : T "are_valid_chances" = some c_are_valid_chances.c) (hAC : T "are_chances" = some c_are_chances.c) (n : Nat) (h : PH) (ss : List Str) (hs : ∀ s ∈ ss, s.length ≤ lineN) (x : D) (hx : ∀ us, x = .tuple us → us.length ≤ lineN) :
    run T (n + 4) "are_chances" [.d (.tuple (sD ss)), .d x] h = if collB ss then .ok (.d (.bool (chsD ss.length x))) h else .exc "InvalidCollection" h := by
  rw [run_eq hAC _ _ _ rfl]
  simp only [c_are_chances]
  show finish h.length (exB (run T (n + 3)) _ [some (.d (.tuple (sD ss))), some (.d x)] h) = _
  have q : ev (run T (n + 3)) (.call "require_collection" (.cons (.var 0) .nil)) [some (.d (.tuple (sD ss))), some (.d x)] h = if collB ss then .ok (.d .none) h else .exc "InvalidCollection" h := by
    rw [ev_call (vs := [.d (.tuple (sD ss))]) (h1 := h) (by rfl)]
    exact require_ok hD hA hC hR n h ss hs
  cases b : collB ss with
  | true =>
    rw [b] at q
    simp only [if_true] at q ⊢
    rw [xb_expr q, xb_ret (v := .d (.bool (chsD ss.length x))) (h1 := h)]
    · exact fin_rt
    · rw [ev_call (vs := [.d (.tuple (sD ss)), .d x]) (h1 := h) (by rfl)]
      have := valid_chances_ok hI hL hCh hV n h (sD ss) x hx
      rw [List.length_map] at this
      exact this
  | false =>
    rw [b] at q
    simp only [Bool.false_eq_true, if_false] at q ⊢
    rw [xb_cons, ex_5, q]
    simp only [rs_exc, finish]
    rw [List.take_of_length_le (Nat.le_refl _)]
end J
end JOdds

section JRat
set_option Elab.async false
set_option linter.all false
set_option maxRecDepth 100000
set_option autoImplicit false
set_option maxHeartbeats 8000000
/-! J.Rat: fractions. -/
namespace J
open PySem
/-- a fraction as the program holds it -/
def fr (q : Rat) : D := .tuple [.int q.num, .int (q.den : Nat)]
def Bd (k : Nat) (q : Rat) : Prop := q.num.natAbs < 2 ^ k ∧ q.den < 2 ^ k
theorem Bd.mono {j k : Nat} {q : Rat} (h : Bd j q) (hk : j ≤ k) : Bd k q :=
  ⟨Nat.lt_of_lt_of_le h.1 (Nat.pow_le_pow_right (by decide) hk), Nat.lt_of_lt_of_le h.2 (Nat.pow_le_pow_right (by decide) hk)⟩
theorem mk_num {a : Int} {b : Nat} (hb : 0 < b) : (mkRat a b).num = a / (Nat.gcd a.natAbs b : Nat) ∧ (mkRat a b).den = b / Nat.gcd a.natAbs b := by
  have h : b ≠ 0 := by omega
  rw [mkRat, dif_neg h, Rat.normalize_eq h]
  exact ⟨rfl, rfl⟩
theorem mk_bd {a : Int} {b k : Nat} (hb : 0 < b) (h1 : a.natAbs < 2 ^ k) (h2 : b < 2 ^ k) : Bd k (mkRat a b) := by
  obtain ⟨e1, e2⟩ := mk_num (a := a) hb
  refine ⟨?_, ?_⟩
  · rw [e1]
    refine Nat.lt_of_le_of_lt ?_ h1
    exact Int.natAbs_ediv_le_natAbs a _
  · rw [e2]
    exact Nat.lt_of_le_of_lt (Nat.div_le_self _ _) h2
theorem den_pos (q : Rat) : 0 < q.den := Nat.pos_of_ne_zero q.den_nz
theorem add_mk (a c : Int) {b d : Nat} (hb : 0 < b) (hd : 0 < d) : mkRat a b + mkRat c d = mkRat (a * d + c * b) (b * d) := Rat.mkRat_add_mkRat a c (by omega) (by omega)
theorem mul_lt_pow {a b j k : Nat} (ha : a < 2 ^ j) (hb : b < 2 ^ k) : a * b < 2 ^ (j + k) := by
  rw [Nat.pow_add]
  exact Nat.mul_lt_mul'' ha hb
theorem sum_bd {a c : Int} {b d : Nat} {j k : Nat} (ha : a.natAbs < 2 ^ j) (hb : b < 2 ^ j) (hc : c.natAbs < 2 ^ k) (hd : d < 2 ^ k) : (a * d + c * b).natAbs < 2 ^ (j + k + 1) := by
  have h1 : (a * d).natAbs < 2 ^ (j + k) := by rw [Int.natAbs_mul]; exact mul_lt_pow ha (by simpa using hd)
  have h2 : (c * b).natAbs < 2 ^ (j + k) := by rw [Int.natAbs_mul, Nat.add_comm]; exact mul_lt_pow hc (by simpa using hb)
  have h3 := Int.natAbs_add_le (a * d) (c * b)
  rw [Nat.pow_succ]
  omega
theorem Bd.add {j k : Nat} {p q : Rat} (hp : Bd j p) (hq : Bd k q) : Bd (j + k + 1) (p + q) := by
  have e := add_mk p.num q.num (den_pos p) (den_pos q)
  rw [Rat.mkRat_self, Rat.mkRat_self] at e
  rw [e]
  refine mk_bd (Nat.mul_pos (den_pos p) (den_pos q)) (sum_bd hp.1 hp.2 hq.1 hq.2) ?_
  have := mul_lt_pow hp.2 hq.2
  rw [Nat.pow_succ]
  omega
theorem Bd.mul {j k : Nat} {p q : Rat} (hp : Bd j p) (hq : Bd k q) : Bd (j + k) (p * q) := by
  have e := Rat.mkRat_mul_mkRat p.num q.num p.den q.den
  rw [Rat.mkRat_self, Rat.mkRat_self] at e
  rw [e]
  refine mk_bd (Nat.mul_pos (den_pos p) (den_pos q)) ?_ (mul_lt_pow hp.2 hq.2)
  rw [Int.natAbs_mul]
  exact mul_lt_pow hp.1 hq.1
theorem Bd.neg {k : Nat} {q : Rat} (h : Bd k q) : Bd k (-q) := by
  refine ⟨?_, h.2⟩
  show (-q).num.natAbs < _
  rw [Rat.neg_num, Int.natAbs_neg]
  exact h.1
/-! ### the loop of lowest_terms: few turns -/
theorem mod_half {a b : Nat} (hb : 0 < b) (hr : 0 < a % b) : 2 * (b % (a % b)) < b := by
  have h1 : a % b < b := Nat.mod_lt _ hb
  have h2 := Nat.mod_lt b hr
  by_cases h : 2 * (a % b) ≤ b
  · omega
  · have : b % (a % b) = b - a % b := by
      rw [Nat.mod_eq_sub_mod (by omega), Nat.mod_eq_of_lt (by omega)]
    omega
theorem gcd_few (Γ : Fns) (i j : Nat) (hij : i ≠ j) (h : PH) : ∀ (k b a fuel : Nat) (σ : PEnv), b < 2 ^ k → 2 * k < fuel → σ[i]? = some (some (.d (.int a))) → σ[j]? = some (some (.d (.int b))) →
    whlL (fun σ h => (ev Γ (.var j) σ h).bind fun x h1 => ofO ((val h1 x).bind truD) h1) (fun σ h => exB Γ (gcdB i j) σ h) fuel σ h = .ok (.nx ((σ.set i (some (.d (.int (Nat.gcd a b))))).set j (some (.d (.int 0))))) h := by
  have stop : ∀ (a f : Nat) (σ : PEnv), σ[i]? = some (some (.d (.int a))) → σ[j]? = some (some (.d (.int (0 : Nat)))) → whlL (fun σ h => (ev Γ (.var j) σ h).bind fun x h1 => ofO ((val h1 x).bind truD) h1) (fun σ h => exB Γ (gcdB i j) σ h) (f + 1) σ h = .ok (.nx ((σ.set i (some (.d (.int (Nat.gcd a 0))))).set j (some (.d (.int 0))))) h := fun a f σ hi hj => by
    rw [whl_f (h1 := h) (by simp only [ev_0, hj, rs_ok, val_d, Option.bind_some, tru_int, ofO_some]; rfl)]
    rw [Nat.gcd_zero_right, set_id hi]
    exact congrArg (fun z => Rs.ok (Fl.nx z) h) (set_id (v := some (.d (.int 0))) hj).symm
  have step : ∀ (a b f : Nat) (σ : PEnv), b ≠ 0 → σ[i]? = some (some (.d (.int a))) → σ[j]? = some (some (.d (.int b))) → whlL (fun σ h => (ev Γ (.var j) σ h).bind fun x h1 => ofO ((val h1 x).bind truD) h1) (fun σ h => exB Γ (gcdB i j) σ h) (f + 1) σ h
      = whlL (fun σ h => (ev Γ (.var j) σ h).bind fun x h1 => ofO ((val h1 x).bind truD) h1) (fun σ h => exB Γ (gcdB i j) σ h) f ((σ.set i (some (.d (.int b)))).set j (some (.d (.int ((a % b : Nat) : Int))))) h := fun a b f σ hb hi hj => by
    have hm : binD .mod (.int (a : Nat)) (.int (b : Nat)) = some (.int ((a % b : Nat) : Int)) := by
      rw [bin_modI (by omega)]; rfl
    have hc : (((b : Nat) : Int) != 0) = true := by simp; omega
    exact whl_t (h1 := h) (by simp only [ev_0, hj, rs_ok, val_d, Option.bind_some, tru_int, ofO_some, hc]) (by
      rw [gcdB, xb_cons, ex_3]
      simp only [evP, ev_0, hi, hj, rs_ok, ev_5, val_d, Option.bind_some, hm, Option.map_some, ofO_some, parSet, kont_nx, exB_0])
  have e1 : ∀ (σ : PEnv) (u v w z : Option PV), (((σ.set i u).set j v).set i w).set j z = (σ.set i w).set j z := fun σ u v w z => by
    rw [List.set_comm _ _ (Ne.symm hij), List.set_set, List.set_set]
  intro k
  induction k with
  | zero =>
    intro b a fuel σ hb hf hi hj
    obtain rfl : b = 0 := by simp at hb; omega
    obtain ⟨f, rfl⟩ : ∃ f, fuel = f + 1 := ⟨fuel - 1, by omega⟩
    exact stop a f σ hi hj
  | succ k ih =>
    intro b a fuel σ hb hf hi hj
    obtain ⟨f, rfl⟩ : ∃ f, fuel = f + 1 + 1 := ⟨fuel - 2, by omega⟩
    by_cases b0 : b = 0
    · subst b0; exact stop a (f + 1) σ hi hj
    · have li := env_lt hi
      have lj := env_lt hj
      rw [step a b (f + 1) σ b0 hi hj]
      have gi : ((σ.set i (some (.d (.int b)))).set j (some (.d (.int ((a % b : Nat) : Int)))))[i]? = some (some (.d (.int b))) := by rw [List.getElem?_set_ne (Ne.symm hij), List.getElem?_set_self li]
      have gj : ((σ.set i (some (.d (.int b)))).set j (some (.d (.int ((a % b : Nat) : Int)))))[j]? = some (some (.d (.int ((a % b : Nat) : Int)))) := by rw [List.getElem?_set_self (by simpa using lj)]
      have gg : Nat.gcd b (a % b) = Nat.gcd a b := by rw [Nat.gcd_comm, ← Nat.gcd_rec, Nat.gcd_comm]
      by_cases r0 : a % b = 0
      · rw [r0] at gi gj ⊢
        rw [stop b f _ gi gj, e1]
        rw [r0] at gg
        rw [gg]
      · rw [step b (a % b) f _ r0 gi gj, e1]
        have half := mod_half (a := a) (by omega : 0 < b) (by omega)
        rw [ih (b % (a % b)) (a % b) f _ (by rw [Nat.pow_succ] at hb; omega) (by omega) (by rw [List.getElem?_set_ne (Ne.symm hij), List.getElem?_set_self li]) (by rw [List.getElem?_set_self (by simpa using lj)]), e1]
        rw [show Nat.gcd (a % b) (b % (a % b)) = Nat.gcd a b by rw [Nat.gcd_comm, ← Nat.gcd_rec, Nat.gcd_comm, gg]]
theorem divOk_big {g : Nat} (h0 : 0 < g) (h1 : g < 2 ^ 8000) : divOk (g : Int) = true := by
  unfold divOk
  rw [decide_eq_true (show (0 : Int) < g by omega), Bool.true_and]
  refine decide_eq_true ?_
  have : (g : Int).natAbs.log2 ≤ 8000 := log2_le (by simpa using h1)
  omega
/-- lowest_terms -/
theorem low_ok {T : String → Option CDef} (hL : T "lowest_terms" = some c_lowest_terms.c) (n : Nat) (h : PH) (a : Int) (b : Nat) (hb2 : b < 2 ^ 8000) : run T (n + 1) "lowest_terms" [.d (.int a), .d (.int b)] h = .ok (.d (fr (mkRat a b))) h := by
  rw [run_eq hL _ _ _ rfl]
  simp only [c_lowest_terms]
  show finish h.length (exB (run T n) _ [some (.d (.int a)), some (.d (.int b)), none, none] h) = _
  by_cases hb : b = 0
  · subst hb
    rw [Rat.mkRat_zero]
    exact fin_rt
  have hb0 : ((b : Int) == 0) = false := by simp; omega
  rw [xb_skip (v := .d (.bool false)) (h1 := h) (by
    refine ev_cmp (h1 := h) (h2 := h) (u := .d (.int b)) (w := .d (.int 0)) rfl rfl rfl rfl ?_
    rw [cmp_eqI]
    exact congrArg some hb0) rfl]
  have ha : (if a < 0 then -a else a) = (a.natAbs : Int) := by split <;> omega
  have hp : ex (run T n) (.par [(2, false), (3, false)] (.cons (.blt .abs (.var 0)) (.cons (.var 1) .nil))) [some (.d (.int a)), some (.d (.int b)), none, none] h = .ok (.nx [some (.d (.int a)), some (.d (.int b)), some (.d (.int (a.natAbs : Nat))), some (.d (.int b))]) h := by
    simp [evP, parSet, ha]
  rw [xb_cons, hp, rs_ok, kont_nx, xb_whl]
  have gl := gcd_few (run T n) 2 3 (by decide) h 8000 b a.natAbs whlMost [some (.d (.int a)), some (.d (.int b)), some (.d (.int (a.natAbs : Nat))), some (.d (.int b))] hb2 (by unfold whlMost; decide +kernel) rfl rfl
  rw [gcdB] at gl
  rw [gl, rs_ok, kont_nx]
  simp only [List.set_cons_succ, List.set_cons_zero]
  have hg : 0 < Nat.gcd a.natAbs b := Nat.gcd_pos_of_pos_right _ (by omega)
  have hg2 : Nat.gcd a.natAbs b < 2 ^ 8000 := Nat.lt_of_le_of_lt (Nat.le_of_dvd (by omega) (Nat.gcd_dvd_right _ b)) hb2
  obtain ⟨e1, e2⟩ := mk_num (a := a) (show 0 < b by omega)
  rw [xb_ret (v := .d (fr (mkRat a b))) (h1 := h)]
  · exact fin_rt
  · have d1 := bin_fdivI (a := a) (divOk_big hg hg2)
    have d2 := bin_fdivI (a := (b : Int)) (divOk_big hg hg2)
    simp only [ev_3, evD, ev_5, ev_0, List.getElem?_cons_zero, List.getElem?_cons_succ, rs_ok, val_d, Option.bind_some, d1, d2, Option.map_some, ofO_some]
    unfold fr
    rw [e1, e2]
    rfl
@[simp] theorem atI_one {α : Type} (x y : α) (xs : List α) : atI (x :: y :: xs) 1 = some y := by
  unfold atI ixN
  rw [if_pos (by decide), if_pos (by simp only [List.length_cons]; omega)]
  rfl
theorem mul_ok {a b : Int} (ha : a.natAbs < 2 ^ 8000) (hb : b.natAbs < 2 ^ 8000) : binD .mul (.int a) (.int b) = some (.int (a * b)) := bin_mulI (mulOk_of 8000 8000 ha hb (by decide))
theorem lt8 {a k : Nat} (h : a < 2 ^ k) (hk : k ≤ 8000) : a < 2 ^ 8000 := Nat.lt_of_lt_of_le h (Nat.pow_le_pow_right (by decide) hk)
theorem added_raw {T : String → Option CDef} (hL : T "lowest_terms" = some c_lowest_terms.c) (hA : T "added" = some c_added.c) (n : Nat) (h : PH) {j k : Nat} (a c : Int) (b d : Nat) (hb : 0 < b) (hd : 0 < d) (ha : a.natAbs < 2 ^ j) (hb2 : b < 2 ^ j) (hc : c.natAbs < 2 ^ k) (hd2 : d < 2 ^ k) (hk : j + k ≤ 8000) :
    run T (n + 2) "added" [.d (.tuple [.int a, .int b]), .d (.tuple [.int c, .int d])] h = .ok (.d (fr (mkRat a b + mkRat c d))) h := by
  rw [run_eq hA _ _ _ rfl]
  simp only [c_added]
  have m1 := mul_ok (lt8 ha (by omega)) (b := (d : Int)) (lt8 (by simpa using hd2) (by omega))
  have m2 := mul_ok (lt8 hc (by omega)) (b := (b : Int)) (lt8 (by simpa using hb2) (by omega))
  have m3 := mul_ok (a := (b : Int)) (b := (d : Int)) (lt8 (by simpa using hb2) (by omega)) (lt8 (by simpa using hd2) (by omega))
  have lo := low_ok hL n h (a * d + c * b) (b * d) (lt8 (mul_lt_pow hb2 hd2) hk)
  rw [Int.natCast_mul] at lo
  show finish h.length (exB (run T (n + 1)) _ [some (.d (.tuple [.int a, .int b])), some (.d (.tuple [.int c, .int d]))] h) = _
  rw [xb_ret (v := .d (fr (mkRat a b + mkRat c d))) (h1 := h)]
  · exact fin_rt
  · rw [add_mk a c hb hd]
    simp [m1, m2, m3, lo]
theorem added_ok {T : String → Option CDef} (hL : T "lowest_terms" = some c_lowest_terms.c) (hA : T "added" = some c_added.c) (n : Nat) (h : PH) {j k : Nat} {p q : Rat} (hp : Bd j p) (hq : Bd k q) (hk : j + k ≤ 8000) :
    run T (n + 2) "added" [.d (fr p), .d (fr q)] h = .ok (.d (fr (p + q))) h := by
  have e := added_raw hL hA n h p.num q.num p.den q.den (den_pos p) (den_pos q) hp.1 hp.2 hq.1 hq.2 hk
  rw [Rat.mkRat_self, Rat.mkRat_self] at e
  exact e
theorem below_ok {T : String → Option CDef} (hB : T "is_below" = some c_is_below.c) (n : Nat) (h : PH) {j k : Nat} {p q : Rat} (hp : Bd j p) (hq : Bd k q) (hj : j ≤ 8000) (hk : k ≤ 8000) :
    run T (n + 1) "is_below" [.d (fr p), .d (fr q)] h = .ok (.d (.bool (decide (p < q)))) h := by
  rw [run_eq hB _ _ _ rfl]
  simp only [c_is_below]
  have m1 := mul_ok (lt8 hp.1 hj) (b := (q.den : Int)) (lt8 (by simpa using hq.2) hk)
  have m2 := mul_ok (lt8 hq.1 hk) (b := (p.den : Int)) (lt8 (by simpa using hp.2) hj)
  show finish h.length (exB (run T n) _ [some (.d (fr p)), some (.d (fr q))] h) = _
  rw [xb_ret (v := .d (.bool (decide (p < q)))) (h1 := h)]
  · exact fin_rt
  · unfold fr
    simp [m1, m2, Rat.lt_iff]
theorem times_ok {T : String → Option CDef} (hL : T "lowest_terms" = some c_lowest_terms.c) (hA : T "times" = some c_times.c) (n : Nat) (h : PH) {j k : Nat} {p q : Rat} (hp : Bd j p) (hq : Bd k q) (hk : j + k ≤ 8000) :
    run T (n + 2) "times" [.d (fr p), .d (fr q)] h = .ok (.d (fr (p * q))) h := by
  rw [run_eq hA _ _ _ rfl]
  simp only [c_times]
  have m1 := mul_ok (lt8 hp.1 (by omega)) (b := q.num) (lt8 hq.1 (by omega))
  have m3 := mul_ok (a := (p.den : Int)) (b := (q.den : Int)) (lt8 (by simpa using hp.2) (by omega)) (lt8 (by simpa using hq.2) (by omega))
  have lo := low_ok hL n h (p.num * q.num) (p.den * q.den) (lt8 (mul_lt_pow hp.2 hq.2) hk)
  rw [Int.natCast_mul, ← Rat.mkRat_mul_mkRat, Rat.mkRat_self, Rat.mkRat_self] at lo
  show finish h.length (exB (run T (n + 1)) _ [some (.d (fr p)), some (.d (fr q))] h) = _
  rw [xb_ret (v := .d (fr (p * q))) (h1 := h)]
  · exact fin_rt
  · unfold fr at lo ⊢
    simp [m1, m3, lo]
theorem less_ok {T : String → Option CDef} (hL : T "lowest_terms" = some c_lowest_terms.c) (hA : T "added" = some c_added.c) (hS : T "less" = some c_less.c) (n : Nat) (h : PH) {j k : Nat} {p q : Rat} (hp : Bd j p) (hq : Bd k q) (hk : j + k ≤ 8000) :
    run T (n + 3) "less" [.d (fr p), .d (fr q)] h = .ok (.d (fr (p - q))) h := by
  rw [run_eq hS _ _ _ rfl]
  simp only [c_less]
  have ad := added_ok hL hA n h hp hq.neg hk
  show finish h.length (exB (run T (n + 2)) _ [some (.d (fr p)), some (.d (fr q))] h) = _
  rw [xb_ret (v := .d (fr (p - q))) (h1 := h)]
  · exact fin_rt
  · rw [Rat.sub_eq_add_neg]
    unfold fr at ad ⊢
    rw [Rat.neg_num, Rat.neg_den] at ad
    simp [ad]
end J
end JRat

section JVal
set_option Elab.async false
set_option linter.all false
set_option maxRecDepth 100000
set_option autoImplicit false
set_option maxHeartbeats 8000000
/-! J.Val: the value of a measure. -/
namespace J
open PySem
/-! ### dicts -/
theorem keyEq_str (a b : Str) : keyEq (.str a) (.str b) = decide (a = b) := rfl
theorem dput_new {kvs : List (D × D)} {k v : D} (h : ∀ p ∈ kvs, keyEq p.1 k = false) : dput kvs k v = kvs ++ [(k, v)] := by
  unfold dput
  rw [if_neg]
  intro z
  obtain ⟨p, hp, e⟩ := List.any_eq_true.mp z
  rw [h p hp] at e
  cases e
theorem dict_fold : ∀ (ps acc : List (D × D)), (acc ++ ps).Pairwise (fun p q => keyEq p.1 q.1 = false) → ps.foldl (fun acc p => dput acc p.1 p.2) acc = acc ++ ps
  | [], acc, _ => by simp
  | p :: ps, acc, h => by
    rw [List.foldl_cons, dput_new]
    · rw [dict_fold ps (acc ++ [(p.1, p.2)]) (by simpa using h)]
      simp
    · intro q hq
      exact (List.pairwise_append.mp h).2.2 q hq p List.mem_cons_self
theorem dictOf_id {ps : List (D × D)} (h : ps.Pairwise (fun p q => keyEq p.1 q.1 = false)) : dictOf ps = ps := by
  unfold dictOf
  rw [dict_fold ps [] (by simpa using h)]
  rfl
/-- what stands beside a name -/
def ent {α : Type} (ss : List Str) (ds : List α) (r : Str) : Option α := ((ss.zip ds).find? fun p => decide (p.1 = r)).map (·.2)
theorem zip_pw {ss : List Str} (nd : ss.Nodup) : ∀ (ds : List D), ((sD ss).zip ds).Pairwise (fun p q => keyEq p.1 q.1 = false) := by
  induction ss with
  | nil => intro ds; exact List.Pairwise.nil
  | cons s ss ih =>
    intro ds
    cases ds with
    | nil => exact List.Pairwise.nil
    | cons d ds =>
      rw [List.nodup_cons] at nd
      refine List.Pairwise.cons (fun q hq => ?_) (ih nd.2 ds)
      obtain ⟨a, b⟩ := q
      have hm := (List.of_mem_zip hq).1
      obtain ⟨t, ht, rfl⟩ := List.mem_map.mp hm
      rw [keyEq_str]
      exact decide_eq_false fun e => nd.1 (by rw [e]; exact ht)
theorem find_zip (r : Str) : ∀ (ss : List Str) (ds : List D), (((sD ss).zip ds).find? fun p => keyEq p.1 (.str r)).map (·.2) = ent ss ds r
  | [], _ => rfl
  | _ :: _, [] => rfl
  | s :: ss, d :: ds => by
    have ih := find_zip r ss ds
    unfold ent at ih ⊢
    simp only [sD, List.map_cons, List.zip_cons_cons, List.find?_cons, keyEq_str] at ih ⊢
    by_cases e : s = r
    · simp [e]
    · simp only [decide_eq_false e]
      exact ih
theorem dget_zip {ss : List Str} (nd : ss.Nodup) (ds : List D) (r : Str) : dget (dictOf ((sD ss).zip ds)) (.str r) = ent ss ds r := by
  rw [dictOf_id (zip_pw nd ds)]
  exact find_zip r ss ds
theorem ent_map {α β : Type} (f : α → β) (r : Str) : ∀ (ss : List Str) (ds : List α), ent ss (ds.map f) r = (ent ss ds r).map f
  | [], _ => rfl
  | _ :: _, [] => rfl
  | s :: ss, d :: ds => by
    have ih := ent_map f r ss ds
    unfold ent at ih ⊢
    simp only [List.map_cons, List.zip_cons_cons, List.find?_cons]
    by_cases e : s = r
    · simp [e]
    · simp only [decide_eq_false e]
      exact ih
theorem ent_some {α : Type} {r : Str} : ∀ {ss : List Str} {ds : List α}, r ∈ ss → ss.length = ds.length → ∃ d, ent ss ds r = some d ∧ d ∈ ds
  | [], _, h, _ => by cases h
  | _ :: _, [], _, h => by simp at h
  | s :: ss, d :: ds, h, hl => by
    unfold ent
    simp only [List.zip_cons_cons, List.find?_cons]
    by_cases e : s = r
    · exact ⟨d, by simp [e], List.mem_cons_self⟩
    · simp only [decide_eq_false e]
      have h' : r ∈ ss := by
        rcases List.mem_cons.mp h with z | z
        · exact absurd z.symm e
        · exact z
      obtain ⟨x, h1, h2⟩ := ent_some h' (by simpa using hl)
      exact ⟨x, h1, List.mem_cons_of_mem _ h2⟩
/-- the entry of a document -/
def entI (ss : List Str) (cs : List Int) (r : Str) : Int := (ent ss cs r).getD 0
def hitsI (ss : List Str) (cs : List Int) (rs : List Str) : List Int := rs.map (entI ss cs)
theorem compL_list (f : D → PH → Rs (Option D)) (g : D → D) (h : PH) : ∀ xs : List D, (∀ x ∈ xs, f x h = .ok (some (g x)) h) → compL f xs h = .ok (xs.map g) h := fun xs hf => by
  have := comp_map f id g h xs hf
  simpa using this
theorem isKeys (ss : List Str) : (sD ss).all isKey = true := by
  refine List.all_eq_true.mpr fun x hx => ?_
  obtain ⟨s, _, rfl⟩ := List.mem_map.mp hx
  rfl
section
variable {T : String → Option CDef}
theorem hits_ok (hH : T "hits_of" = some c_hits_of.c) (n : Nat) (h : PH) {ss rs : List Str} {cs : List Int} (nd : ss.Nodup) (hl : ss.length = cs.length) (hr : ∀ r ∈ rs, r ∈ ss) (hn : rs.length ≤ lineN) :
    run T (n + 1) "hits_of" [.d (.tuple (sD ss)), .d (.tuple (iD cs)), .d (.tuple (sD rs))] h = .ok (.d (.list (iD (hitsI ss cs rs)))) h := by
  rw [run_eq hH _ _ _ rfl]
  simp only [c_hits_of]
  show finish h.length (exB (run T n) _ [some (.d (.tuple (sD ss))), some (.d (.tuple (iD cs))), some (.d (.tuple (sD rs))), none, none] h) = _
  have e1 : b2D .dzip (.tuple (sD ss)) (.tuple (iD cs)) = some (.dict (dictOf ((sD ss).zip (iD cs)))) := by
    simp only [b2D, isKeys, if_true]
  rw [xb_asg (v := .d (.dict (dictOf ((sD ss).zip (iD cs))))) (h1 := h) (ev_b2 (h1 := h) (h2 := h) rfl rfl rfl rfl e1)]
  simp only [List.set_cons_succ, List.set_cons_zero]
  rw [xb_ret (v := .d (.list (iD (hitsI ss cs rs)))) (h1 := h)]
  · exact fin_rt
  refine ev_lc1 (xs := sD rs) (by rfl) (by simpa using hn) ?_
  have key := comp_map (compF (.nm 4) [4] (fun σ h => ev (run T n) (.lit (.bl true)) σ h) (fun σ h => ev (run T n) (.ix (.var 3) (.var 4)) σ h) [some (.d (.tuple (sD ss))), some (.d (.tuple (iD cs))), some (.d (.tuple (sD rs))), some (.d (.dict (dictOf ((sD ss).zip (iD cs))))), none]) PyData.str (fun r => .int (entI ss cs r)) h rs (fun r hr' => by
    obtain ⟨d, ed, _⟩ := ent_some (ds := cs) (hr r hr') hl
    have e2 : ixD (.dict (dictOf ((sD ss).zip (iD cs)))) (.str r) = some (.int (entI ss cs r)) := by
      show dget _ _ = _
      rw [dget_zip nd, iD, ent_map, entI, ed]
      rfl
    simp [compF, wipeP, assignD, e2])
  rw [key]
  simp [iD, hitsI]
/-! ### gain, average -/
def gainQ : Nat → List Int → Rat
  | _, [] => 0
  | i, x :: xs => mkRat x (i + 1) + gainQ (i + 1) xs
def avgS : Nat → Int → List Int → Rat
  | _, _, [] => 0
  | i, f, x :: xs => mkRat (x * (f + x)) (i + 1) + avgS (i + 1) (f + x) xs
theorem fr_zero : fr 0 = .tuple [.int 0, .int 1] := rfl
theorem Bd_zero : Bd 1 0 := ⟨by decide, by decide⟩
def gainB : CB := .cons (.asg 1 (.call "added" (.cons (.var 1) (.cons (.tup (.cons (.var 3) (.cons (.bin .add (.var 2) (.lit (.int 1))) .nil))) .nil)))) .nil
theorem gain_loop (hL : T "lowest_terms" = some c_lowest_terms.c) (hA : T "added" = some c_added.c) (n : Nat) (h : PH) (v0 : Option PV) : ∀ (xs : List Int) (i k : Nat) (q : Rat) (v2 v3 : Option PV), (∀ x ∈ xs, x.natAbs < 2 ^ 4) → i + xs.length < 16 → Bd k q → k + 5 * xs.length ≤ 4000 →
    ∃ v2' v3', forL (fun x σ h => (ofO (assignD (.tup [(.nm 2), (.nm 3)]) x σ) h).bind fun σ' h => exB (run T (n + 2)) gainB σ' h) (enumD i (iD xs)) [v0, some (.d (fr q)), v2, v3] h = .ok (.nx [v0, some (.d (fr (q + gainQ i xs))), v2', v3']) h ∧ Bd (k + 5 * xs.length) (q + gainQ i xs)
  | [], i, k, q, v2, v3, _, _, hq, _ => ⟨v2, v3, by simp [enumD, forL, gainQ, Rat.add_zero], by simpa [gainQ, Rat.add_zero] using hq⟩
  | x :: xs, i, k, q, v2, v3, hx, hi, hq, hk => by
    simp only [List.length_cons] at hi hk
    have x4 : x.natAbs < 2 ^ 4 := hx x List.mem_cons_self
    have ad := added_raw hL hA n h (j := k) (k := 4) q.num x q.den (i + 1) (den_pos q) (by omega) hq.1 hq.2 x4 (by omega) (by omega)
    rw [Rat.mkRat_self] at ad
    have bx : Bd 4 (mkRat x (i + 1)) := mk_bd (by omega) x4 (by omega)
    have bq := hq.add bx
    obtain ⟨v2', v3', e, b⟩ := gain_loop hL hA n h v0 xs (i + 1) (k + 4 + 1) (q + mkRat x (i + 1)) (some (.d (.int i))) (some (.d (.int x))) (fun y hy => hx y (List.mem_cons_of_mem _ hy)) (by omega) bq (by omega)
    refine ⟨v2', v3', ?_, ?_⟩
    · simp only [iD_cons, enumD]
      rw [forL_cons (h1 := h) (σ' := [v0, some (.d (fr (q + mkRat x (i + 1)))), some (.d (.int i)), some (.d (.int x))])]
      · rw [show ((i : Int) + 1) = ((i + 1 : Nat) : Int) by omega, e]
        simp only [gainQ, Rat.add_assoc]
      · simp only [assignD, assignDs, Option.bind_some, List.set_cons_succ, List.set_cons_zero, ofO_some, rs_ok]
        rw [gainB, xb_asg (v := .d (fr (q + mkRat x (i + 1)))) (h1 := h)]
        · simp only [List.set_cons_succ, List.set_cons_zero, exB_0]
        · rw [ev_call (vs := [.d (fr q), .d (.tuple [.int x, .int ((i + 1 : Nat) : Int)])]) (h1 := h)]
          · exact ad
          · simp
    · simp only [gainQ, List.length_cons]
      rw [← Rat.add_assoc]
      exact b.mono (by omega)
theorem gain_ok (hL : T "lowest_terms" = some c_lowest_terms.c) (hA : T "added" = some c_added.c) (hG : T "gain_of" = some c_gain_of.c) (n : Nat) (h : PH) {xs : List Int} (hx : ∀ x ∈ xs, x.natAbs < 2 ^ 4) (hl : xs.length < 16) :
    run T (n + 3) "gain_of" [.d (.list (iD xs))] h = .ok (.d (fr (gainQ 0 xs))) h ∧ Bd 100 (gainQ 0 xs) := by
  obtain ⟨v2, v3, e, b⟩ := gain_loop hL hA n h (some (.d (.list (iD xs)))) xs 0 1 0 none none hx (by omega) Bd_zero (by omega)
  rw [Rat.zero_add] at e b
  refine ⟨?_, b.mono (by omega)⟩
  rw [run_eq hG _ _ _ rfl]
  simp only [c_gain_of]
  show finish h.length (exB (run T (n + 2)) _ [some (.d (.list (iD xs))), none, none, none] h) = _
  rw [xb_asg (v := .d (fr 0)) (h1 := h) (by rfl)]
  simp only [List.set_cons_succ, List.set_cons_zero]
  rw [xb_for (xs := enumD 0 (iD xs)) (h1 := h) (by rfl)]
  rw [show ((0 : Nat) : Int) = 0 from rfl] at e
  rw [gainB] at e
  rw [e, rs_ok, kont_nx, xb_ret (v := .d (fr (gainQ 0 xs))) (h1 := h) (by rfl)]
  exact fin_rt
def avgB : CB := .cons (.aug 3 (.var 5)) (.cons (.asg 2 (.call "added" (.cons (.var 2) (.cons (.tup (.cons (.bin .mul (.var 5) (.var 3)) (.cons (.bin .add (.var 4) (.lit (.int 1))) .nil))) .nil)))) .nil)
theorem avg_loop (hL : T "lowest_terms" = some c_lowest_terms.c) (hA : T "added" = some c_added.c) (n : Nat) (h : PH) (v0 v1 : Option PV) : ∀ (xs : List Int) (i k : Nat) (f : Int) (q : Rat) (v2 v3 : Option PV), (∀ x ∈ xs, x = 0 ∨ x = 1) → 0 ≤ f → f ≤ i → i + xs.length < 16 → Bd k q → k + 5 * xs.length ≤ 4000 →
    ∃ v2' v3' v4', forL (fun x σ h => (ofO (assignD (.tup [(.nm 4), (.nm 5)]) x σ) h).bind fun σ' h => exB (run T (n + 2)) avgB σ' h) (enumD i (iD xs)) [v0, v1, some (.d (fr q)), some (.d (.int f)), v2, v3] h = .ok (.nx [v0, v1, some (.d (fr (q + avgS i f xs))), v4', v2', v3']) h ∧ Bd (k + 5 * xs.length) (q + avgS i f xs)
  | [], i, k, f, q, v2, v3, _, _, _, _, hq, _ => ⟨v2, v3, some (.d (.int f)), by simp [enumD, forL, avgS, Rat.add_zero], by simpa [avgS, Rat.add_zero] using hq⟩
  | x :: xs, i, k, f, q, v2, v3, hx, f0, f1, hi, hq, hk => by
    simp only [List.length_cons] at hi hk
    have x1 := hx x List.mem_cons_self
    have xf : (x * (f + x)).natAbs < 2 ^ 4 := by
      rcases x1 with rfl | rfl
      · simp
      · omega
    have ad := added_raw hL hA n h (j := k) (k := 4) q.num (x * (f + x)) q.den (i + 1) (den_pos q) (by omega) hq.1 hq.2 xf (by omega) (by omega)
    rw [Rat.mkRat_self] at ad
    have bx : Bd 4 (mkRat (x * (f + x)) (i + 1)) := mk_bd (by omega) xf (by omega)
    have bq := hq.add bx
    obtain ⟨v2', v3', v4', e, b⟩ := avg_loop hL hA n h v0 v1 xs (i + 1) (k + 4 + 1) (f + x) (q + mkRat (x * (f + x)) (i + 1)) (some (.d (.int i))) (some (.d (.int x))) (fun y hy => hx y (List.mem_cons_of_mem _ hy)) (by omega) (by omega) (by omega) bq (by omega)
    refine ⟨v2', v3', v4', ?_, ?_⟩
    · simp only [iD_cons, enumD]
      rw [forL_cons (h1 := h) (σ' := [v0, v1, some (.d (fr (q + mkRat (x * (f + x)) (i + 1)))), some (.d (.int (f + x))), some (.d (.int i)), some (.d (.int x))])]
      · rw [show ((i : Int) + 1) = ((i + 1 : Nat) : Int) by omega, e]
        simp only [avgS, Rat.add_assoc]
      · simp only [assignD, assignDs, Option.bind_some, List.set_cons_succ, List.set_cons_zero, ofO_some, rs_ok]
        have m1 : binD .mul (.int x) (.int (f + x)) = some (.int (x * (f + x))) := bin_mulI (mulOk_of 10 10 (by omega) (by omega) (by decide))
        rw [avgB, xb_cons, ex_4]
        simp only [List.getElem?_cons_succ, List.getElem?_cons_zero, ev_0, rs_ok, List.set_cons_succ, List.set_cons_zero, kont_nx]
        rw [xb_asg (v := .d (fr (q + mkRat (x * (f + x)) (i + 1)))) (h1 := h)]
        · simp only [List.set_cons_succ, List.set_cons_zero, exB_0]
        · rw [ev_call (vs := [.d (fr q), .d (.tuple [.int (x * (f + x)), .int ((i + 1 : Nat) : Int)])]) (h1 := h)]
          · exact ad
          · simp [m1]
    · simp only [avgS, List.length_cons]
      rw [← Rat.add_assoc]
      exact b.mono (by omega)
theorem mk_div (q : Rat) (r : Nat) : mkRat q.num (q.den * r) = q / (r : Rat) := by
  by_cases hr : r = 0
  · subst hr
    rw [Nat.mul_zero, Rat.mkRat_zero]
    simp [Rat.div_def]
  · rw [Rat.mkRat_eq_div]
    have := Rat.mkRat_self q
    rw [Rat.mkRat_eq_div] at this
    conv => rhs; rw [← this]
    rw [Rat.natCast_mul]
    grind
theorem average_ok (hL : T "lowest_terms" = some c_lowest_terms.c) (hA : T "added" = some c_added.c) (hG : T "average_of" = some c_average_of.c) (n : Nat) (h : PH) {xs : List Int} (hx : ∀ x ∈ xs, x = 0 ∨ x = 1) (hl : xs.length < 16) (r : Nat) (hr : r < 16) :
    run T (n + 3) "average_of" [.d (.list (iD xs)), .d (.int r)] h = .ok (.d (fr (avgS 0 0 xs / (r : Rat)))) h ∧ Bd 100 (avgS 0 0 xs) := by
  obtain ⟨v2, v3, v4, e, b⟩ := avg_loop hL hA n h (some (.d (.list (iD xs)))) (some (.d (.int r))) xs 0 1 0 0 none none hx (by omega) (by omega) (by omega) Bd_zero (by omega)
  rw [Rat.zero_add] at e b
  have b1 := b.mono (show 1 + 5 * xs.length ≤ 100 by omega)
  refine ⟨?_, b1⟩
  rw [run_eq hG _ _ _ rfl]
  simp only [c_average_of]
  show finish h.length (exB (run T (n + 2)) _ [some (.d (.list (iD xs))), some (.d (.int r)), none, none, none, none] h) = _
  rw [xb_cons, show ex (run T (n + 2)) (.par [(2, false), (3, false)] (.cons (.tup (.cons (.lit (.int 0)) (.cons (.lit (.int 1)) .nil))) (.cons (.lit (.int 0)) .nil))) [some (.d (.list (iD xs))), some (.d (.int r)), none, none, none, none] h = .ok (.nx [some (.d (.list (iD xs))), some (.d (.int r)), some (.d (fr 0)), some (.d (.int 0)), none, none]) h from rfl, rs_ok, kont_nx]
  rw [xb_for (xs := enumD 0 (iD xs)) (h1 := h) (by rfl)]
  rw [show ((0 : Nat) : Int) = 0 from rfl] at e
  rw [avgB] at e
  rw [e, rs_ok, kont_nx, xb_ret (v := .d (fr (avgS 0 0 xs / (r : Rat)))) (h1 := h)]
  · exact fin_rt
  · have m1 := mul_ok (a := ((avgS 0 0 xs).den : Int)) (b := (r : Int)) (lt8 (k := 100) (by rw [Int.natAbs_natCast]; exact b1.2) (by decide)) (lt8 (k := 4) (by simpa using hr) (by decide))
    have lo := low_ok hL (n + 1) h (avgS 0 0 xs).num ((avgS 0 0 xs).den * r) (lt8 (mul_lt_pow b1.2 (show r < 2 ^ 4 by omega)) (by decide))
    rw [Int.natCast_mul, mk_div] at lo
    unfold fr at lo ⊢
    simp [m1, lo]
end
end J
end JVal

section JVal2
set_option Elab.async false
set_option linter.all false
set_option maxRecDepth 100000
set_option autoImplicit false
set_option maxHeartbeats 8000000
/-! J.Val2: value_of. -/
namespace J
open PySem
inductive Me where
  | avg | rcp | prec (k : Nat) | rcl (k : Nat) | gain (k : Nat) | share (k : Nat)
def meD : Me → D
  | .avg => .tuple [.str (Str.ofString "average")]
  | .rcp => .tuple [.str (Str.ofString "reciprocal")]
  | .prec k => .tuple [.str (Str.ofString "precision"), .int k]
  | .rcl k => .tuple [.str (Str.ofString "recall"), .int k]
  | .gain k => .tuple [.str (Str.ofString "gain"), .int k]
  | .share k => .tuple [.str (Str.ofString "share"), .int k]
def Me.ok : Me → Prop
  | .avg | .rcp => True
  | .prec k | .rcl k | .gain k | .share k => 1 ≤ k ∧ k ≤ 7
def rcpQ (xs : List Int) : Rat := match xs.findIdx? (fun x => x == 1) with
  | some j => mkRat 1 (j + 1)
  | none => 0
def valQ (xs : List Int) (r : Nat) : Me → Rat
  | .avg => avgS 0 0 xs / (r : Rat)
  | .rcp => rcpQ xs
  | .prec k => mkRat (xs.take k).sum k
  | .rcl k => mkRat (xs.take k).sum r
  | .gain k => gainQ 0 (xs.take k)
  | .share k => gainQ 0 (xs.take k) / gainQ 0 (List.replicate (min k r) 1)
def B01 (xs : List Int) : Prop := ∀ x ∈ xs, x = 0 ∨ x = 1
theorem B01.take {xs : List Int} (h : B01 xs) (k : Nat) : B01 (xs.take k) := fun x hx => h x (List.mem_of_mem_take hx)
theorem B01.nat {xs : List Int} (h : B01 xs) : ∀ x ∈ xs, x.natAbs < 2 ^ 4 := fun x hx => by rcases h x hx with rfl | rfl <;> decide
theorem B01.sum : ∀ {xs : List Int}, B01 xs → 0 ≤ xs.sum ∧ xs.sum ≤ xs.length
  | [], _ => by simp
  | x :: xs, h => by
    have h1 := h x List.mem_cons_self
    have h2 := B01.sum (xs := xs) fun y hy => h y (List.mem_cons_of_mem _ hy)
    simp only [List.sum_cons, List.length_cons]
    omega
theorem entI_01 {ss : List Str} {cs : List Int} (h : B01 cs) (r : Str) : entI ss cs r = 0 ∨ entI ss cs r = 1 := by
  unfold entI
  cases e : ent ss cs r with
  | none => exact .inl rfl
  | some d =>
    refine h d ?_
    unfold ent at e
    obtain ⟨p, hp, rfl⟩ := Option.map_eq_some_iff.mp e
    exact (List.of_mem_zip (List.mem_of_find?_eq_some hp)).2
theorem hits_01 {ss : List Str} {cs : List Int} (h : B01 cs) (rs : List Str) : B01 (hitsI ss cs rs) := fun x hx => by
  obtain ⟨r, _, rfl⟩ := List.mem_map.mp hx
  exact entI_01 h r
theorem shaped_ints (xs : List Int) : SeqAt.shaped (.list (iD xs)) = true := by
  unfold SeqAt.shaped
  rw [Bool.and_eq_true]
  refine ⟨?_, decide_eq_true ?_⟩
  · simp only [PyData.canLay0]
    refine canAll fun x hx => ?_
    obtain ⟨i, _, rfl⟩ := List.mem_map.mp hx
    rfl
  · simp only [PyData.depth]
    have := depthAll_le (xs := iD xs) (m := 1) fun x hx => by
      obtain ⟨i, _, rfl⟩ := List.mem_map.mp hx
      simp [PyData.depth]
    omega
theorem any_ints (xs : List Int) : ((iD xs).any fun z => PyData.eqv z (.int 1)) = xs.any (fun x => x == 1) := by
  simp only [iD, List.any_map]
  rfl
theorem find_ints : ∀ xs : List Int, ((iD xs).findIdx? fun z => PyData.eqv z (.int 1)) = xs.findIdx? (fun x => x == 1)
  | [] => rfl
  | x :: xs => by
    simp only [iD_cons, List.findIdx?_cons, find_ints xs]
    rfl
structure HV (T : String → Option CDef) : Prop where
  low : T "lowest_terms" = some c_lowest_terms.c
  add : T "added" = some c_added.c
  hits : T "hits_of" = some c_hits_of.c
  gain : T "gain_of" = some c_gain_of.c
  avg : T "average_of" = some c_average_of.c
  val : T "value_of" = some c_value_of.c
theorem gain_nonneg : ∀ (xs : List Int) (i : Nat), B01 xs → 0 ≤ gainQ i xs
  | [], _, _ => Rat.le_refl
  | x :: xs, i, h => by
    have h1 := gain_nonneg xs (i + 1) fun y hy => h y (List.mem_cons_of_mem _ hy)
    have h2 : 0 ≤ mkRat x (i + 1) := by
      rw [← Rat.num_nonneg, (mk_num (by omega)).1]
      refine Int.ediv_nonneg ?_ (by omega)
      rcases h x List.mem_cons_self with z | z <;> omega
    show 0 ≤ mkRat x (i + 1) + gainQ (i + 1) xs
    grind
theorem mk_divq {p q : Rat} (hq : 0 ≤ q) : mkRat (p.num * q.den) (p.den * q.num.toNat) = p / q := by
  have hn : 0 ≤ q.num := Rat.num_nonneg.mpr hq
  by_cases h0 : q = 0
  · subst h0
    simp [Rat.div_def]
  · have hp : 0 < q.num := by
      rcases Int.lt_or_eq_of_le hn with z | z
      · exact z
      · exact absurd (Rat.num_eq_zero.mp z.symm) h0
    have e1 := Rat.mkRat_self p
    have e2 := Rat.mkRat_self q
    rw [Rat.mkRat_eq_div] at e1 e2 ⊢
    rw [Rat.natCast_mul, Rat.intCast_mul]
    have e3 : ((q.num.toNat : Nat) : Rat) = ((q.num : Int) : Rat) := by
      have : ((q.num.toNat : Nat) : Int) = q.num := by omega
      rw [← Rat.intCast_natCast, this]
    rw [e3]
    conv => rhs; rw [← e1, ← e2]
    have n1 : ((q.num : Int) : Rat) ≠ 0 := by
      intro z
      have := Rat.intCast_eq_zero_iff.mp z
      omega
    have n2 : ((q.den : Nat) : Rat) ≠ 0 := by
      intro z
      have := Rat.natCast_eq_zero_iff.mp z
      exact q.den_nz this
    have n3 : ((p.den : Nat) : Rat) ≠ 0 := by
      intro z
      have := Rat.natCast_eq_zero_iff.mp z
      exact p.den_nz this
    rw [show ((q.den : Int) : Rat) = ((q.den : Nat) : Rat) from Rat.intCast_natCast _]
    grind
theorem fr_inv {j : Nat} : fr (mkRat 1 (j + 1)) = .tuple [.int 1, .int ((j : Int) + 1)] := by
  obtain ⟨e1, e2⟩ := mk_num (a := 1) (show 0 < j + 1 by omega)
  unfold fr
  rw [e1, e2]
  simp
section
variable {T : String → Option CDef}
theorem mini_eq (k r : Nat) : (if (r : Int) < (k : Int) then (r : Int) else (k : Int)) = ((min k r : Nat) : Int) := by
  split <;> omega
theorem rep_ints (m : Nat) : (List.replicate m [PyData.int 1]).flatten = iD (List.replicate m 1) := by
  simp [iD]
theorem ev_kind {Γ : Fns} {σ : PEnv} {h : PH} {a b : String} {z : Bool} {rest : List D} (h3 : σ[3]? = some (some (.d (.tuple (.str (Str.ofString a) :: rest))))) (hz : cmpD .eq (.str (Str.ofString a)) (.str (Str.ofString b)) = some z) : ev Γ (.cmp .eq (.ix (.var 3) (.lit (.int 0))) (.lit (.str b))) σ h = .ok (.d (.bool z)) h := by
  refine ev_cmp (h1 := h) (h2 := h) (u := .d (.str (Str.ofString a))) (w := .d (.str (Str.ofString b))) ?_ rfl rfl rfl hz
  simp [h3]
theorem value_of_ok (H : HV T) (n : Nat) (h : PH) {ss rs : List Str} {cs : List Int} (nd : ss.Nodup) (hl : ss.length = cs.length) (hs : ss.length < 16) (hr : ∀ r ∈ rs, r ∈ ss) (hn : rs.length < 16) (hc : B01 cs) (m : Me) (hm : m.ok) :
    run T (n + 4) "value_of" [.d (.tuple (sD ss)), .d (.tuple (iD cs)), .d (.tuple (sD rs)), .d (meD m)] h = .ok (.d (fr (valQ (hitsI ss cs rs) cs.sum.toNat m))) h := by
  rw [run_eq H.val _ _ _ rfl]
  simp only [c_value_of]
  have hx := hits_01 (ss := ss) hc rs
  have hxl : (hitsI ss cs rs).length < 16 := by unfold hitsI; rw [List.length_map]; exact hn
  have ho := hits_ok H.hits (n + 2) h nd hl hr (show rs.length ≤ lineN by unfold lineN; omega)
  have sm := hc.sum
  have hsum : cs.sum = ((cs.sum.toNat : Nat) : Int) := by omega
  have hr16 : cs.sum.toNat < 16 := by omega
  generalize hX : hitsI ss cs rs = xs at ho hx hxl
  generalize hR : cs.sum.toNat = r at hsum hr16
  have hp : ex (run T (n + 3)) (.par [(7, false), (8, false)] (.cons (.call "hits_of" (.cons (.var 0) (.cons (.var 1) (.cons (.var 2) .nil)))) (.cons (.blt .sum (.var 1)) .nil))) [some (.d (.tuple (sD ss))), some (.d (.tuple (iD cs))), some (.d (.tuple (sD rs))), some (.d (meD m)), none, none, none, none, none] h
      = .ok (.nx [some (.d (.tuple (sD ss))), some (.d (.tuple (iD cs))), some (.d (.tuple (sD rs))), some (.d (meD m)), none, none, none, some (.d (.list (iD xs))), some (.d (.int r))]) h := by
    have e2 : bltD .sum (.tuple (iD cs)) = some (.int r) := by
      show (intsOf (iD cs)).map _ = _
      rw [intsOf_iD, ← hsum]; rfl
    simp [evP, parSet, ho, e2]
  show finish h.length (exB (run T (n + 3)) _ [some (.d (.tuple (sD ss))), some (.d (.tuple (iD cs))), some (.d (.tuple (sD rs))), some (.d (meD m)), none, none, none, none, none] h) = _
  rw [xb_cons, hp, rs_ok, kont_nx]
  have at1 : ∀ a b : D, atI [a, b] 1 = some b := fun a b => rfl
  cases m with
  | avg =>
    rw [xb_iteT (v := .d (.bool true)) (h1 := h) (ev_kind rfl (by decide +kernel)) rfl, xb_ret (v := .d (fr (valQ xs r .avg))) (h1 := h)]
    · exact fin_rt
    · rw [ev_call (vs := [.d (.list (iD xs)), .d (.int r)]) (h1 := h) (by rfl)]
      exact (average_ok H.low H.add H.avg n h hx hxl r hr16).1
  | rcp =>
    rw [xb_skip (v := .d (.bool false)) (h1 := h) (ev_kind rfl (by decide +kernel)) rfl, xb_iteT (v := .d (.bool true)) (h1 := h) (ev_kind rfl (by decide +kernel)) rfl, xb_ret (v := .d (fr (valQ xs r .rcp))) (h1 := h)]
    · exact fin_rt
    · have c1 : cmpD .in_ (.int 1) (.list (iD xs)) = some (xs.any (fun x => x == 1)) := by
        show (if (SeqAt.shaped (.int 1) && SeqAt.shaped (.list (iD xs))) = true then some _ else none) = _
        rw [shaped_ints, Bool.and_true, if_pos (by rfl), any_ints]
      show ev _ _ _ _ = .ok (.d (fr (rcpQ xs))) h
      unfold rcpQ
      cases q : xs.findIdx? (fun x => x == 1) with
      | none =>
        have q' : xs.any (fun x => x == 1) = false := by
          rw [List.any_eq_false]
          exact fun x hx' => by simpa using (List.findIdx?_eq_none_iff.mp q) x hx'
        simp [c1, q', fr_zero]
      | some j =>
        have q' : xs.any (fun x => x == 1) = true := by
          obtain ⟨h1, h2, _⟩ := List.findIdx?_eq_some_iff_getElem.mp q
          exact List.any_eq_true.mpr ⟨_, List.getElem_mem h1, h2⟩
        have ix : mthD .index (.list (iD xs)) (.int 1) = some (.int j) := by
          simp only [mthD, flatD, Bool.true_and]
          rw [if_pos, find_ints, q]
          · rfl
          · refine List.all_eq_true.mpr fun x hx' => ?_
            obtain ⟨i, _, rfl⟩ := List.mem_map.mp hx'
            rfl
        rw [fr_inv]
        simp [c1, q', ix, mthR, isLst]
  | prec k =>
    obtain ⟨k1, k7⟩ := hm
    rw [xb_skip (v := .d (.bool false)) (h1 := h) (ev_kind rfl (by decide +kernel)) rfl, xb_skip (v := .d (.bool false)) (h1 := h) (ev_kind rfl (by decide +kernel)) rfl, xb_asg (v := .d (.int k)) (h1 := h) (by rfl)]
    simp only [List.set_cons_succ, List.set_cons_zero]
    rw [xb_iteT (v := .d (.bool true)) (h1 := h) (ev_kind rfl (by decide +kernel)) rfl, xb_ret (v := .d (fr (valQ xs r (.prec k)))) (h1 := h)]
    · exact fin_rt
    · have lo := low_ok H.low (n + 2) h (xs.take k).sum k (lt8 (k := 4) (by omega) (by decide))
      have ct : cut (iD xs) none (some (k : Int)) = iD (xs.take k) := by rw [cut_to _ (by omega)]; exact List.map_take.symm
      simp [ct, lo, valQ]
  | rcl k =>
    obtain ⟨k1, k7⟩ := hm
    rw [xb_skip (v := .d (.bool false)) (h1 := h) (ev_kind rfl (by decide +kernel)) rfl, xb_skip (v := .d (.bool false)) (h1 := h) (ev_kind rfl (by decide +kernel)) rfl, xb_asg (v := .d (.int k)) (h1 := h) (by rfl)]
    simp only [List.set_cons_succ, List.set_cons_zero]
    rw [xb_skip (v := .d (.bool false)) (h1 := h) (ev_kind rfl (by decide +kernel)) rfl, xb_iteT (v := .d (.bool true)) (h1 := h) (ev_kind rfl (by decide +kernel)) rfl, xb_ret (v := .d (fr (valQ xs r (.rcl k)))) (h1 := h)]
    · exact fin_rt
    · have lo := low_ok H.low (n + 2) h (xs.take k).sum r (lt8 (k := 4) (by omega) (by decide))
      have ct : cut (iD xs) none (some (k : Int)) = iD (xs.take k) := by rw [cut_to _ (by omega)]; exact List.map_take.symm
      simp [ct, lo, valQ]
  | gain k =>
    obtain ⟨k1, k7⟩ := hm
    have ct : cut (iD xs) none (some (k : Int)) = iD (xs.take k) := by rw [cut_to _ (by omega)]; exact List.map_take.symm
    have g1 := gain_ok H.low H.add H.gain n h (hx.take k).nat (by rw [List.length_take]; omega)
    rw [xb_skip (v := .d (.bool false)) (h1 := h) (ev_kind rfl (by decide +kernel)) rfl, xb_skip (v := .d (.bool false)) (h1 := h) (ev_kind rfl (by decide +kernel)) rfl, xb_asg (v := .d (.int k)) (h1 := h) (by rfl)]
    simp only [List.set_cons_succ, List.set_cons_zero]
    rw [xb_skip (v := .d (.bool false)) (h1 := h) (ev_kind rfl (by decide +kernel)) rfl, xb_skip (v := .d (.bool false)) (h1 := h) (ev_kind rfl (by decide +kernel)) rfl, xb_asg (v := .d (fr (gainQ 0 (xs.take k)))) (h1 := h) (by simp [ct, g1.1])]
    simp only [List.set_cons_succ, List.set_cons_zero]
    rw [xb_iteT (v := .d (.bool true)) (h1 := h) (ev_kind rfl (by decide +kernel)) rfl, xb_ret (v := .d (fr (valQ xs r (.gain k)))) (h1 := h) (by rfl)]
    exact fin_rt
  | share k =>
    obtain ⟨k1, k7⟩ := hm
    have ct : cut (iD xs) none (some (k : Int)) = iD (xs.take k) := by rw [cut_to _ (by omega)]; exact List.map_take.symm
    have g1 := gain_ok H.low H.add H.gain n h (hx.take k).nat (by rw [List.length_take]; omega)
    have b2 : B01 (List.replicate (min k r) 1) := fun x hx' => .inr (List.eq_of_mem_replicate hx')
    have g2 := gain_ok H.low H.add H.gain n h b2.nat (by rw [List.length_replicate]; omega)
    rw [xb_skip (v := .d (.bool false)) (h1 := h) (ev_kind rfl (by decide +kernel)) rfl, xb_skip (v := .d (.bool false)) (h1 := h) (ev_kind rfl (by decide +kernel)) rfl, xb_asg (v := .d (.int k)) (h1 := h) (by rfl)]
    simp only [List.set_cons_succ, List.set_cons_zero]
    rw [xb_skip (v := .d (.bool false)) (h1 := h) (ev_kind rfl (by decide +kernel)) rfl, xb_skip (v := .d (.bool false)) (h1 := h) (ev_kind rfl (by decide +kernel)) rfl, xb_asg (v := .d (fr (gainQ 0 (xs.take k)))) (h1 := h) (by simp [ct, g1.1])]
    simp only [List.set_cons_succ, List.set_cons_zero]
    have rp : binD .mul (.list [.int 1]) (.int ((min k r : Nat) : Int)) = some (.list (iD (List.replicate (min k r) 1))) := by
      show (if 0 ≤ ((min k r : Nat) : Int) ∧ ((min k r : Nat) : Int) < 1000 ∧ [PyData.int 1].length ≤ 1000 then some _ else none) = _
      rw [if_pos ⟨by omega, by omega, by decide⟩, Int.toNat_natCast, rep_ints]
    rw [xb_skip (v := .d (.bool false)) (h1 := h) (ev_kind rfl (by decide +kernel)) rfl, xb_asg (v := .d (fr (gainQ 0 (List.replicate (min k r) 1)))) (h1 := h) (by
      rw [ev_call (vs := [.d (.list (iD (List.replicate (min k r) 1)))]) (h1 := h)]
      · exact g2.1
      · simp only [evA_1, evA_0, ev_5, ev_4, evD_1, evD_0, ev_2, dat_int, rs_ok, ev_19, ev_0, List.getElem?_cons_succ, List.getElem?_cons_zero, mini_eq, val_d, Option.bind_some]
        rw [if_pos (by decide)]
        simp only [rs_ok, val_d, Option.bind_some, rp, Option.map_some, ofO_some])]
    simp only [List.set_cons_succ, List.set_cons_zero]
    rw [xb_ret (v := .d (fr (valQ xs r (.share k)))) (h1 := h)]
    · exact fin_rt
    · show ev _ _ _ _ = .ok (.d (fr (gainQ 0 (xs.take k) / gainQ 0 (List.replicate (min k r) 1)))) h
      have q0 := gain_nonneg _ 0 b2
      obtain ⟨_, c1⟩ := g1
      obtain ⟨_, c2⟩ := g2
      generalize gainQ 0 (xs.take k) = p at c1
      generalize gainQ 0 (List.replicate (min k r) 1) = q at c2 q0
      have qn : 0 ≤ q.num := Rat.num_nonneg.mpr q0
      have m1 := mul_ok (a := p.num) (b := (q.den : Int)) (lt8 c1.1 (by decide)) (lt8 (k := 100) (by rw [Int.natAbs_natCast]; exact c2.2) (by decide))
      have m2 := mul_ok (a := (p.den : Int)) (b := q.num) (lt8 (k := 100) (by rw [Int.natAbs_natCast]; exact c1.2) (by decide)) (lt8 c2.1 (by decide))
      have lo := low_ok H.low (n + 2) h (p.num * q.den) (p.den * q.num.toNat) (lt8 (mul_lt_pow c1.2 (show q.num.toNat < 2 ^ 100 by have := c2.1; omega)) (by decide))
      rw [mk_divq q0, Int.natCast_mul, show ((q.num.toNat : Nat) : Int) = q.num by omega] at lo
      unfold fr at lo ⊢
      simp [m1, m2, lo]
end
end J
end JVal2

section JReq
set_option Elab.async false
set_option linter.all false
set_option maxRecDepth 100000
set_option autoImplicit false
set_option maxHeartbeats 8000000
/-! J.Req: what the arguments must be. -/
namespace J
open PySem
section
variable {Γ : Fns} {a b c : CE} {σ : PEnv} {h h1 : PH} {u : PV} {k : Bool}
theorem ev_not (ha : ev Γ a σ h = .ok u h1) (ht : (val h1 u).bind truD = some k) : ev Γ (.not a) σ h = .ok (.d (.bool (!k))) h1 := by
  rw [ev_7, ha, rs_ok, map1, ht]
  rfl
theorem ev_orT (ha : ev Γ a σ h = .ok u h1) (ht : (val h1 u).bind truD = some true) : ev Γ (.or a b) σ h = .ok u h1 := by
  rw [ev_13, ha, rs_ok, ht]
  rfl
theorem ev_orF (ha : ev Γ a σ h = .ok u h1) (ht : (val h1 u).bind truD = some false) : ev Γ (.or a b) σ h = ev Γ b σ h1 := by
  rw [ev_13, ha, rs_ok, ht]
  rfl
theorem ev_andT (ha : ev Γ a σ h = .ok u h1) (ht : (val h1 u).bind truD = some true) : ev Γ (.and a b) σ h = ev Γ b σ h1 := by
  rw [ev_12, ha, rs_ok, ht]
  rfl
theorem ev_andF (ha : ev Γ a σ h = .ok u h1) (ht : (val h1 u).bind truD = some false) : ev Γ (.and a b) σ h = .ok u h1 := by
  rw [ev_12, ha, rs_ok, ht]
  rfl
theorem ev_ifT (ha : ev Γ c σ h = .ok u h1) (ht : (val h1 u).bind truD = some true) : ev Γ (.ife c a b) σ h = ev Γ a σ h1 := by
  rw [ev_14, ha, rs_ok, ht]
  rfl
theorem ev_ifF (ha : ev Γ c σ h = .ok u h1) (ht : (val h1 u).bind truD = some false) : ev Γ (.ife c a b) σ h = ev Γ b σ h1 := by
  rw [ev_14, ha, rs_ok, ht]
  rfl
end
section
variable {T : String → Option CDef}
def anyS (s : Str) (l : List String) : Bool := l.any fun z => Str.ofString z == s
def isM : D → Bool
  | .tuple [.str s] => anyS s ["reciprocal", "average"]
  | .tuple [.str s, .int i] => anyS s ["precision", "recall", "gain", "share"] && (decide (1 ≤ i) && decide (i ≤ 7))
  | _ => false
theorem isInt_ok (hI : T "is_integer" = some c_is_integer.c) (n : Nat) (x : D) (h : PH) : run T (n + 1) "is_integer" [.d x, .d (.int 1), .d (.int 7)] h = .ok (.d (.bool (match x with | .int i => decide (1 ≤ i) && decide (i ≤ 7) | _ => false))) h := by
  rw [run_eq hI _ _ _ rfl]
  simp only [c_is_integer]
  rw [xb_ret (v := .d (.bool (match x with | .int i => decide (1 ≤ i) && decide (i ≤ 7) | _ => false))) (h1 := h)]
  · exact fin_rt
  · cases x with
    | int i =>
      by_cases h1 : 1 ≤ i <;> simp [isiD, h1]
    | _ => rfl
theorem isM_ok (hI : T "is_integer" = some c_is_integer.c) (hM : T "is_measure" = some c_is_measure.c) (n : Nat) (x : D) (h : PH) : run T (n + 2) "is_measure" [.d x] h = .ok (.d (.bool (isM x))) h := by
  rw [run_eq hM _ _ _ rfl]
  simp only [c_is_measure]
  cases x with
  | tuple us =>
    cases us with
    | nil => exact fin_rt
    | cons a us =>
      have a0 : atI (a :: us) 0 = some a := atI_zero a us
      have q1 : ∀ s, a = .str s → ev (run T (n + 1)) (.or (.not (.isi (.var 0) .tuple)) (.or (.not (.var 0)) (.not (.isi (.ix (.var 0) (.lit (.int 0))) .str)))) [some (.d (.tuple (a :: us)))] h = .ok (.d (.bool false)) h := by
        intro s e
        subst e
        simp [isiD]
      have q2 : (∀ s, a ≠ .str s) → ev (run T (n + 1)) (.or (.not (.isi (.var 0) .tuple)) (.or (.not (.var 0)) (.not (.isi (.ix (.var 0) (.lit (.int 0))) .str)))) [some (.d (.tuple (a :: us)))] h = .ok (.d (.bool true)) h := by
        intro e
        cases a with
        | str s => exact absurd rfl (e s)
        | _ => simp [isiD]
      by_cases hs : ∃ s, a = .str s
      · obtain ⟨s, rfl⟩ := hs
        show finish h.length (exB (run T (n + 1)) _ [some (.d (.tuple (.str s :: us)))] h) = _
        rw [xb_skip (q1 s rfl) rfl]
        cases us with
        | nil => exact fin_rt
        | cons b us =>
          have l1 : ev (run T (n + 1)) (.cmp .eq (.blt .len (.var 0)) (.lit (.int 1))) [some (.d (.tuple (.str s :: b :: us)))] h = .ok (.d (.bool false)) h := by
            refine ev_cmp (h1 := h) (u := .d (.int ((.str s :: b :: us : List D).length : Nat))) rfl rfl rfl rfl ?_
            simp only [cmp_eqI, PyData.eqv, List.length_cons]
            try congr 1
            all_goals simp
          rw [xb_skip l1 rfl]
          have nin : ev (run T (n + 1)) (.cmp .nin (.ix (.var 0) (.lit (.int 0))) (.tup (.cons (.lit (.str "precision")) (.cons (.lit (.str "recall")) (.cons (.lit (.str "gain")) (.cons (.lit (.str "share")) .nil)))))) [some (.d (.tuple (.str s :: b :: us)))] h = .ok (.d (.bool (!anyS s ["precision", "recall", "gain", "share"]))) h := by
            refine ev_cmp (h1 := h) (u := .d (.str s)) (w := .d (.tuple [.str (Str.ofString "precision"), .str (Str.ofString "recall"), .str (Str.ofString "gain"), .str (Str.ofString "share")])) (by simp) rfl rfl rfl ?_
            rfl
          cases us with
          | nil =>
            have l2 : ev (run T (n + 1)) (.or (.cmp .ne (.blt .len (.var 0)) (.lit (.int 2))) (.cmp .nin (.ix (.var 0) (.lit (.int 0))) (.tup (.cons (.lit (.str "precision")) (.cons (.lit (.str "recall")) (.cons (.lit (.str "gain")) (.cons (.lit (.str "share")) .nil))))))) [some (.d (.tuple [.str s, b]))] h = .ok (.d (.bool (!anyS s ["precision", "recall", "gain", "share"]))) h := by
              rw [ev_13]
              rw [show ev (run T (n + 1)) (.cmp .ne (.blt .len (.var 0)) (.lit (.int 2))) [some (.d (.tuple [.str s, b]))] h = .ok (.d (.bool false)) h from rfl]
              exact nin
            cases e : anyS s ["precision", "recall", "gain", "share"] with
            | false =>
              rw [e] at l2
              rw [xb_iteT l2 rfl]
              have : isM (.tuple [.str s, b]) = false := by
                cases b <;> first | rfl | (simp only [isM, e, Bool.false_and])
              rw [this]
              exact fin_rt
            | true =>
              rw [e] at l2
              rw [xb_skip l2 rfl]
              rw [xb_ret (v := .d (.bool (isM (.tuple [.str s, b])))) (h1 := h)]
              · exact fin_rt
              · rw [ev_call (vs := [.d b, .d (.int 1), .d (.int 7)]) (h1 := h) (by rfl), isInt_ok hI]
                cases b <;> first | rfl | (simp only [isM, e, Bool.true_and])
          | cons d us =>
            have l2 : ev (run T (n + 1)) (.or (.cmp .ne (.blt .len (.var 0)) (.lit (.int 2))) (.cmp .nin (.ix (.var 0) (.lit (.int 0))) (.tup (.cons (.lit (.str "precision")) (.cons (.lit (.str "recall")) (.cons (.lit (.str "gain")) (.cons (.lit (.str "share")) .nil))))))) [some (.d (.tuple (.str s :: b :: d :: us)))] h = .ok (.d (.bool true)) h := by
              rw [ev_13]
              have : ev (run T (n + 1)) (.cmp .ne (.blt .len (.var 0)) (.lit (.int 2))) [some (.d (.tuple (.str s :: b :: d :: us)))] h = .ok (.d (.bool true)) h := by
                refine ev_cmp (h1 := h) (u := .d (.int ((.str s :: b :: d :: us : List D).length : Nat))) rfl rfl rfl rfl ?_
                simp only [cmp_neI, PyData.eqv, List.length_cons]
                try congr 1
                all_goals simp
              rw [this]
              rfl
            rw [xb_iteT l2 rfl]
            rw [show isM (.tuple (.str s :: b :: d :: us)) = false by cases b <;> rfl]
            exact fin_rt
      · show finish h.length (exB (run T (n + 1)) _ [some (.d (.tuple (a :: us)))] h) = _
        rw [xb_iteT (q2 fun s e => hs ⟨s, e⟩) rfl]
        have : isM (.tuple (a :: us)) = false := by
          cases a with
          | str s => exact absurd ⟨s, rfl⟩ hs
          | _ => rfl
        rw [this]
        exact fin_rt
  | _ => exact fin_rt
/-- a check that raises -/
theorem fin_req {Γ : Fns} {σ : PEnv} {h : PH} {q : CE} {C : String} {b : Bool} (hq : ev Γ q σ h = .ok (.d (.bool (!b))) h) : finish h.length (exB Γ (.cons (.ite q (.cons (.raise C) .nil) .nil) .nil) σ h) = if b then .ok (.d .none) h else .exc C h := by
  cases b with
  | true =>
    rw [xb_skip hq rfl, exB_0]
    simp only [finish, if_true]
    rw [List.take_of_length_le (Nat.le_refl _)]
  | false =>
    rw [xb_iteT hq rfl, xb_cons, ex_12]
    simp only [rs_exc, finish, Bool.false_eq_true, if_false]
    rw [List.take_of_length_le (Nat.le_refl _)]
theorem ev_notc {Γ : Fns} {σ : PEnv} {h : PH} {f : String} {as : CA} {vs : List PV} {b : Bool} (ha : evA Γ as σ h = .ok vs h) (hf : Γ f vs h = .ok (.d (.bool b)) h) : ev Γ (.not (.call f as)) σ h = .ok (.d (.bool (!b))) h := by
  rw [ev_7, ev_call ha, hf]
  rfl
def entB : D → Bool
  | .none => true
  | x => intIn 0 1 x
def judB (k : Nat) : D → Bool
  | .tuple us => (us.length == k) && us.all entB
  | _ => false
theorem boolsOf_mapf {α : Type} (f : α → Bool) : ∀ xs : List α, boolsOf (xs.map fun x => PyData.bool (f x)) = some (xs.map f)
  | [] => rfl
  | x :: xs => by simp only [List.map_cons, boolsOf, boolsOf_mapf f xs, Option.map_some]
theorem len_ne (a b : Nat) : cmpD .ne (.int (a : Int)) (.int (b : Int)) = some (!(a == b)) := by
  rw [cmp_neI]
  simp only [PyData.eqv]
  congr 2
  rw [Bool.eq_iff_iff]
  simp
  omega
theorem vjud_ok (hI : T "is_integer" = some c_is_integer.c) (hV : T "are_valid_judgements" = some c_are_valid_judgements.c) (n : Nat) (h : PH) (ds : List D) (x : D) (hx : ∀ us, x = .tuple us → us.length ≤ lineN) :
    run T (n + 2) "are_valid_judgements" [.d (.tuple ds), .d x] h = .ok (.d (.bool (judB ds.length x))) h := by
  rw [run_eq hV _ _ _ rfl]
  simp only [c_are_valid_judgements]
  show finish h.length (exB (run T (n + 1)) _ [some (.d (.tuple ds)), some (.d x), none] h) = _
  cases x with
  | tuple us =>
    have q : ev (run T (n + 1)) (.or (.not (.isi (.var 1) .tuple)) (.cmp .ne (.blt .len (.var 1)) (.blt .len (.var 0)))) [some (.d (.tuple ds)), some (.d (.tuple us)), none] h = .ok (.d (.bool (!(us.length == ds.length)))) h := by
      simp only [ev_13, ev_7, ev_20, ev_0, List.getElem?_cons_succ, List.getElem?_cons_zero, rs_ok, val_d, Option.map_some, isiD, ofO_some, Option.bind_some, tru_bool, Bool.not_true, ev_8, ev_18, blt_lenT, len_ne]
    cases b : (us.length == ds.length) with
    | false =>
      rw [b] at q
      rw [xb_iteT q rfl]
      simp only [judB, b, Bool.false_and]
      exact fin_rt
    | true =>
      rw [b] at q
      rw [xb_skip q rfl, xb_ret (v := .d (.bool (judB ds.length (.tuple us)))) (h1 := h)]
      · exact fin_rt
      refine ev_blt (u := .d (.list (us.map fun u => .bool (entB u)))) ?_ rfl ?_
      · refine ev_lc1 (xs := us) (by rfl) (hx us rfl) ?_
        refine compL_list _ (fun u => .bool (entB u)) h us fun u hu => ?_
        cases u with
        | none => rfl
        | _ =>
          simp only [compF, wipeP, List.set_cons_succ, List.set_cons_zero, assignD, ofO_some, rs_ok, ev_2, dat_bl, calm_ok_, val_d, Option.bind_some, tru_bool, ev_13, ev_10, ev_0, List.getElem?_cons_succ, List.getElem?_cons_zero, isn_bool, isn_int, isn_str, isn_tup, isn_lst, isNoneV]
          rw [ev_call (vs := [.d _, .d (.int 0), .d (.int 1)]) (h1 := h) (by rfl), is_integer_ok hI]
          rfl
      · simp only [blt_all, boolsOf_mapf, Option.map_some, judB, b, Bool.true_and, List.all_map]
        rfl
  | _ => exact fin_rt
structure HQ (T : String → Option CDef) : Prop where
  int : T "is_integer" = some c_is_integer.c
  doc : T "is_document" = some c_is_document.c
  asc : T "is_ascending" = some c_is_ascending.c
  col : T "is_collection" = some c_is_collection.c
  rcol : T "require_collection" = some c_require_collection.c
  jud : T "are_valid_judgements" = some c_are_valid_judgements.c
  rjud : T "require_judgements" = some c_require_judgements.c
theorem rjud_ok (Q : HQ T) (n : Nat) (h : PH) (ss : List Str) (hs : ∀ s ∈ ss, s.length ≤ lineN) (x : D) (hx : ∀ us, x = .tuple us → us.length ≤ lineN) :
    run T (n + 4) "require_judgements" [.d (.tuple (sD ss)), .d x] h = if collB ss then (if judB ss.length x then .ok (.d .none) h else .exc "InvalidJudgements" h) else .exc "InvalidCollection" h := by
  rw [run_eq Q.rjud _ _ _ rfl]
  simp only [c_require_judgements]
  show finish h.length (exB (run T (n + 3)) _ [some (.d (.tuple (sD ss))), some (.d x)] h) = _
  have rc := require_ok Q.doc Q.asc Q.col Q.rcol n h ss hs
  cases b : collB ss with
  | false =>
    rw [b] at rc
    rw [xb_cons, ex_5, ev_call (vs := [.d (.tuple (sD ss))]) (h1 := h) (by rfl), rc]
    simp only [rs_exc, finish, Bool.false_eq_true, if_false]
    rw [List.take_of_length_le (Nat.le_refl _)]
  | true =>
    rw [b] at rc
    rw [xb_expr (v := .d .none) (h1 := h) (by rw [ev_call (vs := [.d (.tuple (sD ss))]) (h1 := h) (by rfl), rc]; rfl)]
    rw [if_pos rfl]
    refine fin_req (ev_notc (vs := [.d (.tuple (sD ss)), .d x]) (by rfl) ?_)
    have := vjud_ok Q.int Q.jud (n + 1) h (sD ss) x hx
    rw [List.length_map] at this
    exact this
/-- a ranking of the collection -/
def rankB (ss : List Str) : D → Bool
  | .tuple us => match strsOf us with
    | some rs => rs.all (fun r => decide (r ∈ ss)) && decide ((uniq rs).length = rs.length)
    | none => false
  | _ => false
def inS (ss : List Str) : D → Bool
  | .str s => decide (s ∈ ss)
  | _ => false
theorem any_eqS (ss : List Str) (s : Str) : ((sD ss).any fun z => PyData.eqv z (.str s)) = decide (s ∈ ss) := by
  rw [Bool.eq_iff_iff, decide_eq_true_eq, List.any_eq_true]
  constructor
  · rintro ⟨z, hz, e⟩
    obtain ⟨t, ht, rfl⟩ := List.mem_map.mp hz
    simp only [PyData.eqv, beq_iff_eq] at e
    subst e
    exact ht
  · intro hs
    refine ⟨.str s, List.mem_map.mpr ⟨s, hs, rfl⟩, ?_⟩
    simp only [PyData.eqv, beq_self_eq_true]
theorem flatS (ss : List Str) : (sD ss).all flatD = true := by
  refine List.all_eq_true.mpr fun x hx => ?_
  obtain ⟨s, _, rfl⟩ := List.mem_map.mp hx
  rfl
theorem in_S (ss : List Str) (s : Str) : cmpD .in_ (.str s) (.tuple (sD ss)) = some (decide (s ∈ ss)) := by
  show (if (flatD (.str s) && (sD ss).all flatD) = true then some _ else none) = _
  rw [flatS, any_eqS]
  rfl
theorem strsOf_all {us : List D} {ss : List Str} (h : us.all (inS ss) = true) : ∃ rs, us = sD rs ∧ ∀ r ∈ rs, r ∈ ss := by
  induction us with
  | nil => exact ⟨[], rfl, fun r hr => nomatch hr⟩
  | cons u us ih =>
    simp only [List.all_cons, Bool.and_eq_true] at h
    obtain ⟨rs, rfl, hr⟩ := ih h.2
    cases u with
    | str s =>
      refine ⟨s :: rs, rfl, fun r h' => ?_⟩
      rcases List.mem_cons.mp h' with rfl | h'
      · exact of_decide_eq_true h.1
      · exact hr r h'
    | _ => cases h.1
theorem rank_all {us : List D} {ss : List Str} (h : us.all (inS ss) = false) : rankB ss (.tuple us) = false := by
  show (match strsOf us with | some rs => rs.all (fun r => decide (r ∈ ss)) && decide ((uniq rs).length = rs.length) | none => false) = false
  cases q : strsOf us with
  | none => rfl
  | some rs =>
    have key : ∀ (us : List D) (rs : List Str), strsOf us = some rs → us = sD rs := by
      intro us
      induction us with
      | nil => intro rs e; cases e; rfl
      | cons u us ih =>
        intro rs e
        cases u with
        | str s =>
          simp only [strsOf] at e
          obtain ⟨a, b, rfl⟩ := Option.map_eq_some_iff.mp e
          rw [ih a b]
          rfl
        | _ => cases e
    have := key us rs q
    subst this
    have : rs.all (fun r => decide (r ∈ ss)) = false := by
      rw [← h]
      simp only [sD, List.all_map]
      rfl
    simp only [this, Bool.false_and]
theorem vrank_ok (hV : T "is_valid_ranking" = some c_is_valid_ranking.c) (n : Nat) (h : PH) (ss : List Str) (x : D) (hx : ∀ us, x = .tuple us → us.length < 4000) :
    run T (n + 1) "is_valid_ranking" [.d (.tuple (sD ss)), .d x] h = .ok (.d (.bool (rankB ss x))) h := by
  rw [run_eq hV _ _ _ rfl]
  simp only [c_is_valid_ranking]
  show finish h.length (exB (run T n) _ [some (.d (.tuple (sD ss))), some (.d x), none] h) = _
  cases x with
  | tuple us =>
    have hu := hx us rfl
    have l : ev (run T n) (.blt .all (.lc (.seq (.var 1)) (.nm 2) (.lit (.bl true)) (.and (.isi (.var 2) .str) (.cmp .in_ (.var 2) (.var 0))) [2])) [some (.d (.tuple (sD ss))), some (.d (.tuple us)), none] h = .ok (.d (.bool (us.all (inS ss)))) h := by
      refine ev_blt (u := .d (.list (us.map fun u => .bool (inS ss u)))) ?_ rfl ?_
      · refine ev_lc1 (xs := us) (by rfl) (by unfold lineN; omega) ?_
        refine compL_list _ (fun u => .bool (inS ss u)) h us fun u hu => ?_
        cases u with
        | str s =>
          simp [compF, wipeP, assignD, isiD, in_S, inS]
        | _ => rfl
      · simp only [blt_all, boolsOf_mapf, Option.map_some, List.all_map]
        rfl
    have q : ev (run T n) (.or (.not (.isi (.var 1) .tuple)) (.not (.blt .all (.lc (.seq (.var 1)) (.nm 2) (.lit (.bl true)) (.and (.isi (.var 2) .str) (.cmp .in_ (.var 2) (.var 0))) [2])))) [some (.d (.tuple (sD ss))), some (.d (.tuple us)), none] h = .ok (.d (.bool (!us.all (inS ss)))) h := by
      rw [ev_orF (u := .d (.bool false)) (h1 := h) (by rfl) rfl]
      exact ev_not l rfl
    cases b : us.all (inS ss) with
    | false =>
      rw [b] at q
      rw [xb_iteT q rfl, rank_all b]
      exact fin_rt
    | true =>
      rw [b] at q
      obtain ⟨rs, rfl, hr⟩ := strsOf_all b
      rw [List.length_map] at hu
      rw [xb_skip q rfl, xb_ret (v := .d (.bool (rankB ss (.tuple (sD rs))))) (h1 := h)]
      · exact fin_rt
      · have e1 : bltD .lenset (.tuple (sD rs)) = some (.int (uniq rs).length) := by
          show (strsOf (sD rs)).bind _ = _
          rw [strsOf_sD, Option.bind_some, if_pos hu]
        refine ev_cmp (h1 := h) (h2 := h) (u := .d (.int (uniq rs).length)) (w := .d (.int rs.length)) (ev_blt (u := .d (.tuple (sD rs))) (by rfl) rfl e1) (by simp) rfl rfl ?_
        rw [cmp_eqI]
        have a1 : rs.all (fun r => decide (r ∈ ss)) = true := List.all_eq_true.mpr fun r h' => decide_eq_true (hr r h')
        simp only [rankB, strsOf_sD, a1, Bool.true_and, PyData.eqv]
        congr 1
        rw [Bool.eq_iff_iff]
        simp
        omega
  | _ => exact fin_rt
theorem rrank_ok (hV : T "is_valid_ranking" = some c_is_valid_ranking.c) (hR : T "require_ranking" = some c_require_ranking.c) (n : Nat) (h : PH) (ss : List Str) (x : D) (hx : ∀ us, x = .tuple us → us.length < 4000) :
    run T (n + 2) "require_ranking" [.d (.tuple (sD ss)), .d x] h = if rankB ss x then .ok (.d .none) h else .exc "InvalidRanking" h := by
  rw [run_eq hR _ _ _ rfl]
  simp only [c_require_ranking]
  show finish h.length (exB (run T (n + 1)) _ [some (.d (.tuple (sD ss))), some (.d x)] h) = _
  exact fin_req (ev_notc (vs := [.d (.tuple (sD ss)), .d x]) (by rfl) (vrank_ok hV n h ss x hx))
theorem rmeas_ok (hI : T "is_integer" = some c_is_integer.c) (hM : T "is_measure" = some c_is_measure.c) (hR : T "require_measure" = some c_require_measure.c) (n : Nat) (h : PH) (x : D) :
    run T (n + 3) "require_measure" [.d x] h = if isM x then .ok (.d .none) h else .exc "InvalidMeasure" h := by
  rw [run_eq hR _ _ _ rfl]
  simp only [c_require_measure]
  show finish h.length (exB (run T (n + 2)) _ [some (.d x)] h) = _
  exact fin_req (ev_notc (vs := [.d x]) (by rfl) (isM_ok hI hM n x h))
theorem isM_me (m : Me) (hm : m.ok) : isM (meD m) = true := by
  cases m with
  | avg => decide +kernel
  | rcp => decide +kernel
  | prec k => obtain ⟨h1, h2⟩ := hm; simp only [meD, isM]; rw [show anyS (Str.ofString "precision") ["precision", "recall", "gain", "share"] = true by decide +kernel]; simp; omega
  | rcl k => obtain ⟨h1, h2⟩ := hm; simp only [meD, isM]; rw [show anyS (Str.ofString "recall") ["precision", "recall", "gain", "share"] = true by decide +kernel]; simp; omega
  | gain k => obtain ⟨h1, h2⟩ := hm; simp only [meD, isM]; rw [show anyS (Str.ofString "gain") ["precision", "recall", "gain", "share"] = true by decide +kernel]; simp; omega
  | share k => obtain ⟨h1, h2⟩ := hm; simp only [meD, isM]; rw [show anyS (Str.ofString "share") ["precision", "recall", "gain", "share"] = true by decide +kernel]; simp; omega
end
end J
end JReq

section JDraw
set_option Elab.async false
set_option linter.all false
set_option maxRecDepth 100000
set_option autoImplicit false
set_option maxHeartbeats 8000000
/-! J.Draw: what the laws draw. -/
namespace J
open PySem
/-- a comprehension that draws at each turn -/
theorem comp_draws (f : D → PH → Rs (Option D)) (P : D → Prop) (h : PH) (c : Nat) (k : Nat) (L : Nat) (hlt : c < h.length) (step : ∀ (x : D) (xs : List Int), xs.length ≤ L → ∃ (y : D) (ys : List Int), f x (h.set c (.lst (iD xs))) = .ok (some y) (h.set c (.lst (iD ys))) ∧ P y ∧ ys.length ≤ xs.length + k) :
    ∀ (us : List D) (xs : List Int), xs.length + k * us.length ≤ L → ∃ (vs : List D) (ys : List Int), compL f us (h.set c (.lst (iD xs))) = .ok vs (h.set c (.lst (iD ys))) ∧ vs.length = us.length ∧ (∀ v ∈ vs, P v) ∧ ys.length ≤ xs.length + k * us.length
  | [], xs, _ => ⟨[], xs, rfl, rfl, (fun v hv => nomatch hv), Nat.le_add_right _ _⟩
  | u :: us, xs, hl => by
    simp only [List.length_cons, Nat.mul_add, Nat.mul_one] at hl
    obtain ⟨y, ys, e1, p1, l1⟩ := step u xs (by omega)
    obtain ⟨vs, zs, e2, l2, p2, l3⟩ := comp_draws f P h c k L hlt step us ys (by omega)
    refine ⟨y :: vs, zs, ?_, by simp [l2], fun v hv => ?_, by simp only [List.length_cons, Nat.mul_add, Nat.mul_one]; omega⟩
    · simp only [compL, e1, rs_ok, e2]
    · rcases List.mem_cons.mp hv with rfl | hv
      · exact p1
      · exact p2 v hv
structure HD (T : String → Option CDef) : Prop where
  draw : T "_law_draw" = some c__law_draw.c
  pick : T "_law_pick" = some c__law_pick.c
  shuf : T "_law_shuffled" = some c__law_shuffled.c
  coll : T "_law_collection" = some c__law_collection.c
section
variable {T : String → Option CDef}
theorem full_ok (R : HD T) (hF : T "_law_full" = some c__law_full.c) (n : Nat) (ns : List Int) (hn : ns.length ≤ 63) (h : PH) (c : Nat) (xs : List Int) (hc : h[c]? = some (.lst (iD xs))) (ss : List Str) (hl : xs.length ≤ 1000000) (hs : ss.length ≤ 100) :
    ∃ (cs ys : List Int), run T (n + 2) "_law_full" [.d (.list (iD ns)), .cell c, .d (.tuple (sD ss))] h = .ok (.d (.tuple (iD cs))) (h.set c (.lst (iD ys))) ∧ cs.length = ss.length ∧ B01 cs ∧ ys.length ≤ xs.length + 2 * ss.length := by
  rw [run_eq hF _ _ _ rfl]
  simp only [c__law_full]
  show ∃ cs ys, finish h.length (exB (run T (n + 1)) _ [some (.d (.list (iD ns))), some (.cell c), some (.d (.tuple (sD ss))), none] h) = _ ∧ _
  have hlt := lt_of_get hc
  obtain ⟨vs, ys, e, l1, p, l2⟩ := comp_draws (compF (.nm 3) [3] (fun σ h => ev (run T (n + 1)) (.lit (.bl true)) σ h) (fun σ h => ev (run T (n + 1)) (.call "_law_draw" (.cons (.var 0) (.cons (.var 1) (.cons (.lit (.int 2)) .nil)))) σ h) [some (.d (.list (iD ns))), some (.cell c), some (.d (.tuple (sD ss))), none])
    (fun y => y = .int 0 ∨ y = .int 1) h c 2 2000000 hlt (fun x xs hx => by
      obtain ⟨r, ys, e, h0, h1, hy⟩ := draw_ok R.draw n ns hn (h.set c (.lst (iD xs))) c xs (get_set hc) (by unfold lineN; omega) 2 (by decide)
      refine ⟨.int r, ys, ?_, ?_, hy⟩
      · simp only [compF, wipeP, List.set_cons_succ, List.set_cons_zero, assignD, ofO_some, rs_ok, ev_2, dat_bl, calm_ok_, val_d, Option.bind_some, tru_bool]
        rw [ev_call (vs := [.d (.list (iD ns)), .cell c, .d (.int 2)]) (h1 := h.set c (.lst (iD xs))) (by rfl), e]
        simp only [List.set_set, calm_ok_, rs_ok]
      · rcases (show r = 0 ∨ r = 1 by omega) with rfl | rfl
        · exact .inl rfl
        · exact .inr rfl) (sD ss) xs (by rw [List.length_map]; omega)
  rw [List.length_map] at l1 l2
  rw [set_same hc] at e
  obtain ⟨cs, rfl, hb⟩ : ∃ cs : List Int, vs = iD cs ∧ B01 cs := by
    clear e l1
    induction vs with
    | nil => exact ⟨[], rfl, fun x hx => nomatch hx⟩
    | cons v vs ih =>
      obtain ⟨cs, rfl, hb⟩ := ih fun w hw => p w (List.mem_cons_of_mem _ hw)
      rcases p v List.mem_cons_self with rfl | rfl
      · exact ⟨0 :: cs, rfl, fun x hx => by
          rcases List.mem_cons.mp hx with rfl | hx
          · exact .inl rfl
          · exact hb x hx⟩
      · exact ⟨1 :: cs, rfl, fun x hx => by
          rcases List.mem_cons.mp hx with rfl | hx
          · exact .inr rfl
          · exact hb x hx⟩
  refine ⟨cs, ys, ?_, by simpa using l1, hb, l2⟩
  rw [xb_ret (v := .d (.tuple (iD cs))) (h1 := h.set c (.lst (iD ys)))]
  · exact fin_set
  · refine ev_blt (u := .d (.list (iD cs))) ?_ rfl rfl
    rw [ev_24, show evI (run T (n + 1)) (.seq (.var 2)) [some (.d (.list (iD ns))), some (.cell c), some (.d (.tuple (sD ss))), none] h = .ok (sD ss) h from rfl, rs_ok]
    rw [if_pos (by rw [List.length_map]; unfold lineN; omega), e]
    rfl
theorem perm_sD {vs : List D} {ss : List Str} (p : vs.Perm (sD ss)) : ∃ ws : List Str, vs = sD ws ∧ ws.Perm ss := by
  have str : ∀ v ∈ vs, ∃ s : Str, v = .str s := fun v hv => by
    obtain ⟨s, _, e⟩ := List.mem_map.mp (p.mem_iff.mp hv)
    exact ⟨s, e.symm⟩
  obtain ⟨ws, e⟩ : ∃ ws : List Str, vs = sD ws := by
    clear p
    induction vs with
    | nil => exact ⟨[], rfl⟩
    | cons v vs ih =>
      obtain ⟨s, rfl⟩ := str v List.mem_cons_self
      obtain ⟨ws, rfl⟩ := ih fun w hw => str w (List.mem_cons_of_mem _ hw)
      exact ⟨s :: ws, rfl⟩
  subst e
  refine ⟨ws, rfl, ?_⟩
  have q := p.filterMap (fun d => match d with | .str s => some s | _ => none)
  have fm : ∀ l : List Str, (sD l).filterMap (fun d => match d with | .str s => some s | _ => none) = l := fun l => by
    induction l with
    | nil => rfl
    | cons a l ih => simp only [sD, List.map_cons, List.filterMap_cons] at *; rw [ih]
  rw [fm, fm] at q
  exact q
theorem ranking_ok (R : HD T) (hK : T "_law_ranking" = some c__law_ranking.c) (n : Nat) (ns : List Int) (hn : ns.length ≤ 63) (h : PH) (c : Nat) (xs : List Int) (hc : h[c]? = some (.lst (iD xs))) (ss : List Str) (nd : ss.Nodup) (hl : xs.length ≤ 1000000) (hs : ss.length ≤ 100) :
    ∃ (rs : List Str) (ys : List Int), run T (n + 3) "_law_ranking" [.d (.list (iD ns)), .cell c, .d (.tuple (sD ss))] h = .ok (.d (.tuple (sD rs))) (h.set c (.lst (iD ys))) ∧ rs.Nodup ∧ (∀ r ∈ rs, r ∈ ss) ∧ ys.length ≤ xs.length + 2 * ss.length + 4 := by
  rw [run_eq hK _ _ _ rfl]
  simp only [c__law_ranking]
  show ∃ rs ys, finish h.length (exB (run T (n + 2)) _ [some (.d (.list (iD ns))), some (.cell c), some (.d (.tuple (sD ss))), none, none] h) = _ ∧ _
  obtain ⟨vs, ys1, e1, p1, l1⟩ := shuffled_ok R.draw R.shuf n ns hn h c xs hc (.tuple (sD ss)) (sD ss) rfl (by rw [List.length_map]; omega) (by rw [List.length_map]; omega)
  rw [List.length_map] at l1
  obtain ⟨ws, rfl, pw⟩ := perm_sD p1
  have wl : ws.length = ss.length := pw.length_eq
  rw [xb_asg (v := .d (.list (sD ws))) (h1 := h.set c (.lst (iD ys1))) (by rw [ev_call (vs := [.d (.list (iD ns)), .cell c, .d (.tuple (sD ss))]) (h1 := h) (by rfl)]; exact e1)]
  simp only [List.set_cons_succ, List.set_cons_zero]
  obtain ⟨j, ys2, e2, j0, j1, l2⟩ := draw_ok R.draw (n + 1) ns hn (h.set c (.lst (iD ys1))) c ys1 (get_set hc) (by unfold lineN; omega) ((ws.length : Int) + 1) (by omega)
  rw [List.set_set] at e2
  obtain ⟨y, ys3, e3, m3, l3⟩ := pick_ok R.draw R.pick n ns hn (h.set c (.lst (iD ys2))) c ys2 (get_set hc) (by unfold lineN; omega) [.int ws.length, .int ws.length, .int j] (by simp)
  rw [List.set_set] at e3
  obtain ⟨k, rfl, k0⟩ : ∃ k : Int, y = .int k ∧ 0 ≤ k := by
    simp only [List.mem_cons, List.not_mem_nil, or_false] at m3
    rcases m3 with rfl | rfl | rfl
    · exact ⟨_, rfl, by omega⟩
    · exact ⟨_, rfl, by omega⟩
    · exact ⟨j, rfl, j0⟩
  rw [xb_asg (v := .d (.int k)) (h1 := h.set c (.lst (iD ys3))) (by
    rw [ev_call (vs := [.d (.list (iD ns)), .cell c, .d (.list [.int ws.length, .int ws.length, .int j])]) (h1 := h.set c (.lst (iD ys2)))]
    · exact e3
    · simp [e2])]
  simp only [List.set_cons_succ, List.set_cons_zero]
  have ct : cut (sD ws) none (some k) = sD (ws.take k.toNat) := by rw [cut_to _ k0]; exact List.map_take.symm
  refine ⟨ws.take k.toNat, ys3, ?_, ?_, fun r hr => pw.mem_iff.mp (List.mem_of_mem_take hr), by omega⟩
  · rw [xb_ret (v := .d (.tuple (sD (ws.take k.toNat)))) (h1 := h.set c (.lst (iD ys3))) (by simp [ct])]
    exact fin_set
  · exact List.Nodup.sublist (List.take_sublist _ _) (pw.nodup_iff.mpr nd)
theorem measure_ok (R : HD T) (hM : T "_law_measure" = some c__law_measure.c) (n : Nat) (ns : List Int) (hn : ns.length ≤ 63) (h : PH) (c : Nat) (xs : List Int) (hc : h[c]? = some (.lst (iD xs))) (hl : xs.length ≤ 1000000) :
    ∃ (m : Me) (ys : List Int), run T (n + 3) "_law_measure" [.d (.list (iD ns)), .cell c] h = .ok (.d (meD m)) (h.set c (.lst (iD ys))) ∧ m.ok ∧ ys.length ≤ xs.length + 4 := by
  rw [run_eq hM _ _ _ rfl]
  simp only [c__law_measure]
  show ∃ m ys, finish h.length (exB (run T (n + 2)) _ [some (.d (.list (iD ns))), some (.cell c), none] h) = _ ∧ _
  obtain ⟨y, ys1, e1, m1, l1⟩ := pick_ok R.draw R.pick n ns hn h c xs hc (by unfold lineN; omega) [.str (Str.ofString "average"), .str (Str.ofString "average"), .str (Str.ofString "reciprocal"), .str (Str.ofString "precision"), .str (Str.ofString "recall"), .str (Str.ofString "gain"), .str (Str.ofString "share")] (by simp)
  rw [xb_asg (v := .d y) (h1 := h.set c (.lst (iD ys1))) (by rw [ev_call (vs := [.d (.list (iD ns)), .cell c, .d (.list [.str (Str.ofString "average"), .str (Str.ofString "average"), .str (Str.ofString "reciprocal"), .str (Str.ofString "precision"), .str (Str.ofString "recall"), .str (Str.ofString "gain"), .str (Str.ofString "share")])]) (h1 := h) (by rfl)]; exact e1)]
  simp only [List.set_cons_succ, List.set_cons_zero]
  obtain ⟨j, ys2, e2, j0, j1, l2⟩ := draw_ok R.draw (n + 1) ns hn (h.set c (.lst (iD ys1))) c ys1 (get_set hc) (by unfold lineN; omega) 5 (by decide)
  rw [List.set_set] at e2
  obtain ⟨k, rfl⟩ : ∃ k : Nat, j = k := ⟨j.toNat, by omega⟩
  have one : ∀ (s : String) (m : Me), meD m = .tuple [.str (Str.ofString s)] → cmpD .in_ (.str (Str.ofString s)) (.tuple [.str (Str.ofString "average"), .str (Str.ofString "reciprocal")]) = some true → m.ok → y = .str (Str.ofString s) →
      ∃ (m : Me) (ys : List Int), finish h.length (exB (run T (n + 2)) (.cons (.ret (.ife (.cmp .in_ (.var 2) (.tup (.cons (.lit (.str "average")) (.cons (.lit (.str "reciprocal")) .nil)))) (.tup (.cons (.var 2) .nil)) (.tup (.cons (.var 2) (.cons (.bin .add (.lit (.int 1)) (.call "_law_draw" (.cons (.var 0) (.cons (.var 1) (.cons (.lit (.int 5)) .nil))))) .nil))))) .nil) [some (.d (.list (iD ns))), some (.cell c), some (.d y)] (h.set c (.lst (iD ys1)))) = .ok (.d (meD m)) (h.set c (.lst (iD ys))) ∧ m.ok ∧ ys.length ≤ xs.length + 4 := fun s m em ec ok ey => by
    subst ey
    refine ⟨m, ys1, ?_, ok, by omega⟩
    rw [xb_ret (v := .d (meD m)) (h1 := h.set c (.lst (iD ys1)))]
    · exact fin_set
    · rw [ev_ifT (u := .d (.bool true)) (h1 := h.set c (.lst (iD ys1))) (ev_cmp (h1 := h.set c (.lst (iD ys1))) (u := .d (.str (Str.ofString s))) (w := .d (.tuple [.str (Str.ofString "average"), .str (Str.ofString "reciprocal")])) (by rfl) (by rfl) rfl rfl ec) rfl, em]
      rfl
  have two : ∀ (s : String) (m : Me), meD m = .tuple [.str (Str.ofString s), .int ((k + 1 : Nat) : Int)] → cmpD .in_ (.str (Str.ofString s)) (.tuple [.str (Str.ofString "average"), .str (Str.ofString "reciprocal")]) = some false → m.ok → y = .str (Str.ofString s) →
      ∃ (m : Me) (ys : List Int), finish h.length (exB (run T (n + 2)) (.cons (.ret (.ife (.cmp .in_ (.var 2) (.tup (.cons (.lit (.str "average")) (.cons (.lit (.str "reciprocal")) .nil)))) (.tup (.cons (.var 2) .nil)) (.tup (.cons (.var 2) (.cons (.bin .add (.lit (.int 1)) (.call "_law_draw" (.cons (.var 0) (.cons (.var 1) (.cons (.lit (.int 5)) .nil))))) .nil))))) .nil) [some (.d (.list (iD ns))), some (.cell c), some (.d y)] (h.set c (.lst (iD ys1)))) = .ok (.d (meD m)) (h.set c (.lst (iD ys))) ∧ m.ok ∧ ys.length ≤ xs.length + 4 := fun s m em ec ok ey => by
    subst ey
    refine ⟨m, ys2, ?_, ok, by omega⟩
    rw [xb_ret (v := .d (meD m)) (h1 := h.set c (.lst (iD ys2)))]
    · exact fin_set
    · rw [ev_ifF (u := .d (.bool false)) (h1 := h.set c (.lst (iD ys1))) (ev_cmp (h1 := h.set c (.lst (iD ys1))) (u := .d (.str (Str.ofString s))) (w := .d (.tuple [.str (Str.ofString "average"), .str (Str.ofString "reciprocal")])) (by rfl) (by rfl) rfl rfl ec) rfl, em]
      have : (1 : Int) + (k : Int) = ((k + 1 : Nat) : Int) := by omega
      simp [e2, this]
  simp only [List.mem_cons, List.not_mem_nil, or_false] at m1
  have kk : 1 ≤ k + 1 ∧ k + 1 ≤ 7 := by omega
  rcases m1 with z | z | z | z | z | z | z
  · exact one "average" .avg rfl (by decide +kernel) trivial z
  · exact one "average" .avg rfl (by decide +kernel) trivial z
  · exact one "reciprocal" .rcp rfl (by decide +kernel) trivial z
  · exact two "precision" (.prec (k + 1)) rfl (by decide +kernel) kk z
  · exact two "recall" (.rcl (k + 1)) rfl (by decide +kernel) kk z
  · exact two "gain" (.gain (k + 1)) rfl (by decide +kernel) kk z
  · exact two "share" (.share (k + 1)) rfl (by decide +kernel) kk z
/-- entries: judged or not -/
def eD (es : List (Option Int)) : List D := es.map fun e => match e with | some i => .int i | none => .none
def E01 (es : List (Option Int)) : Prop := ∀ e ∈ es, e = none ∨ e = some 0 ∨ e = some 1
theorem entries_ok (R : HD T) (hE : T "_law_entries" = some c__law_entries.c) (n : Nat) (ns : List Int) (hn : ns.length ≤ 63) (h : PH) (c : Nat) (xs : List Int) (hc : h[c]? = some (.lst (iD xs))) (ss : List Str) (hl : xs.length ≤ 1000000) (hs : ss.length ≤ 100) :
    ∃ (es : List (Option Int)) (ys : List Int), run T (n + 3) "_law_entries" [.d (.list (iD ns)), .cell c, .d (.tuple (sD ss))] h = .ok (.d (.tuple (eD es))) (h.set c (.lst (iD ys))) ∧ es.length = ss.length ∧ E01 es ∧ ys.length ≤ xs.length + 2 * ss.length + 2 := by
  rw [run_eq hE _ _ _ rfl]
  simp only [c__law_entries]
  show ∃ es ys, finish h.length (exB (run T (n + 2)) _ [some (.d (.list (iD ns))), some (.cell c), some (.d (.tuple (sD ss))), none, none] h) = _ ∧ _
  have hlt := lt_of_get hc
  obtain ⟨y, ys1, e1, m1, l1⟩ := pick_ok R.draw R.pick n ns hn h c xs hc (by unfold lineN; omega) [.list [.none, .none, .int 0, .int 1], .list [.none, .int 0, .int 1], .list [.none]] (by simp)
  obtain ⟨us, rfl, u0, uP⟩ : ∃ us : List D, y = .list us ∧ us ≠ [] ∧ ∀ u ∈ us, u = .none ∨ u = .int 0 ∨ u = .int 1 := by
    simp only [List.mem_cons, List.not_mem_nil, or_false] at m1
    rcases m1 with rfl | rfl | rfl
    · exact ⟨_, rfl, by simp, fun u hu => by simp only [List.mem_cons, List.not_mem_nil, or_false] at hu; rcases hu with z | z | z | z <;> simp [z]⟩
    · exact ⟨_, rfl, by simp, fun u hu => by simp only [List.mem_cons, List.not_mem_nil, or_false] at hu; rcases hu with z | z | z <;> simp [z]⟩
    · exact ⟨_, rfl, by simp, fun u hu => by simp only [List.mem_cons, List.not_mem_nil, or_false] at hu; simp [hu]⟩
  rw [xb_asg (v := .d (.list us)) (h1 := h.set c (.lst (iD ys1))) (by rw [ev_call (vs := [.d (.list (iD ns)), .cell c, .d (.list [.list [.none, .none, .int 0, .int 1], .list [.none, .int 0, .int 1], .list [.none]])]) (h1 := h) (by rfl)]; exact e1)]
  simp only [List.set_cons_succ, List.set_cons_zero]
  obtain ⟨vs, ys, e, l2, p, l3⟩ := comp_draws (compF (.nm 4) [4] (fun σ h => ev (run T (n + 2)) (.lit (.bl true)) σ h) (fun σ h => ev (run T (n + 2)) (.call "_law_pick" (.cons (.var 0) (.cons (.var 1) (.cons (.var 3) .nil)))) σ h) [some (.d (.list (iD ns))), some (.cell c), some (.d (.tuple (sD ss))), some (.d (.list us)), none])
    (fun y => y = .none ∨ y = .int 0 ∨ y = .int 1) h c 2 2000000 hlt (fun x xs hx => by
      obtain ⟨r, ys, e, hm, hy⟩ := pick_ok R.draw R.pick n ns hn (h.set c (.lst (iD xs))) c xs (get_set hc) (by unfold lineN; omega) us u0
      refine ⟨r, ys, ?_, uP r hm, hy⟩
      simp only [compF, wipeP, List.set_cons_succ, List.set_cons_zero, assignD, ofO_some, rs_ok, ev_2, dat_bl, calm_ok_, val_d, Option.bind_some, tru_bool]
      rw [ev_call (vs := [.d (.list (iD ns)), .cell c, .d (.list us)]) (h1 := h.set c (.lst (iD xs))) (by rfl), e]
      simp only [List.set_set, calm_ok_, rs_ok]) (sD ss) ys1 (by rw [List.length_map]; omega)
  rw [List.length_map] at l2 l3
  obtain ⟨es, rfl, hb⟩ : ∃ es : List (Option Int), vs = eD es ∧ E01 es := by
    clear e l2
    induction vs with
    | nil => exact ⟨[], rfl, fun x hx => nomatch hx⟩
    | cons v vs ih =>
      obtain ⟨es, rfl, hb⟩ := ih fun w hw => p w (List.mem_cons_of_mem _ hw)
      have go : ∀ e : Option Int, (e = none ∨ e = some 0 ∨ e = some 1) → E01 (e :: es) := fun e he x hx => by
        rcases List.mem_cons.mp hx with rfl | hx
        · exact he
        · exact hb x hx
      rcases p v List.mem_cons_self with rfl | rfl | rfl
      · exact ⟨none :: es, rfl, go _ (.inl rfl)⟩
      · exact ⟨some 0 :: es, rfl, go _ (.inr (.inl rfl))⟩
      · exact ⟨some 1 :: es, rfl, go _ (.inr (.inr rfl))⟩
  refine ⟨es, ys, ?_, by simpa [eD] using l2, hb, by omega⟩
  rw [xb_ret (v := .d (.tuple (eD es))) (h1 := h.set c (.lst (iD ys)))]
  · exact fin_set
  · refine ev_blt (u := .d (.list (eD es))) ?_ rfl rfl
    rw [ev_24, show evI (run T (n + 2)) (.seq (.var 2)) [some (.d (.list (iD ns))), some (.cell c), some (.d (.tuple (sD ss))), some (.d (.list us)), none] (h.set c (.lst (iD ys1))) = .ok (sD ss) (h.set c (.lst (iD ys1))) from rfl, rs_ok]
    rw [if_pos (by rw [List.length_map]; unfold lineN; omega), e]
    rfl
end
end J
end JDraw

section JJud
set_option Elab.async false
set_option linter.all false
set_option maxRecDepth 100000
set_option autoImplicit false
set_option maxHeartbeats 8000000
/-! J.Jud: completions, unjudged documents, changed judgements. -/
namespace J
open PySem
def opts : Option Int → List Int
  | none => [0, 1]
  | some i => [i]
def rowsF (rows : List (List Int)) (e : Option Int) : List (List Int) := rows.flatMap fun row => (opts e).map fun o => row ++ [o]
/-- all completions, in order -/
def comps (es : List (Option Int)) : List (List Int) := es.foldl rowsF [[]]
def rD (rows : List (List Int)) : List D := rows.map fun r => PyData.tuple (iD r)
theorem compLL_pure {α : Type} (f : D → PH → Rs (List D)) (i : α → D) (g : α → List D) (h : PH) : ∀ xs : List α, (∀ x ∈ xs, f (i x) h = .ok (g x) h) → compLL f (xs.map i) h = .ok (xs.flatMap g) h
  | [], _ => rfl
  | x :: xs, hf => by
    simp only [List.map_cons, compLL, hf x List.mem_cons_self, rs_ok, compLL_pure f i g h xs fun y hy => hf y (List.mem_cons_of_mem _ hy), List.flatMap_cons]
theorem rowsF_len (rows : List (List Int)) (e : Option Int) : (rowsF rows e).length ≤ 2 * rows.length := by
  unfold rowsF
  induction rows with
  | nil => simp
  | cons r rows ih =>
    simp only [List.flatMap_cons, List.length_append, List.length_map, List.length_cons]
    cases e <;> simp [opts] <;> simp [opts] at ih <;> omega
theorem rowsF_mem {rows : List (List Int)} {e : Option Int} {r : List Int} (h : r ∈ rowsF rows e) : ∃ q ∈ rows, ∃ o ∈ opts e, r = q ++ [o] := by
  unfold rowsF at h
  obtain ⟨q, hq, h⟩ := List.mem_flatMap.mp h
  obtain ⟨o, ho, rfl⟩ := List.mem_map.mp h
  exact ⟨q, hq, o, ho, rfl⟩
abbrev Rows (rows : List (List Int)) (k : Nat) : Prop := rows.length ≤ 2 ^ k ∧ ∀ r ∈ rows, r.length = k
theorem Rows.step {rows : List (List Int)} {k : Nat} (e : Option Int) (h : Rows rows k) : Rows (rowsF rows e) (k + 1) := by
  refine ⟨?_, fun r hr => ?_⟩
  · have := rowsF_len rows e
    have := h.1
    rw [Nat.pow_succ]
    omega
  · obtain ⟨q, hq, o, _, rfl⟩ := rowsF_mem hr
    rw [List.length_append, h.2 q hq]
    rfl
def oD (e : Option Int) : D := match e with | some i => .int i | none => .none
theorem eD_cons (e : Option Int) (es : List (Option Int)) : eD (e :: es) = oD e :: eD es := rfl
theorem eD_len (es : List (Option Int)) : (eD es).length = es.length := by simp [eD]
section
variable {T : String → Option CDef}
theorem opts_ev (Γ : Fns) (σ : PEnv) (h : PH) (e : Option Int) (h2 : σ[2]? = some (some (.d (oD e)))) : ev Γ (.ife (.isn (.var 2)) (.lst (.cons (.lit (.int 0)) (.cons (.lit (.int 1)) .nil))) (.lst (.cons (.var 2) .nil))) σ h = .ok (.d (.list (iD (opts e)))) h := by
  cases e with
  | none =>
    rw [ev_ifT (u := .d (.bool true)) (h1 := h) (by simp [h2, oD]) rfl]
    rfl
  | some i =>
    rw [ev_ifF (u := .d (.bool false)) (h1 := h) (by simp [h2, oD]) rfl]
    simp [h2, oD, opts]
theorem lc2_rows (Γ : Fns) (h : PH) (v0 v2 v4 v5 : Option PV) (rows : List (List Int)) (os : List Int) (ho : os.length ≤ 2) (hr : rows.length ≤ 1000) (hk : ∀ r ∈ rows, r.length ≤ 1000) :
    ev Γ (.lc2 (.seq (.var 1)) (.nm 4) (.lit (.bl true)) (.seq (.var 3)) (.nm 5) (.lit (.bl true)) (.bin .add (.var 4) (.tup (.cons (.var 5) .nil))) [4, 5] [5]) [v0, some (.d (.list (rD rows))), v2, some (.d (.list (iD os))), v4, v5] h = .ok (.d (.list (rD (rows.flatMap fun row => os.map fun o => row ++ [o])))) h := by
  rw [ev_25, show evI Γ (.seq (.var 1)) [v0, some (.d (.list (rD rows))), v2, some (.d (.list (iD os))), v4, v5] h = .ok (rD rows) h from rfl, rs_ok]
  have key := compLL_pure (compF2 (.nm 4) [4, 5] (fun σ h => ev Γ (.lit (.bl true)) σ h) (fun σ h => evI Γ (.seq (.var 3)) σ h) (fun σ2 => compF (.nm 5) [5] (fun σ h => ev Γ (.lit (.bl true)) σ h) (fun σ h => ev Γ (.bin .add (.var 4) (.tup (.cons (.var 5) .nil))) σ h) σ2) [v0, some (.d (.list (rD rows))), v2, some (.d (.list (iD os))), v4, v5])
    (fun r => PyData.tuple (iD r)) (fun row => os.map fun o => PyData.tuple (iD (row ++ [o]))) h rows (fun row hrow => by
      have in1 := comp_map (compF (.nm 5) [5] (fun σ h => ev Γ (.lit (.bl true)) σ h) (fun σ h => ev Γ (.bin .add (.var 4) (.tup (.cons (.var 5) .nil))) σ h) [v0, some (.d (.list (rD rows))), v2, some (.d (.list (iD os))), some (.d (.tuple (iD row))), none]) PyData.int (fun o => .tuple (iD (row ++ [o]))) h os (fun o _ => by
        have hb : binD .add (.tuple (iD row)) (.tuple [.int o]) = some (.tuple (iD (row ++ [o]))) := by
          have := hk row hrow
          rw [bin_addT (by simp [lineN]; omega)]
          simp
        simp [compF, wipeP, assignD, hb])
      simp only [compF2, wipeP, List.set_cons_succ, List.set_cons_zero, assignD, ofO_some, rs_ok, ev_2, dat_bl, calm_ok_, val_d, Option.bind_some, tru_bool, evI_0, ev_0, List.getElem?_cons_succ, List.getElem?_cons_zero, seqItems]
      exact in1)
  have key' : compLL (compF2 (.nm 4) [4, 5] (fun σ h => ev Γ (.lit (.bl true)) σ h) (fun σ h => evI Γ (.seq (.var 3)) σ h) (fun σ2 => compF (.nm 5) [5] (fun σ h => ev Γ (.lit (.bl true)) σ h) (fun σ h => ev Γ (.bin .add (.var 4) (.tup (.cons (.var 5) .nil))) σ h) σ2) [v0, some (.d (.list (rD rows))), v2, some (.d (.list (iD os))), v4, v5]) (rD rows) h = _ := key
  rw [key', rs_ok, if_pos]
  · congr 3
    simp only [rD, List.map_flatMap, List.map_map]
    rfl
  · have : ∀ rows : List (List Int), (rows.flatMap fun row => os.map fun o => PyData.tuple (iD (row ++ [o]))).length ≤ 2 * rows.length := fun rows => by
      induction rows with
      | nil => simp
      | cons r rows ih => simp only [List.flatMap_cons, List.length_append, List.length_map, List.length_cons]; omega
    have := this rows
    unfold lineN
    omega
def complB : CB := .cons (.asg 3 (.ife (.isn (.var 2)) (.lst (.cons (.lit (.int 0)) (.cons (.lit (.int 1)) .nil))) (.lst (.cons (.var 2) .nil)))) (.cons (.asg 1 (.lc2 (.seq (.var 1)) (.nm 4) (.lit (.bl true)) (.seq (.var 3)) (.nm 5) (.lit (.bl true)) (.bin .add (.var 4) (.tup (.cons (.var 5) .nil))) [4, 5] [5])) .nil)
theorem compl_loop (Γ : Fns) (h : PH) (v0 : Option PV) : ∀ (es : List (Option Int)) (k : Nat) (rows : List (List Int)) (v2 v3 v4 v5 : Option PV), Rows rows k → k + es.length ≤ 8 →
    ∃ v2' v3', forL (fun x σ h => (ofO (assignD (.nm 2) x σ) h).bind fun σ' h => exB Γ complB σ' h) (eD es) [v0, some (.d (.list (rD rows))), v2, v3, v4, v5] h = .ok (.nx [v0, some (.d (.list (rD (es.foldl rowsF rows)))), v2', v3', v4, v5]) h
  | [], k, rows, v2, v3, v4, v5, _, _ => ⟨v2, v3, rfl⟩
  | e :: es, k, rows, v2, v3, v4, v5, hR, hk => by
    simp only [List.length_cons] at hk
    obtain ⟨v2', v3', ih⟩ := compl_loop Γ h v0 es (k + 1) (rowsF rows e) (some (.d (oD e))) (some (.d (.list (iD (opts e))))) v4 v5 (hR.step e) (by omega)
    refine ⟨v2', v3', ?_⟩
    rw [eD_cons, forL_cons (h1 := h) (σ' := [v0, some (.d (.list (rD (rowsF rows e)))), some (.d (oD e)), some (.d (.list (iD (opts e)))), v4, v5])]
    · exact ih
    · simp only [assignD, ofO_some, rs_ok, List.set_cons_succ, List.set_cons_zero]
      rw [complB, xb_asg (opts_ev Γ _ h e rfl)]
      simp only [List.set_cons_succ, List.set_cons_zero]
      have p8 : 2 ^ k ≤ 2 ^ 8 := Nat.pow_le_pow_right (by decide) (by omega)
      rw [xb_asg (lc2_rows Γ h v0 (some (.d (oD e))) v4 v5 rows (opts e) (by cases e <;> simp [opts]) (by have := hR.1; omega) (fun r hr => by rw [hR.2 r hr]; omega))]
      simp only [List.set_cons_succ, List.set_cons_zero, exB_0]
      rfl
theorem compl_ok (hA : T "all_completions" = some c_all_completions.c) (n : Nat) (h : PH) (es : List (Option Int)) (hl : es.length ≤ 8) : run T (n + 1) "all_completions" [.d (.tuple (eD es))] h = .ok (.d (.list (rD (comps es)))) h := by
  rw [run_eq hA _ _ _ rfl]
  simp only [c_all_completions]
  show finish h.length (exB (run T n) _ [some (.d (.tuple (eD es))), none, none, none, none, none] h) = _
  rw [xb_asg (v := .d (.list (rD [[]]))) (h1 := h) (by rfl)]
  simp only [List.set_cons_succ, List.set_cons_zero]
  obtain ⟨v2, v3, e⟩ := compl_loop (run T n) h (some (.d (.tuple (eD es)))) es 0 [[]] none none none none ⟨by decide, fun r hr => by simp at hr; simp [hr]⟩ (by omega)
  rw [xb_for (xs := eD es) (h1 := h) (by rfl)]
  rw [complB] at e
  rw [e, rs_ok, kont_nx, xb_ret (v := .d (.list (rD (comps es)))) (h1 := h) (by rfl)]
  exact fin_rt
/-! ### unjudged documents -/
def openS (ss : List Str) (es : List (Option Int)) : List Str := (ss.zip es).filterMap fun p => match p.2 with | none => some p.1 | some _ => none
theorem zipD_open : ∀ (ss : List Str) (es : List (Option Int)), zipD (sD ss) (eD es) = (ss.zip es).map fun p => PyData.tuple [.str p.1, oD p.2]
  | [], _ => rfl
  | _ :: _, [] => rfl
  | s :: ss, e :: es => by
    show PyData.tuple [.str s, oD e] :: zipD (sD ss) (eD es) = _
    rw [zipD_open ss es]
    rfl
theorem fm_map {α : Type} (f : α → Option Str) (xs : List α) : xs.filterMap (fun x => (f x).map PyData.str) = sD (xs.filterMap f) := by
  induction xs with
  | nil => rfl
  | cons x xs ih =>
    simp only [List.filterMap_cons]
    cases f x with
    | none => exact ih
    | some y =>
      show _ :: _ = _ :: _
      rw [ih]
theorem open_ok (hO : T "open_documents" = some c_open_documents.c) (n : Nat) (h : PH) (ss : List Str) (es : List (Option Int)) (hl : ss.length ≤ 1000) : run T (n + 1) "open_documents" [.d (.tuple (sD ss)), .d (.tuple (eD es))] h = .ok (.d (.tuple (sD (openS ss es)))) h := by
  rw [run_eq hO _ _ _ rfl]
  simp only [c_open_documents]
  show finish h.length (exB (run T n) _ [some (.d (.tuple (sD ss))), some (.d (.tuple (eD es))), none, none] h) = _
  rw [xb_ret (v := .d (.tuple (sD (openS ss es)))) (h1 := h)]
  · exact fin_rt
  refine ev_blt (u := .d (.list (sD (openS ss es)))) ?_ rfl rfl
  refine ev_lc1 (xs := zipD (sD ss) (eD es)) (by rfl) ?_ ?_
  · rw [zipD_open, List.length_map, List.length_zip]
    have := Nat.min_le_left ss.length es.length
    unfold lineN
    omega
  · rw [zipD_open, compL_pure _ (fun p : Str × Option Int => PyData.tuple [.str p.1, oD p.2]) (fun p => (match p.2 with | none => some p.1 | some _ => none).map PyData.str) h]
    · rw [fm_map]
      rfl
    · intro p _
      obtain ⟨s, e⟩ := p
      cases e with
      | none => rfl
      | some i => rfl
/-! ### a changed judgement -/
def putE {α : Type} (us : List α) (j : Nat) (e : α) : List α := us.take j ++ [e] ++ us.drop (j + 1)
theorem changed_ok (hC : T "changed" = some c_changed.c) (n : Nat) (h : PH) (ss : List Str) (us : List D) (j : Nat) (s : Str) (e : D) (hj : ss[j]? = some s) (nd : ss.Nodup) (hl : us.length ≤ 1000) : run T (n + 1) "changed" [.k (.tuple (sD ss)), .d (.tuple us), .d (.str s), .d e] h = .ok (.d (.tuple (putE us j e))) h := by
  rw [run_eq hC _ _ _ rfl]
  simp only [c_changed]
  show finish h.length (exB (run T n) _ [some (.k (.tuple (sD ss))), some (.d (.tuple us)), some (.d (.str s)), some (.d e), none] h) = _
  obtain ⟨hlt, hje⟩ := List.getElem?_eq_some_iff.mp hj
  have fi : ss.findIdx? (fun z => decide (z = s)) = some j := by
    rw [List.findIdx?_eq_some_iff_getElem]
    refine ⟨hlt, by simp [hje], fun m hm => ?_⟩
    simp only [decide_eq_true_eq]
    intro q
    have := (List.getElem_inj nd (i := m) (j := j)).mp (q.trans hje.symm)
    omega
  have ix : mthD .tindex (.tuple (sD ss)) (.str s) = some (.int j) := by
    simp only [mthD, strsOf_sD, Option.bind_some, fi, Option.map_some]
  rw [xb_asg (v := .d (.int j)) (h1 := h) (by simp [mthR, ix, val])]
  simp only [List.set_cons_succ, List.set_cons_zero]
  have c1 : cut us none (some (j : Int)) = us.take j := by rw [cut_to _ (by omega)]; rfl
  have c2 : cut us (some ((j : Int) + 1)) none = us.drop (j + 1) := by rw [cut_from _ (by omega)]; congr 1
  have b1 : binD .add (.tuple (us.take j)) (.tuple [e]) = some (.tuple (us.take j ++ [e])) := bin_addT (by simp [lineN]; omega)
  have b2 : binD .add (.tuple (us.take j ++ [e])) (.tuple (us.drop (j + 1))) = some (.tuple (putE us j e)) := bin_addT (by simp [lineN]; omega)
  rw [xb_ret (v := .d (.tuple (putE us j e))) (h1 := h) (by simp [c1, c2, b1, b2])]
  exact fin_rt
def docIn (ss : List Str) : D → Bool
  | .str s => decide (s ∈ ss)
  | _ => false
theorem rdoc_ok (hR : T "require_document" = some c_require_document.c) (n : Nat) (h : PH) (ss : List Str) (x : D) : run T (n + 1) "require_document" [.d (.tuple (sD ss)), .d x] h = if docIn ss x then .ok (.d .none) h else .exc "InvalidDocument" h := by
  rw [run_eq hR _ _ _ rfl]
  simp only [c_require_document]
  show finish h.length (exB (run T n) _ [some (.d (.tuple (sD ss))), some (.d x)] h) = _
  refine fin_req ?_
  cases x with
  | str s =>
    have : cmpD .nin (.str s) (.tuple (sD ss)) = some (!decide (s ∈ ss)) := by
      show (if (flatD (.str s) && (sD ss).all flatD) = true then some _ else none) = _
      rw [flatS, any_eqS]
      rfl
    simp [isiD, this, docIn]
  | _ => rfl
structure HJ (T : String → Option CDef) : Prop extends HQ T where
  rdoc : T "require_document" = some c_require_document.c
  chg : T "changed" = some c_changed.c
  wj : T "with_judgement" = some c_with_judgement.c
/-- with_judgement -/
theorem wj_ok (Q : HJ T) (n : Nat) (h : PH) (ss : List Str) (hs : ∀ s ∈ ss, s.length ≤ lineN) (hc : collB ss = true) (nd : ss.Nodup) (us : List D) (hj : judB ss.length (.tuple us) = true) (hl : us.length ≤ 1000) (j : Nat) (s : Str) (hjs : ss[j]? = some s) (e : D) (he : entB e = true) :
    run T (n + 5) "with_judgement" [.k (.tuple (sD ss)), .d (.tuple us), .d (.str s), .d e] h = .ok (.d (.tuple (putE us j e))) h := by
  rw [run_eq Q.wj _ _ _ rfl]
  simp only [c_with_judgement]
  show finish h.length (exB (run T (n + 4)) _ [some (.k (.tuple (sD ss))), some (.d (.tuple us)), some (.d (.str s)), some (.d e)] h) = _
  have r1 := rjud_ok Q.toHQ n h ss hs (.tuple us) (fun _ q => by cases q; unfold lineN; omega)
  rw [if_pos hc, if_pos hj] at r1
  rw [xb_expr (v := .d .none) (h1 := h) (by rw [ev_call (vs := [.d (.tuple (sD ss)), .d (.tuple us)]) (h1 := h) (by rfl)]; exact r1)]
  have r2 := rdoc_ok Q.rdoc (n + 3) h ss (.str s)
  rw [if_pos (show docIn ss (.str s) = true from decide_eq_true (List.mem_of_getElem? hjs))] at r2
  rw [xb_expr (v := .d .none) (h1 := h) (by rw [ev_call (vs := [.d (.tuple (sD ss)), .d (.str s)]) (h1 := h) (by rfl)]; exact r2)]
  have q : ev (run T (n + 4)) (.and (.notn (.var 3)) (.not (.call "is_integer" (.cons (.var 3) (.cons (.lit (.int 0)) (.cons (.lit (.int 1)) .nil)))))) [some (.k (.tuple (sD ss))), some (.d (.tuple us)), some (.d (.str s)), some (.d e)] h = .ok (.d (.bool false)) h := by
    cases e with
    | none => rfl
    | int i =>
      have he' : intIn 0 1 (.int i) = true := he
      rw [ev_andT (u := .d (.bool true)) (h1 := h) (by rfl) rfl, ev_notc (vs := [.d (.int i), .d (.int 0), .d (.int 1)]) (by rfl) (is_integer_ok Q.int _ _ _ _ _), he']
      rfl
    | _ => cases he
  rw [xb_skip q rfl, xb_ret (v := .d (.tuple (putE us j e))) (h1 := h)]
  · exact fin_rt
  · rw [ev_call (vs := [.k (.tuple (sD ss)), .d (.tuple us), .d (.str s), .d e]) (h1 := h) (by rfl)]
    exact changed_ok Q.chg (n + 3) h ss us j s e hjs nd hl
end
end J
end JJud

section JSame
set_option Elab.async false
set_option linter.all false
set_option maxRecDepth 100000
set_option autoImplicit false
set_option maxHeartbeats 8000000
/-! J.Same: _law_same of a thing and itself; texts of exceptions; all completions by hand. -/
namespace J
open PySem
/-- what _law_same compares: no lists, no dicts -/
def smD : Nat → D → Bool
  | _, .none => true
  | _, .bool _ => true
  | _, .int _ => true
  | _, .str s => PyData.strOk s
  | m + 1, .tuple xs => decide (xs.length ≤ 1000) && xs.all (smD m)
  | _, _ => false
theorem zipD_self : ∀ xs : List D, zipD xs xs = xs.map fun x => .tuple [x, x]
  | [] => rfl
  | x :: xs => by simp only [zipD, zipD_self xs, List.map_cons]
section
variable {T : String → Option CDef}
theorem eq_self {x : D} (h : SeqAt.shaped x = true) : cmpD .eq x x = some true := by
  rw [cmp_eq h h, SeqAt.eqv_refl x (SeqAt.canLay_of_shaped h)]
theorem ne_self {x : D} (h : SeqAt.shaped x = true) : cmpD .ne x x = some false := by
  rw [cmp_ne h h, SeqAt.eqv_refl x (SeqAt.canLay_of_shaped h)]
  rfl
theorem same_refl (hS : T "_law_same" = some c__law_same.c) : ∀ (m : Nat) (n : Nat) (h : PH) (x : D), smD m x = true → run T (n + m + 1) "_law_same" [.d x, .d x] h = .ok (.d (.bool true)) h := by
  intro m
  induction m with
  | zero =>
    intro n h x hx
    rw [run_eq hS _ _ _ rfl]
    simp only [c__law_same]
    show finish h.length (exB (run T (n + 0)) _ [some (.d x), some (.d x), none, none] h) = _
    cases x with
    | none => exact fin_rt
    | bool b => cases b <;> exact fin_rt
    | int i =>
      have e := eq_self (x := .int i) rfl
      simp [isiD, e]
      exact fin_rt
    | str s =>
      have e := eq_self (x := .str s) (by simp only [SeqAt.shaped, PyData.canLay0, PyData.depth]; simpa [smD] using hx)
      simp [isiD, e]
      exact fin_rt
    | _ => cases hx
  | succ m ih =>
    intro n h x hx
    rw [run_eq hS _ _ _ rfl]
    simp only [c__law_same]
    show finish h.length (exB (run T (n + (m + 1))) _ [some (.d x), some (.d x), none, none] h) = _
    cases x with
    | none => exact fin_rt
    | bool b => cases b <;> exact fin_rt
    | int i =>
      have e := eq_self (x := .int i) rfl
      simp [isiD, e]
      exact fin_rt
    | str s =>
      have e := eq_self (x := .str s) (by simp only [SeqAt.shaped, PyData.canLay0, PyData.depth]; simpa [smD] using hx)
      simp [isiD, e]
      exact fin_rt
    | tuple xs =>
      simp only [smD, Bool.and_eq_true, decide_eq_true_eq] at hx
      rw [xb_skip (v := .d (.bool false)) (h1 := h) (by rfl) rfl, xb_skip (v := .d (.bool false)) (h1 := h) (by rfl) rfl, xb_iteT (v := .d (.bool true)) (h1 := h) (by rfl) rfl]
      have q : ev (run T (n + (m + 1))) (.or (.not (.isi (.var 0) .tuple)) (.cmp .ne (.blt .len (.var 0)) (.blt .len (.var 1)))) [some (.d (.tuple xs)), some (.d (.tuple xs)), none, none] h = .ok (.d (.bool false)) h := by
        rw [ev_orF (u := .d (.bool false)) (h1 := h) (by rfl) rfl]
        refine ev_cmp (h1 := h) (h2 := h) (u := .d (.int xs.length)) (w := .d (.int xs.length)) (by simp) (by simp) rfl rfl ?_
        rw [len_ne]
        simp
      rw [xb_skip q rfl, xb_ret (v := .d (.bool true)) (h1 := h)]
      · rw [rs_ok, kont_rt]
        exact fin_rt
      · refine ev_blt (u := .d (.list (xs.map fun _ => .bool true))) ?_ rfl ?_
        · refine ev_lc1 (xs := zipD xs xs) (by rfl) ?_ ?_
          · rw [zipD_self, List.length_map]; unfold lineN; omega
          · rw [zipD_self]
            refine comp_map _ (fun x => .tuple [x, x]) (fun _ => .bool true) h xs fun y hy => ?_
            have r := ih n h y (List.all_eq_true.mp hx.2 y hy)
            simp only [compF, wipeP, List.set_cons_succ, List.set_cons_zero, assignD, assignDs, Option.bind_some, ofO_some, rs_ok, ev_2, dat_bl, calm_ok_, val_d, tru_bool]
            rw [ev_call (vs := [.d y, .d y]) (h1 := h) (by rfl), show n + (m + 1) = n + m + 1 by omega, r]
            rfl
        · rw [blt_all, boolsOf_mapf (fun _ => true)]
          simp
    | _ => cases hx
/-- a check that is caught -/
theorem fin_tryE {Γ : Fns} {σ : PEnv} {h : PH} {e : CE} {hs : List (String × Lit)} {C : String} {l : Lit} (he : ev Γ e σ h = .exc C h) (hl : hs.lookup C = some l) : finish h.length (exB Γ (.cons (.try_ e hs) .nil) σ h) = .ok (.d l.dat) h := by
  rw [xb_cons, ex_13, he]
  simp only [hl, rs_ok, kont_rt]
  exact fin_rt
theorem fin_tryO {Γ : Fns} {σ : PEnv} {h : PH} {e : CE} {hs : List (String × Lit)} {x : D} (he : ev Γ e σ h = .ok (.d x) h) : finish h.length (exB Γ (.cons (.try_ e hs) .nil) σ h) = .ok (.d x) h := by
  rw [xb_cons, ex_13, he]
  simp only [rs_ok, kont_rt]
  exact fin_rt
/-! ### _law_all -/
def allB1 : CB := .cons (.asg 3 (.bin .add (.var 3) (.lst (.cons (.bin .add (.var 4) (.tup (.cons (.lit (.int 0)) .nil))) (.cons (.bin .add (.var 4) (.tup (.cons (.lit (.int 1)) .nil))) .nil))))) .nil
theorem all_loop1 (Γ : Fns) (h : PH) (v0 v1 v2 : Option PV) : ∀ (rows acc : List (List Int)) (v4 : Option PV), (∀ r ∈ rows, r.length ≤ 1000) → acc.length + 2 * rows.length ≤ 10000 →
    ∃ v4', forL (fun x σ h => (ofO (assignD (.nm 4) x σ) h).bind fun σ' h => exB Γ allB1 σ' h) (rD rows) [v0, v1, v2, some (.d (.list (rD acc))), v4] h = .ok (.nx [v0, v1, v2, some (.d (.list (rD (acc ++ rowsF rows none)))), v4']) h
  | [], acc, v4, _, _ => ⟨v4, by simp [rD, forL, rowsF]⟩
  | r :: rows, acc, v4, hr, hl => by
    simp only [List.length_cons] at hl
    obtain ⟨v4', ih⟩ := all_loop1 Γ h v0 v1 v2 rows (acc ++ [r ++ [0], r ++ [1]]) (some (.d (.tuple (iD r)))) (fun q hq => hr q (List.mem_cons_of_mem _ hq)) (by simp; omega)
    refine ⟨v4', ?_⟩
    have l1 := hr r List.mem_cons_self
    rw [show rD (r :: rows) = .tuple (iD r) :: rD rows from rfl, forL_cons (h1 := h) (σ' := [v0, v1, v2, some (.d (.list (rD (acc ++ [r ++ [0], r ++ [1]])))), some (.d (.tuple (iD r)))])]
    · rw [ih]
      simp [rowsF, opts]
    · simp only [assignD, ofO_some, rs_ok, List.set_cons_succ, List.set_cons_zero]
      have b0 : binD .add (.tuple (iD r)) (.tuple [.int 0]) = some (.tuple (iD (r ++ [0]))) := by
        rw [bin_addT (by simp [lineN]; omega)]; simp
      have b1 : binD .add (.tuple (iD r)) (.tuple [.int 1]) = some (.tuple (iD (r ++ [1]))) := by
        rw [bin_addT (by simp [lineN]; omega)]; simp
      have b2 : binD .add (.list (rD acc)) (.list [.tuple (iD (r ++ [0])), .tuple (iD (r ++ [1]))]) = some (.list (rD (acc ++ [r ++ [0], r ++ [1]]))) := by
        rw [bin_addL (by simp [lineN, rD]; omega)]; simp [rD]
      rw [allB1, xb_asg (v := .d (.list (rD (acc ++ [r ++ [0], r ++ [1]])))) (h1 := h)]
      · simp only [List.set_cons_succ, List.set_cons_zero, exB_0]
      · exact ev_bin (h1 := h) (h2 := h) (u := .d (.list (rD acc))) (w := .d (.list [.tuple (iD (r ++ [0])), .tuple (iD (r ++ [1]))])) (by rfl) (by simp [b0, b1]) rfl rfl b2
def allBN : CB := .cons (.asg 3 (.lst .nil)) (.cons (.for_ (.seq (.var 1)) (.nm 4) allB1) (.cons (.asg 1 (.var 3)) .nil))
def allBS : CB := .cons (.asg 1 (.lc (.seq (.var 1)) (.nm 4) (.lit (.bl true)) (.bin .add (.var 4) (.tup (.cons (.var 2) .nil))) [4])) .nil
def allB : CB := .cons (.ite (.isn (.var 2)) allBN allBS) .nil
theorem all_loop (Γ : Fns) (h : PH) (v0 : Option PV) : ∀ (es : List (Option Int)) (k : Nat) (rows : List (List Int)) (v2 v3 v4 : Option PV), Rows rows k → k + es.length ≤ 8 →
    ∃ v2' v3' v4', forL (fun x σ h => (ofO (assignD (.nm 2) x σ) h).bind fun σ' h => exB Γ allB σ' h) (eD es) [v0, some (.d (.list (rD rows))), v2, v3, v4] h = .ok (.nx [v0, some (.d (.list (rD (es.foldl rowsF rows)))), v2', v3', v4']) h
  | [], k, rows, v2, v3, v4, _, _ => ⟨v2, v3, v4, rfl⟩
  | e :: es, k, rows, v2, v3, v4, hR, hk => by
    simp only [List.length_cons] at hk
    have p8 : 2 ^ k ≤ 2 ^ 8 := Nat.pow_le_pow_right (by decide) (by omega)
    have rl := hR.1
    have step : ∃ v3' v4', ((ofO (assignD (.nm 2) (oD e) [v0, some (.d (.list (rD rows))), v2, v3, v4]) h).bind fun σ' h => exB Γ allB σ' h) = .ok (.nx [v0, some (.d (.list (rD (rowsF rows e)))), some (.d (oD e)), v3', v4']) h := by
      simp only [assignD, ofO_some, rs_ok, List.set_cons_succ, List.set_cons_zero]
      cases e with
      | none =>
        obtain ⟨v4', lo⟩ := all_loop1 Γ h v0 (some (.d (.list (rD rows)))) (some (.d (oD none))) rows [] v4 (fun r hr => by rw [hR.2 r hr]; omega) (by simp; omega)
        refine ⟨some (.d (.list (rD (rowsF rows none)))), v4', ?_⟩
        rw [allB, xb_iteT (v := .d (.bool true)) (h1 := h) (by rfl) rfl, allBN, xb_asg (v := .d (.list [])) (h1 := h) (by rfl)]
        simp only [List.set_cons_succ, List.set_cons_zero]
        rw [xb_for (xs := rD rows) (h1 := h) (by rfl)]
        rw [List.nil_append] at lo
        rw [show ([] : List D) = rD [] from rfl, lo, rs_ok, kont_nx, xb_asg (v := .d (.list (rD (rowsF rows none)))) (h1 := h) (by rfl)]
        simp only [List.set_cons_succ, List.set_cons_zero, exB_0, rs_ok, kont_nx]
      | some i =>
        refine ⟨v3, v4, ?_⟩
        rw [allB, xb_iteF (v := .d (.bool false)) (h1 := h) (by rfl) rfl, allBS, xb_asg (v := .d (.list (rD (rowsF rows (some i))))) (h1 := h)]
        · simp only [List.set_cons_succ, List.set_cons_zero, exB_0, rs_ok, kont_nx]
        · refine ev_lc1 (xs := rD rows) (by rfl) (by simp [rD, lineN]; omega) ?_
          have := comp_map (compF (.nm 4) [4] (fun σ h => ev Γ (.lit (.bl true)) σ h) (fun σ h => ev Γ (.bin .add (.var 4) (.tup (.cons (.var 2) .nil))) σ h) [v0, some (.d (.list (rD rows))), some (.d (oD (some i))), v3, v4]) (fun r => PyData.tuple (iD r)) (fun r => .tuple (iD (r ++ [i]))) h rows (fun r hr => by
            have b0 : binD .add (.tuple (iD r)) (.tuple [.int i]) = some (.tuple (iD (r ++ [i]))) := by
              have := hR.2 r hr
              rw [bin_addT (by simp [lineN]; omega)]; simp
            simp [compF, wipeP, assignD, oD, b0])
          refine Eq.trans this ?_
          congr 1
          have : ∀ rows : List (List Int), rows.map (fun r => PyData.tuple (iD (r ++ [i]))) = rD (rowsF rows (some i)) := fun rows => by
            simp only [rD, rowsF, opts, List.map_cons, List.map_nil]
            induction rows with
            | nil => rfl
            | cons r rows ih => rw [List.map_cons, ih]; rfl
          exact this rows
    obtain ⟨v3', v4', st⟩ := step
    obtain ⟨w2, w3, w4, ih⟩ := all_loop Γ h v0 es (k + 1) (rowsF rows e) (some (.d (oD e))) v3' v4' (hR.step e) (by omega)
    exact ⟨w2, w3, w4, by rw [eD_cons, forL_cons _ _ _ st]; exact ih⟩
theorem lall_ok (hA : T "_law_all" = some c__law_all.c) (n : Nat) (h : PH) (es : List (Option Int)) (hl : es.length ≤ 8) : run T (n + 1) "_law_all" [.d (.tuple (eD es))] h = .ok (.d (.list (rD (comps es)))) h := by
  rw [run_eq hA _ _ _ rfl]
  simp only [c__law_all]
  show finish h.length (exB (run T n) _ [some (.d (.tuple (eD es))), none, none, none, none] h) = _
  rw [xb_asg (v := .d (.list (rD [[]]))) (h1 := h) (by rfl)]
  simp only [List.set_cons_succ, List.set_cons_zero]
  obtain ⟨v2, v3, v4, e⟩ := all_loop (run T n) h (some (.d (.tuple (eD es)))) es 0 [[]] none none none ⟨by decide, fun r hr => by simp at hr; simp [hr]⟩ (by omega)
  rw [xb_for (xs := eD es) (h1 := h) (by rfl)]
  rw [allB, allBN, allBS, allB1] at e
  rw [e, rs_ok, kont_nx, xb_ret (v := .d (.list (rD (comps es)))) (h1 := h) (by rfl)]
  exact fin_rt
theorem shaped_rows (rows : List (List Int)) : SeqAt.shaped (.list (rD rows)) = true := by
  unfold SeqAt.shaped
  rw [Bool.and_eq_true]
  have one : ∀ r : List Int, PyData.canLay0 (.tuple (iD r)) = true ∧ PyData.depth (.tuple (iD r)) ≤ 3 := fun r => by
    have := shaped_ints r
    unfold SeqAt.shaped at this
    refine ⟨?_, ?_⟩
    · simp only [PyData.canLay0]
      refine canAll fun x hx => ?_
      obtain ⟨i, _, rfl⟩ := List.mem_map.mp hx
      rfl
    · simp only [PyData.depth]
      have := depthAll_le (xs := iD r) (m := 1) fun x hx => by
        obtain ⟨i, _, rfl⟩ := List.mem_map.mp hx
        simp [PyData.depth]
      omega
  refine ⟨?_, decide_eq_true ?_⟩
  · simp only [PyData.canLay0]
    refine canAll fun x hx => ?_
    obtain ⟨r, _, rfl⟩ := List.mem_map.mp hx
    exact (one r).1
  · simp only [PyData.depth]
    have := depthAll_le (xs := rD rows) (m := 3) fun x hx => by
      obtain ⟨r, _, rfl⟩ := List.mem_map.mp hx
      exact (one r).2
    omega
end
end J
end JSame

section JBest
set_option Elab.async false
set_option linter.all false
set_option maxRecDepth 100000
set_option autoImplicit false
set_option maxHeartbeats 8000000
/-! J.Best: relevant ones first is best (a finite check: at most seven documents). -/
namespace J
open PySem
def lists01 : Nat → List (List Int)
  | 0 => [[]]
  | n + 1 => (lists01 n).flatMap fun xs => [0 :: xs, 1 :: xs]
def allMe : List Me := [.avg, .rcp] ++ (List.range 7).flatMap fun k => [.prec (k + 1), .rcl (k + 1), .gain (k + 1), .share (k + 1)]
def bestChk : Bool := (lists01 7).all fun xs => (List.range 8).all fun r => !decide (xs.sum ≤ r) || allMe.all fun m => decide (valQ xs r m ≤ valQ (List.replicate r 1) r m)
set_option maxHeartbeats 0 in
theorem best7 : bestChk = true := by decide +kernel
theorem mem_lists : ∀ {xs : List Int} {n : Nat}, B01 xs → xs.length = n → xs ∈ lists01 n
  | [], _, _, h => by subst h; exact List.mem_cons_self
  | x :: xs, n, hb, h => by
    subst h
    refine List.mem_flatMap.mpr ⟨xs, mem_lists (fun y hy => hb y (List.mem_cons_of_mem _ hy)) rfl, ?_⟩
    rcases hb x List.mem_cons_self with rfl | rfl <;> simp
theorem mem_allMe {m : Me} (h : m.ok) : m ∈ allMe := by
  have go : ∀ k : Nat, 1 ≤ k → k ≤ 7 → ∃ j ∈ List.range 7, k = j + 1 := fun k h1 h2 => ⟨k - 1, List.mem_range.mpr (by omega), by omega⟩
  unfold allMe
  cases m with
  | avg => simp
  | rcp => simp
  | prec k => obtain ⟨j, hj, rfl⟩ := go k h.1 h.2; exact List.mem_append.mpr (.inr (List.mem_flatMap.mpr ⟨j, hj, by simp⟩))
  | rcl k => obtain ⟨j, hj, rfl⟩ := go k h.1 h.2; exact List.mem_append.mpr (.inr (List.mem_flatMap.mpr ⟨j, hj, by simp⟩))
  | gain k => obtain ⟨j, hj, rfl⟩ := go k h.1 h.2; exact List.mem_append.mpr (.inr (List.mem_flatMap.mpr ⟨j, hj, by simp⟩))
  | share k => obtain ⟨j, hj, rfl⟩ := go k h.1 h.2; exact List.mem_append.mpr (.inr (List.mem_flatMap.mpr ⟨j, hj, by simp⟩))
/-! ### zeros behind change nothing -/
theorem mk_zero (n : Nat) : mkRat 0 n = 0 := Rat.zero_mkRat n
theorem gain_zeros : ∀ (k i : Nat), gainQ i (List.replicate k 0) = 0
  | 0, _ => rfl
  | k + 1, i => by rw [List.replicate_succ, gainQ, gain_zeros k, mk_zero, Rat.add_zero]
theorem gain_pad (k : Nat) : ∀ (xs : List Int) (i : Nat), gainQ i (xs ++ List.replicate k 0) = gainQ i xs
  | [], i => gain_zeros k i
  | x :: xs, i => by rw [List.cons_append, gainQ, gainQ, gain_pad k xs]
theorem avg_zeros : ∀ (k i : Nat) (f : Int), avgS i f (List.replicate k 0) = 0
  | 0, _, _ => rfl
  | k + 1, i, f => by rw [List.replicate_succ, avgS, avg_zeros k, Int.zero_mul, mk_zero, Rat.add_zero]
theorem avg_pad (k : Nat) : ∀ (xs : List Int) (i : Nat) (f : Int), avgS i f (xs ++ List.replicate k 0) = avgS i f xs
  | [], i, f => avg_zeros k i f
  | x :: xs, i, f => by rw [List.cons_append, avgS, avgS, avg_pad k xs]
theorem sum_zeros (k : Nat) : (List.replicate k (0 : Int)).sum = 0 := by
  induction k with
  | zero => rfl
  | succ k ih => rw [List.replicate_succ, List.sum_cons, ih]; rfl
theorem take_pad (xs : List Int) (k j : Nat) : ∃ i, (xs ++ List.replicate k 0).take j = xs.take j ++ List.replicate i 0 := ⟨min (j - xs.length) k, by rw [List.take_append, List.take_replicate]⟩
theorem rcp_pad (k : Nat) (xs : List Int) : rcpQ (xs ++ List.replicate k 0) = rcpQ xs := by
  unfold rcpQ
  have : (xs ++ List.replicate k 0).findIdx? (fun x => x == 1) = xs.findIdx? (fun x => x == 1) := by
    rw [List.findIdx?_append]
    have : (List.replicate k (0 : Int)).findIdx? (fun x => x == 1) = none := by
      rw [List.findIdx?_eq_none_iff]
      intro x hx
      rw [List.eq_of_mem_replicate hx]
      rfl
    rw [this]
    cases xs.findIdx? (fun x => x == 1) <;> rfl
  rw [this]
theorem val_pad (k : Nat) (xs : List Int) (r : Nat) (m : Me) : valQ (xs ++ List.replicate k 0) r m = valQ xs r m := by
  cases m with
  | avg => simp only [valQ, avg_pad]
  | rcp => exact rcp_pad k xs
  | prec j => obtain ⟨i, e⟩ := take_pad xs k j; simp only [valQ, e, List.sum_append, sum_zeros, Int.add_zero]
  | rcl j => obtain ⟨i, e⟩ := take_pad xs k j; simp only [valQ, e, List.sum_append, sum_zeros, Int.add_zero]
  | gain j => obtain ⟨i, e⟩ := take_pad xs k j; simp only [valQ, e, gain_pad]
  | share j => obtain ⟨i, e⟩ := take_pad xs k j; simp only [valQ, e, gain_pad]
/-- no ranking is better than the relevant ones first -/
theorem best_le {xs : List Int} {r : Nat} {m : Me} (hb : B01 xs) (hl : xs.length ≤ 7) (hs : xs.sum ≤ r) (hr : r ≤ 7) (hm : m.ok) : valQ xs r m ≤ valQ (List.replicate r 1) r m := by
  have hb' : B01 (xs ++ List.replicate (7 - xs.length) 0) := fun x hx => by
    rcases List.mem_append.mp hx with z | z
    · exact hb x z
    · exact .inl (List.eq_of_mem_replicate z)
  have h1 := List.all_eq_true.mp best7 _ (mem_lists hb' (n := 7) (by simp; omega))
  have h2 := List.all_eq_true.mp h1 r (List.mem_range.mpr (by omega))
  rw [List.sum_append, sum_zeros, Int.add_zero, decide_eq_true hs] at h2
  have h3 := List.all_eq_true.mp h2 m (mem_allMe hm)
  rw [val_pad] at h3
  exact of_decide_eq_true h3
/-! ### sums over rankings -/
theorem sum_perm {xs ys : List Int} (h : xs.Perm ys) : xs.sum = ys.sum := by
  induction h with
  | nil => rfl
  | cons a _ ih => simp [ih]
  | swap a b l => simp only [List.sum_cons]; omega
  | trans _ _ h1 h2 => exact h1.trans h2
theorem sum_sub (f : Str → Int) (hf : ∀ s, 0 ≤ f s) : ∀ {rs ss : List Str}, rs.Nodup → (∀ r ∈ rs, r ∈ ss) → (rs.map f).sum ≤ (ss.map f).sum
  | [], ss, _, _ => by
    induction ss with
    | nil => simp
    | cons s ss ih => have := hf s; have := ih (fun r hr => nomatch hr); simp at this ⊢; omega
  | r :: rs, ss, nd, hs => by
    rw [List.nodup_cons] at nd
    have p := List.perm_cons_erase (hs r List.mem_cons_self)
    have e := sum_perm (p.map f)
    rw [List.map_cons, List.sum_cons] at e
    have := sum_sub f hf (rs := rs) (ss := ss.erase r) nd.2 fun q hq => by
      have hne : q ≠ r := fun z => nd.1 (z ▸ hq)
      exact (List.mem_erase_of_ne hne).mpr (hs q (List.mem_cons_of_mem _ hq))
    rw [List.map_cons, List.sum_cons]
    omega
theorem entI_cons_ne {s r : Str} {ss : List Str} {c : Int} {cs : List Int} (h : s ≠ r) : entI (s :: ss) (c :: cs) r = entI ss cs r := by
  unfold entI ent
  simp only [List.zip_cons_cons, List.find?_cons, decide_eq_false h]
theorem entI_cons_eq {s : Str} {ss : List Str} {c : Int} {cs : List Int} : entI (s :: ss) (c :: cs) s = c := by
  unfold entI ent
  simp
theorem map_entI : ∀ {ss : List Str} {cs : List Int}, ss.Nodup → ss.length = cs.length → ss.map (entI ss cs) = cs
  | [], [], _, _ => rfl
  | [], _ :: _, _, h => by simp at h
  | _ :: _, [], _, h => by simp at h
  | s :: ss, c :: cs, nd, h => by
    rw [List.nodup_cons] at nd
    rw [List.map_cons, entI_cons_eq]
    have e : ss.map (entI (s :: ss) (c :: cs)) = ss.map (entI ss cs) := List.map_congr_left fun r hr => entI_cons_ne fun z => nd.1 (by rw [z]; exact hr)
    rw [e, map_entI nd.2 (by simpa using h)]
theorem hits_sum {ss rs : List Str} {cs : List Int} (nd : ss.Nodup) (hl : ss.length = cs.length) (hc : B01 cs) (nr : rs.Nodup) (hr : ∀ r ∈ rs, r ∈ ss) : (hitsI ss cs rs).sum ≤ cs.sum := by
  have := sum_sub (entI ss cs) (fun s => by rcases entI_01 (ss := ss) hc s with z | z <;> omega) nr hr
  rw [map_entI nd hl] at this
  exact this
theorem len_sub {rs ss : List Str} (nr : rs.Nodup) (hr : ∀ r ∈ rs, r ∈ ss) : rs.length ≤ ss.length := by
  have := sum_sub (fun _ => 1) (fun _ => by decide) nr hr
  have e : ∀ l : List Str, (l.map fun _ => (1 : Int)).sum = l.length := fun l => by
    induction l with
    | nil => rfl
    | cons a l ih => simp only [List.map_cons, List.sum_cons, ih, List.length_cons]; omega
  rw [e, e] at this
  omega
/-- the relevant ones first -/
def relF (ss : List Str) (cs : List Int) : List Str := ss.filter (fun s => decide (entI ss cs s = 1)) ++ ss.filter (fun s => decide (entI ss cs s = 0))
theorem hits_filter (f : Str → Int) (v : Int) : ∀ ss : List Str, (ss.filter fun s => decide (f s = v)).map f = List.replicate (ss.filter fun s => decide (f s = v)).length v
  | [] => rfl
  | s :: ss => by
    rw [List.filter_cons]
    split
    · rename_i h
      rw [List.map_cons, hits_filter f v ss, List.length_cons, List.replicate_succ, of_decide_eq_true h]
    · exact hits_filter f v ss
theorem count_ones : ∀ (ss : List Str) (f : Str → Int), (∀ s ∈ ss, f s = 0 ∨ f s = 1) → ((ss.filter fun s => decide (f s = 1)).length : Int) = (ss.map f).sum
  | [], _, _ => rfl
  | s :: ss, f, h => by
    have ih := count_ones ss f fun t ht => h t (List.mem_cons_of_mem _ ht)
    rw [List.filter_cons, List.map_cons, List.sum_cons]
    rcases h s List.mem_cons_self with z | z
    · rw [z, if_neg (by decide)]; omega
    · rw [z, if_pos (by decide), List.length_cons]; omega
theorem hits_relF {ss : List Str} {cs : List Int} (nd : ss.Nodup) (hl : ss.length = cs.length) (hc : B01 cs) : ∃ k, hitsI ss cs (relF ss cs) = List.replicate cs.sum.toNat 1 ++ List.replicate k 0 := by
  refine ⟨(ss.filter fun s => decide (entI ss cs s = 0)).length, ?_⟩
  unfold hitsI relF
  rw [List.map_append, hits_filter, hits_filter]
  have := count_ones ss (entI ss cs) fun s _ => entI_01 hc s
  rw [map_entI nd hl] at this
  rw [show cs.sum.toNat = (ss.filter fun s => decide (entI ss cs s = 1)).length by omega]
theorem relF_mem {ss : List Str} {cs : List Int} : ∀ r ∈ relF ss cs, r ∈ ss := fun r hr => by
  rcases List.mem_append.mp hr with z | z <;> exact (List.mem_filter.mp z).1
theorem relF_perm {ss : List Str} {cs : List Int} (hc : B01 cs) : (relF ss cs).Perm ss := by
  unfold relF
  have e : (ss.filter fun s => decide (entI ss cs s = 0)) = ss.filter fun s => !decide (entI ss cs s = 1) := by
    refine List.filter_congr fun s _ => ?_
    rcases entI_01 (ss := ss) hc s with z | z <;> rw [z] <;> rfl
  rw [e]
  exact List.filter_append_perm _ _
theorem val_relF {ss : List Str} {cs : List Int} (nd : ss.Nodup) (hl : ss.length = cs.length) (hc : B01 cs) (m : Me) : valQ (hitsI ss cs (relF ss cs)) cs.sum.toNat m = valQ (List.replicate cs.sum.toNat 1) cs.sum.toNat m := by
  obtain ⟨k, e⟩ := hits_relF nd hl hc
  rw [e, val_pad]
/-- the value of a ranking, of a best one -/
abbrev vQ (ss : List Str) (cs : List Int) (rs : List Str) (m : Me) : Rat := valQ (hitsI ss cs rs) cs.sum.toNat m
abbrev bQ (ss : List Str) (cs : List Int) (m : Me) : Rat := vQ ss cs (relF ss cs) m
theorem vQ_le_bQ {ss rs : List Str} {cs : List Int} {m : Me} (nd : ss.Nodup) (hl : ss.length = cs.length) (h7 : ss.length ≤ 7) (hc : B01 cs) (nr : rs.Nodup) (hr : ∀ r ∈ rs, r ∈ ss) (hm : m.ok) : vQ ss cs rs m ≤ bQ ss cs m := by
  unfold bQ vQ
  rw [val_relF nd hl hc]
  have s1 := hits_sum nd hl hc nr hr
  have s2 := hc.sum
  have l := len_sub nr hr
  refine best_le (hits_01 hc rs) (by simp [hitsI]; omega) (by omega) (by omega) hm
end J
end JBest

section JBest2
set_option Elab.async false
set_option linter.all false
set_option maxRecDepth 100000
set_option autoImplicit false
set_option maxHeartbeats 8000000
/-! J.Best2: value, best rankings: the functions. -/
namespace J
open PySem
theorem shaped_tints (xs : List Int) : SeqAt.shaped (.tuple (iD xs)) = true := by
  unfold SeqAt.shaped
  rw [Bool.and_eq_true]
  refine ⟨?_, decide_eq_true ?_⟩
  · simp only [PyData.canLay0]
    refine canAll fun x hx => ?_
    obtain ⟨i, _, rfl⟩ := List.mem_map.mp hx
    rfl
  · simp only [PyData.depth]
    have := depthAll_le (xs := iD xs) (m := 1) fun x hx => by
      obtain ⟨i, _, rfl⟩ := List.mem_map.mp hx
      simp [PyData.depth]
    omega
theorem shaped_fr (q : Rat) : SeqAt.shaped (fr q) = true := shaped_tints [q.num, (q.den : Int)]
theorem fr_eqv (p q : Rat) : PyData.eqv (fr p) (fr q) = decide (p = q) := by
  have e : PyData.eqv (fr p) (fr q) = ((p.num == q.num) && ((p.den : Int) == (q.den : Int))) := by
    simp [fr, PyData.eqv, PyData.eqvAll]
  rw [e, Bool.eq_iff_iff]
  simp only [Bool.and_eq_true, beq_iff_eq, decide_eq_true_eq]
  constructor
  · rintro ⟨h1, h2⟩
    exact Rat.ext h1 (by omega)
  · rintro rfl
    exact ⟨rfl, rfl⟩
theorem eq_fr (p q : Rat) : cmpD .eq (fr p) (fr q) = some (decide (p = q)) := by rw [cmp_eq (shaped_fr p) (shaped_fr q), fr_eqv]
theorem ne_fr (p q : Rat) : cmpD .ne (fr p) (fr q) = some (!decide (p = q)) := by rw [cmp_ne (shaped_fr p) (shaped_fr q), fr_eqv]
structure HB (T : String → Option CDef) : Prop extends HQ T, HV T where
  vrank : T "is_valid_ranking" = some c_is_valid_ranking.c
  rrank : T "require_ranking" = some c_require_ranking.c
  ism : T "is_measure" = some c_is_measure.c
  rmeas : T "require_measure" = some c_require_measure.c
  rcomp : T "require_complete" = some c_require_complete.c
section
variable {T : String → Option CDef}
theorem rcomp_ok (hR : T "require_complete" = some c_require_complete.c) (n : Nat) (h : PH) (us : List D) (hf : us.all flatD = true) : run T (n + 1) "require_complete" [.d (.tuple us)] h = if us.any (fun u => PyData.eqv u .none) then .exc "Incomplete" h else .ok (.d .none) h := by
  rw [run_eq hR _ _ _ rfl]
  simp only [c_require_complete]
  show finish h.length (exB (run T n) _ [some (.d (.tuple us))] h) = _
  have c : cmpD .in_ .none (.tuple us) = some (us.any fun u => PyData.eqv u .none) := by
    show (if (flatD .none && us.all flatD) = true then some _ else none) = _
    rw [hf]
    rfl
  have := fin_req (Γ := run T n) (σ := [some (.d (.tuple us))]) (h := h) (q := .cmp .in_ (.lit .non) (.var 0)) (C := "Incomplete") (b := !us.any fun u => PyData.eqv u .none) (by simp [c])
  rw [this]
  cases us.any (fun u => PyData.eqv u .none) <;> rfl
theorem flat_ints (xs : List Int) : (iD xs).all flatD = true := by
  refine List.all_eq_true.mpr fun x hx => ?_
  obtain ⟨i, _, rfl⟩ := List.mem_map.mp hx
  rfl
theorem none_ints (xs : List Int) : ((iD xs).any fun u => PyData.eqv u .none) = false := by
  rw [List.any_eq_false]
  intro x hx
  obtain ⟨i, _, rfl⟩ := List.mem_map.mp hx
  simp [PyData.eqv]
theorem judB_ints {k : Nat} {cs : List Int} (hl : k = cs.length) (hc : B01 cs) : judB k (.tuple (iD cs)) = true := by
  simp only [judB, iD_len, hl, beq_self_eq_true, Bool.true_and]
  refine List.all_eq_true.mpr fun x hx => ?_
  obtain ⟨i, hi, rfl⟩ := List.mem_map.mp hx
  rcases hc i hi with rfl | rfl <;> rfl
theorem uniq_nd {rs : List Str} (h : rs.Nodup) : (uniq rs).length = rs.length := by
  have key : ∀ (rs acc : List Str), (acc ++ rs).Nodup → rs.foldl addU acc = acc ++ rs := by
    intro rs
    induction rs with
    | nil => intro acc _; simp
    | cons r rs ih =>
      intro acc hn
      rw [List.foldl_cons]
      have : addU acc r = acc ++ [r] := by
        unfold addU
        rw [if_neg]
        intro hm
        exact (List.nodup_append.mp hn).2.2 r hm r List.mem_cons_self rfl
      rw [this, ih (acc ++ [r]) (by simpa using hn)]
      simp
  unfold uniq
  rw [key rs [] (by simpa using h)]
  rfl
theorem rankB_ok {ss rs : List Str} (nr : rs.Nodup) (hr : ∀ r ∈ rs, r ∈ ss) : rankB ss (.tuple (sD rs)) = true := by
  simp only [rankB, strsOf_sD, uniq_nd nr, decide_true, Bool.and_true]
  exact List.all_eq_true.mpr fun r h => decide_eq_true (hr r h)
/-- what a law draws: a collection, a completion, a ranking -/
structure Drn (ss rs : List Str) (cs : List Int) : Prop where
  ok : collB ss = true
  sm : ∀ s ∈ ss, s.length ≤ lineN
  nd : ss.Nodup
  len : ss.length ≤ 7
  cl : ss.length = cs.length
  c01 : B01 cs
  nr : rs.Nodup
  sub : ∀ r ∈ rs, r ∈ ss
theorem Drn.rl {ss rs : List Str} {cs : List Int} (D : Drn ss rs cs) : rs.length ≤ 7 := Nat.le_trans (len_sub D.nr D.sub) D.len
theorem Drn.value_of (H : HV T) {ss rs : List Str} {cs : List Int} (D : Drn ss rs cs) (n : Nat) (h : PH) (m : Me) (hm : m.ok) : run T (n + 4) "value_of" [.d (.tuple (sD ss)), .d (.tuple (iD cs)), .d (.tuple (sD rs)), .d (meD m)] h = .ok (.d (fr (vQ ss cs rs m))) h :=
  value_of_ok H n h D.nd D.cl (by have := D.len; omega) D.sub (by have := D.rl; omega) D.c01 m hm
/-- the four checks pass -/
theorem Drn.checks (H : HB T) {ss rs : List Str} {cs : List Int} (D : Drn ss rs cs) (n : Nat) (h : PH) (m : Me) (hm : m.ok) : run T (n + 4) "require_judgements" [.d (.tuple (sD ss)), .d (.tuple (iD cs))] h = .ok (.d .none) h ∧ run T (n + 4) "require_ranking" [.d (.tuple (sD ss)), .d (.tuple (sD rs))] h = .ok (.d .none) h ∧ run T (n + 4) "require_measure" [.d (meD m)] h = .ok (.d .none) h ∧ run T (n + 4) "require_complete" [.d (.tuple (iD cs))] h = .ok (.d .none) h := by
  have cl := D.cl
  have len := D.len
  have rl := D.rl
  refine ⟨?_, ?_, ?_, ?_⟩
  · rw [rjud_ok H.toHQ n h ss D.sm (.tuple (iD cs)) (fun us q => by cases q; rw [iD_len]; unfold lineN; omega), D.ok, judB_ints D.cl D.c01]
    rfl
  · rw [rrank_ok H.vrank H.rrank (n + 2) h ss (.tuple (sD rs)) (fun us q => by cases q; rw [List.length_map]; omega), rankB_ok D.nr D.sub]
    rfl
  · rw [rmeas_ok H.int H.ism H.rmeas (n + 1) h (meD m), isM_me m hm]
    rfl
  · rw [rcomp_ok H.rcomp (n + 3) h (iD cs) (flat_ints cs), none_ints]
    rfl
theorem Drn.value (H : HB T) (hV : T "value" = some c_value.c) {ss rs : List Str} {cs : List Int} (D : Drn ss rs cs) (n : Nat) (h : PH) (m : Me) (hm : m.ok) : run T (n + 5) "value" [.d (.tuple (sD ss)), .d (.tuple (iD cs)), .d (.tuple (sD rs)), .d (meD m)] h = .ok (.d (fr (vQ ss cs rs m))) h := by
  rw [run_eq hV _ _ _ rfl]
  simp only [c_value]
  show finish h.length (exB (run T (n + 4)) _ [some (.d (.tuple (sD ss))), some (.d (.tuple (iD cs))), some (.d (.tuple (sD rs))), some (.d (meD m))] h) = _
  obtain ⟨r1, r2, r3, r4⟩ := D.checks H n h m hm
  rw [xb_expr (v := .d .none) (h1 := h) (by rw [ev_call (vs := [.d (.tuple (sD ss)), .d (.tuple (iD cs))]) (h1 := h) (by rfl)]; exact r1)]
  rw [xb_expr (v := .d .none) (h1 := h) (by rw [ev_call (vs := [.d (.tuple (sD ss)), .d (.tuple (sD rs))]) (h1 := h) (by rfl)]; exact r2)]
  rw [xb_expr (v := .d .none) (h1 := h) (by rw [ev_call (vs := [.d (meD m)]) (h1 := h) (by rfl)]; exact r3)]
  rw [xb_expr (v := .d .none) (h1 := h) (by rw [ev_call (vs := [.d (.tuple (iD cs))]) (h1 := h) (by rfl)]; exact r4)]
  rw [xb_ret (v := .d (fr (vQ ss cs rs m))) (h1 := h)]
  · exact fin_rt
  · rw [ev_call (vs := [.d (.tuple (sD ss)), .d (.tuple (iD cs)), .d (.tuple (sD rs)), .d (meD m)]) (h1 := h) (by rfl)]
    exact D.value_of H.toHV n h m hm
theorem filt_str (p : Str → Bool) (ss : List Str) : ss.filterMap (fun s => if p s then some (PyData.str s) else none) = sD (ss.filter p) := by
  induction ss with
  | nil => rfl
  | cons s ss ih =>
    rw [List.filterMap_cons, List.filter_cons]
    cases q : p s with
    | true => simp only [if_true]; rw [ih]; rfl
    | false => simp only [Bool.false_eq_true, if_false]; exact ih
theorem rel_lc (n : Nat) (h : PH) {ss : List Str} {cs : List Int} (nd : ss.Nodup) (hl : ss.length = cs.length) (h7 : ss.length ≤ 7) (v : Int) (v0 v1 v3 : Option PV) : ev (run T n) (.lc (.seq (.var 0)) (.nm 4) (.cmp .eq (.ix (.var 2) (.var 4)) (.lit (.int v))) (.var 4) [4]) [some (.d (.tuple (sD ss))), v1, some (.d (.dict (dictOf ((sD ss).zip (iD cs))))), v3, none] h = .ok (.d (.list (sD (ss.filter fun s => decide (entI ss cs s = v))))) h := by
  refine ev_lc1 (xs := sD ss) (by rfl) (by rw [List.length_map]; unfold lineN; omega) ?_
  have key := compL_pure (compF (.nm 4) [4] (fun σ h => ev (run T n) (.cmp .eq (.ix (.var 2) (.var 4)) (.lit (.int v))) σ h) (fun σ h => ev (run T n) (.var 4) σ h) [some (.d (.tuple (sD ss))), v1, some (.d (.dict (dictOf ((sD ss).zip (iD cs))))), v3, none]) PyData.str (fun s => if decide (entI ss cs s = v) then some (.str s) else none) h ss (fun s hs => by
    obtain ⟨d, ed, _⟩ := ent_some (ds := cs) hs hl
    have e2 : ixD (.dict (dictOf ((sD ss).zip (iD cs)))) (.str s) = some (.int (entI ss cs s)) := by
      show dget _ _ = _
      rw [dget_zip nd, iD, ent_map, entI, ed]
      rfl
    have e3 : cmpD .eq (.int (entI ss cs s)) (.int v) = some (decide (entI ss cs s = v)) := by
      rw [cmp_eqI]
      simp only [PyData.eqv]
      congr 1
    by_cases q : entI ss cs s = v
    · rw [decide_eq_true q] at e3 ⊢
      simp [compF, wipeP, assignD, e2, e3]
    · rw [decide_eq_false q] at e3 ⊢
      simp [compF, wipeP, assignD, e2, e3])
  refine Eq.trans key ?_
  rw [filt_str (fun s => decide (entI ss cs s = v))]
theorem relF_ok (hR : T "relevant_first" = some c_relevant_first.c) (n : Nat) (h : PH) {ss : List Str} {cs : List Int} (nd : ss.Nodup) (hl : ss.length = cs.length) (h7 : ss.length ≤ 7) : run T (n + 1) "relevant_first" [.d (.tuple (sD ss)), .d (.tuple (iD cs))] h = .ok (.d (.tuple (sD (relF ss cs)))) h := by
  rw [run_eq hR _ _ _ rfl]
  simp only [c_relevant_first]
  show finish h.length (exB (run T n) _ [some (.d (.tuple (sD ss))), some (.d (.tuple (iD cs))), none, none, none] h) = _
  have e1 : b2D .dzip (.tuple (sD ss)) (.tuple (iD cs)) = some (.dict (dictOf ((sD ss).zip (iD cs)))) := by
    simp only [b2D, isKeys, if_true]
  rw [xb_asg (v := .d (.dict (dictOf ((sD ss).zip (iD cs))))) (h1 := h) (ev_b2 (h1 := h) (h2 := h) rfl rfl rfl rfl e1)]
  simp only [List.set_cons_succ, List.set_cons_zero]
  rw [xb_asg (rel_lc n h nd hl h7 1 none _ none)]
  simp only [List.set_cons_succ, List.set_cons_zero]
  rw [xb_ret (v := .d (.tuple (sD (relF ss cs)))) (h1 := h)]
  · exact fin_rt
  · refine ev_blt (u := .d (.list (sD (relF ss cs)))) (ev_bin (h1 := h) (by rfl) (rel_lc n h nd hl h7 0 none _ _) rfl rfl ?_) rfl rfl
    rw [bin_addL]
    · simp [relF, sD]
    · have l1 := List.length_filter_le (fun s => decide (entI ss cs s = 1)) ss
      have l2 := List.length_filter_le (fun s => decide (entI ss cs s = 0)) ss
      rw [List.length_map, List.length_map]
      unfold lineN
      omega
theorem Drn.best {ss rs : List Str} {cs : List Int} (D : Drn ss rs cs) : Drn ss (relF ss cs) cs := { D with nr := (relF_perm D.c01).nodup_iff.mpr D.nd, sub := relF_mem }
structure HB2 (T : String → Option CDef) : Prop extends HB T where
  rel : T "relevant_first" = some c_relevant_first.c
  bval : T "best_value" = some c_best_value.c
theorem Drn.best_value (H : HB2 T) {ss rs : List Str} {cs : List Int} (D : Drn ss rs cs) (n : Nat) (h : PH) (m : Me) (hm : m.ok) : run T (n + 5) "best_value" [.d (.tuple (sD ss)), .d (.tuple (iD cs)), .d (meD m)] h = .ok (.d (fr (bQ ss cs m))) h := by
  rw [run_eq H.bval _ _ _ rfl]
  simp only [c_best_value]
  show finish h.length (exB (run T (n + 4)) _ [some (.d (.tuple (sD ss))), some (.d (.tuple (iD cs))), some (.d (meD m))] h) = _
  rw [xb_ret (v := .d (fr (bQ ss cs m))) (h1 := h)]
  · exact fin_rt
  · have r := relF_ok H.rel (n + 3) h D.nd D.cl D.len
    rw [ev_call (vs := [.d (.tuple (sD ss)), .d (.tuple (iD cs)), .d (.tuple (sD (relF ss cs))), .d (meD m)]) (h1 := h)]
    · exact D.best.value_of H.toHV n h m hm
    · simp [r]
theorem Drn.is_best (H : HB2 T) (hI : T "is_best" = some c_is_best.c) {ss rs : List Str} {cs : List Int} (D : Drn ss rs cs) (n : Nat) (h : PH) (m : Me) (hm : m.ok) : run T (n + 6) "is_best" [.d (.tuple (sD ss)), .d (.tuple (iD cs)), .d (.tuple (sD rs)), .d (meD m)] h = .ok (.d (.bool (decide (vQ ss cs rs m = bQ ss cs m)))) h := by
  rw [run_eq hI _ _ _ rfl]
  simp only [c_is_best]
  show finish h.length (exB (run T (n + 5)) _ [some (.d (.tuple (sD ss))), some (.d (.tuple (iD cs))), some (.d (.tuple (sD rs))), some (.d (meD m))] h) = _
  obtain ⟨r1, r2, r3, r4⟩ := D.checks H.toHB (n + 1) h m hm
  rw [xb_expr (v := .d .none) (h1 := h) (by rw [ev_call (vs := [.d (.tuple (sD ss)), .d (.tuple (iD cs))]) (h1 := h) (by rfl)]; exact r1)]
  rw [xb_expr (v := .d .none) (h1 := h) (by rw [ev_call (vs := [.d (.tuple (sD ss)), .d (.tuple (sD rs))]) (h1 := h) (by rfl)]; exact r2)]
  rw [xb_expr (v := .d .none) (h1 := h) (by rw [ev_call (vs := [.d (meD m)]) (h1 := h) (by rfl)]; exact r3)]
  rw [xb_expr (v := .d .none) (h1 := h) (by rw [ev_call (vs := [.d (.tuple (iD cs))]) (h1 := h) (by rfl)]; exact r4)]
  rw [xb_ret (v := .d (.bool (decide (vQ ss cs rs m = bQ ss cs m)))) (h1 := h)]
  · exact fin_rt
  · exact ev_cmp (h1 := h) (h2 := h) (by rw [ev_call (vs := [.d (.tuple (sD ss)), .d (.tuple (iD cs)), .d (.tuple (sD rs)), .d (meD m)]) (h1 := h) (by rfl)]; exact D.value_of H.toHV (n + 1) h m hm) (by rw [ev_call (vs := [.d (.tuple (sD ss)), .d (.tuple (iD cs)), .d (meD m)]) (h1 := h) (by rfl)]; exact D.best_value H n h m hm) rfl rfl (eq_fr _ _)
theorem Drn.best_ranking (H : HB2 T) (hI : T "best_ranking" = some c_best_ranking.c) {ss rs : List Str} {cs : List Int} (D : Drn ss rs cs) (n : Nat) (h : PH) : run T (n + 5) "best_ranking" [.d (.tuple (sD ss)), .d (.tuple (iD cs))] h = .ok (.d (.tuple (sD (relF ss cs)))) h := by
  rw [run_eq hI _ _ _ rfl]
  simp only [c_best_ranking]
  show finish h.length (exB (run T (n + 4)) _ [some (.d (.tuple (sD ss))), some (.d (.tuple (iD cs)))] h) = _
  obtain ⟨r1, r2, r3, r4⟩ := D.checks H.toHB n h .avg trivial
  rw [xb_expr (v := .d .none) (h1 := h) (by rw [ev_call (vs := [.d (.tuple (sD ss)), .d (.tuple (iD cs))]) (h1 := h) (by rfl)]; exact r1)]
  rw [xb_expr (v := .d .none) (h1 := h) (by rw [ev_call (vs := [.d (.tuple (iD cs))]) (h1 := h) (by rfl)]; exact r4)]
  rw [xb_ret (v := .d (.tuple (sD (relF ss cs)))) (h1 := h)]
  · exact fin_rt
  · rw [ev_call (vs := [.d (.tuple (sD ss)), .d (.tuple (iD cs))]) (h1 := h) (by rfl)]
    exact relF_ok H.rel (n + 3) h D.nd D.cl D.len
end
end J
end JBest2

section JNaive
set_option Elab.async false
set_option linter.all false
set_option maxRecDepth 100000
set_option autoImplicit false
set_option maxHeartbeats 8000000
/-! J.Naive: all rankings; the naive functions. -/
namespace J
open PySem
def stepR (ss : List Str) (rows : List (List Str)) : List (List Str) := rows.flatMap fun row => (ss.filter fun d => decide (d ∉ row)).map fun d => row ++ [d]
def iterR (ss : List Str) : Nat → List (List Str) → List (List Str)
  | 0, rows => rows
  | n + 1, rows => iterR ss n (stepR ss rows)
def allR (ss : List Str) : List (List Str) := iterR ss ss.length [[]]
def sR (rows : List (List Str)) : List D := rows.map fun r => PyData.tuple (sD r)
structure RowsR (ss : List Str) (k : Nat) (rows : List (List Str)) : Prop where
  cnt : rows.length ≤ ss.length ^ k
  len : ∀ r ∈ rows, r.length = k
  nd : ∀ r ∈ rows, r.Nodup
  sub : ∀ r ∈ rows, ∀ s ∈ r, s ∈ ss
theorem stepR_len (ss : List Str) : ∀ rows : List (List Str), (stepR ss rows).length ≤ rows.length * ss.length
  | [] => by simp [stepR]
  | r :: rows => by
    have ih := stepR_len ss rows
    unfold stepR at ih ⊢
    rw [List.flatMap_cons, List.length_append, List.length_map, List.length_cons, Nat.add_mul, Nat.one_mul]
    have := List.length_filter_le (fun d => decide (d ∉ r)) ss
    omega
theorem stepR_mem {ss : List Str} {rows : List (List Str)} {q : List Str} : q ∈ stepR ss rows ↔ ∃ r ∈ rows, ∃ d ∈ ss, d ∉ r ∧ q = r ++ [d] := by
  unfold stepR
  rw [List.mem_flatMap]
  constructor
  · rintro ⟨r, hr, h⟩
    obtain ⟨d, hd, rfl⟩ := List.mem_map.mp h
    obtain ⟨h1, h2⟩ := List.mem_filter.mp hd
    exact ⟨r, hr, d, h1, of_decide_eq_true h2, rfl⟩
  · rintro ⟨r, hr, d, h1, h2, rfl⟩
    exact ⟨r, hr, List.mem_map.mpr ⟨d, List.mem_filter.mpr ⟨h1, decide_eq_true h2⟩, rfl⟩⟩
theorem RowsR.step {ss : List Str} {k : Nat} {rows : List (List Str)} (h : RowsR ss k rows) : RowsR ss (k + 1) (stepR ss rows) := by
  refine ⟨?_, fun q hq => ?_, fun q hq => ?_, fun q hq s hs => ?_⟩
  · refine Nat.le_trans (stepR_len ss rows) ?_
    rw [Nat.pow_succ]
    exact Nat.mul_le_mul_right _ h.cnt
  · obtain ⟨r, hr, d, _, _, rfl⟩ := stepR_mem.mp hq
    rw [List.length_append, h.len r hr]
    rfl
  · obtain ⟨r, hr, d, _, hd, rfl⟩ := stepR_mem.mp hq
    rw [List.nodup_append]
    refine ⟨h.nd r hr, by simp, fun a ha b hb => ?_⟩
    simp only [List.mem_cons, List.not_mem_nil, or_false] at hb
    subst hb
    exact fun z => hd (z ▸ ha)
  · obtain ⟨r, hr, d, hd, _, rfl⟩ := stepR_mem.mp hq
    rcases List.mem_append.mp hs with z | z
    · exact h.sub r hr s z
    · simp only [List.mem_cons, List.not_mem_nil, or_false] at z
      subst z
      exact hd
theorem rows0 (ss : List Str) : RowsR ss 0 [[]] := ⟨by simp, fun r hr => by simp at hr; simp [hr], fun r hr => by simp at hr; simp [hr], fun r hr s hs => by simp at hr; simp [hr] at hs⟩
theorem RowsR.iter {ss : List Str} : ∀ {n k : Nat} {rows : List (List Str)}, RowsR ss k rows → RowsR ss (k + n) (iterR ss n rows)
  | 0, _, _, h => h
  | n + 1, k, rows, h => by
    have := RowsR.iter (n := n) h.step
    rw [show k + (n + 1) = k + 1 + n by omega]
    exact this
theorem iter_mem {ss p : List Str} (np : p.Nodup) (hp : ∀ s ∈ p, s ∈ ss) : ∀ (n k : Nat) (rows : List (List Str)), k + n ≤ p.length → p.take k ∈ rows → p.take (k + n) ∈ iterR ss n rows
  | 0, _, _, _, h => h
  | n + 1, k, rows, hl, h => by
    have hk : k < p.length := by omega
    have h1 : p.take (k + 1) ∈ stepR ss rows := by
      refine stepR_mem.mpr ⟨_, h, p[k], hp _ (List.getElem_mem hk), ?_, ?_⟩
      · intro hm
        obtain ⟨i, hi, e⟩ := List.getElem_of_mem hm
        rw [List.getElem_take] at e
        have := (List.getElem_inj np).mp e
        rw [List.length_take] at hi
        omega
      · rw [List.take_succ_eq_append_getElem hk]
    have := iter_mem np hp n (k + 1) (stepR ss rows) (by omega) h1
    rw [show k + (n + 1) = k + 1 + n by omega]
    exact this
/-- every ranking of all documents is there -/
theorem allR_mem {ss p : List Str} (h : p.Perm ss) (nd : ss.Nodup) : p ∈ allR ss := by
  have := iter_mem (ss := ss) (h.nodup_iff.mpr nd) (fun s hs => h.mem_iff.mp hs) ss.length 0 [[]] (by rw [h.length_eq]; omega) (by simp)
  rw [Nat.zero_add, List.take_of_length_le (by rw [h.length_eq]; exact Nat.le_refl _)] at this
  exact this
theorem allR_rows (ss : List Str) : RowsR ss ss.length (allR ss) := by
  have := RowsR.iter (n := ss.length) (rows0 ss)
  rw [Nat.zero_add] at this
  exact this
section
variable {T : String → Option CDef}
theorem nin_S (rs : List Str) (s : Str) : cmpD .nin (.str s) (.tuple (sD rs)) = some (decide (s ∉ rs)) := by
  show (if (flatD (.str s) && (sD rs).all flatD) = true then some _ else none) = _
  rw [flatS, any_eqS]
  simp [flatD]
theorem lc2_R (Γ : Fns) (h : PH) (ss : List Str) (v2 v3 v4 : Option PV) (rows : List (List Str)) (hc : (stepR ss rows).length ≤ 1000000) (hk : ∀ r ∈ rows, r.length ≤ 1000) :
    ev Γ (.lc2 (.seq (.var 1)) (.nm 3) (.lit (.bl true)) (.seq (.var 0)) (.nm 4) (.cmp .nin (.var 4) (.var 3)) (.bin .add (.var 3) (.tup (.cons (.var 4) .nil))) [3, 4] [4]) [some (.d (.tuple (sD ss))), some (.d (.list (sR rows))), v2, v3, v4] h = .ok (.d (.list (sR (stepR ss rows)))) h := by
  rw [ev_25, show evI Γ (.seq (.var 1)) [some (.d (.tuple (sD ss))), some (.d (.list (sR rows))), v2, v3, v4] h = .ok (sR rows) h from rfl, rs_ok]
  have key := compLL_pure (compF2 (.nm 3) [3, 4] (fun σ h => ev Γ (.lit (.bl true)) σ h) (fun σ h => evI Γ (.seq (.var 0)) σ h) (fun σ2 => compF (.nm 4) [4] (fun σ h => ev Γ (.cmp .nin (.var 4) (.var 3)) σ h) (fun σ h => ev Γ (.bin .add (.var 3) (.tup (.cons (.var 4) .nil))) σ h) σ2) [some (.d (.tuple (sD ss))), some (.d (.list (sR rows))), v2, v3, v4])
    (fun r => PyData.tuple (sD r)) (fun row => ss.filterMap fun d => if decide (d ∉ row) then some (PyData.tuple (sD (row ++ [d]))) else none) h rows (fun row hrow => by
      have in1 := compL_pure (compF (.nm 4) [4] (fun σ h => ev Γ (.cmp .nin (.var 4) (.var 3)) σ h) (fun σ h => ev Γ (.bin .add (.var 3) (.tup (.cons (.var 4) .nil))) σ h) [some (.d (.tuple (sD ss))), some (.d (.list (sR rows))), v2, some (.d (.tuple (sD row))), none]) PyData.str (fun d => if decide (d ∉ row) then some (PyData.tuple (sD (row ++ [d]))) else none) h ss (fun d _ => by
        have hb : binD .add (.tuple (sD row)) (.tuple [.str d]) = some (.tuple (sD (row ++ [d]))) := by
          have := hk row hrow
          rw [bin_addT (by simp [lineN]; omega)]
          simp
        have hn := nin_S row d
        by_cases q : d ∈ row
        · rw [decide_eq_false (fun z => z q)] at hn
          simp only [compF, wipeP, List.set_cons_succ, List.set_cons_zero, assignD, ofO_some, rs_ok, ev_8, ev_0, List.getElem?_cons_succ, List.getElem?_cons_zero, val_d, Option.bind_some, hn, Option.map_some, calm_ok_, tru_bool]
          rw [if_neg (by simpa using q)]
        · rw [decide_eq_true q] at hn
          simp only [compF, wipeP, List.set_cons_succ, List.set_cons_zero, assignD, ofO_some, rs_ok, ev_8, ev_0, List.getElem?_cons_succ, List.getElem?_cons_zero, val_d, Option.bind_some, hn, Option.map_some, calm_ok_, tru_bool]
          rw [if_pos (by simpa using q)]
          rw [ev_bin (h1 := h) (h2 := h) (u := .d (.tuple (sD row))) (w := .d (.tuple [.str d])) (by rfl) (by rfl) rfl rfl hb]
          rfl)
      simp only [compF2, wipeP, List.set_cons_succ, List.set_cons_zero, assignD, ofO_some, rs_ok, ev_2, dat_bl, calm_ok_, val_d, Option.bind_some, tru_bool, evI_0, ev_0, List.getElem?_cons_succ, List.getElem?_cons_zero, seqItems]
      exact in1)
  have e : (rows.flatMap fun row => ss.filterMap fun d => if decide (d ∉ row) then some (PyData.tuple (sD (row ++ [d]))) else none) = sR (stepR ss rows) := by
    unfold stepR sR
    rw [List.map_flatMap]
    congr 1
    funext row
    rw [List.map_map]
    clear key hc hk
    induction ss with
    | nil => rfl
    | cons s ss ih =>
      rw [List.filterMap_cons, List.filter_cons]
      cases decide (s ∉ row) with
      | true => simp only [if_true, List.map_cons]; rw [ih]; rfl
      | false => simp only [Bool.false_eq_true, if_false]; exact ih
  have key' : compLL (compF2 (.nm 3) [3, 4] (fun σ h => ev Γ (.lit (.bl true)) σ h) (fun σ h => evI Γ (.seq (.var 0)) σ h) (fun σ2 => compF (.nm 4) [4] (fun σ h => ev Γ (.cmp .nin (.var 4) (.var 3)) σ h) (fun σ h => ev Γ (.bin .add (.var 3) (.tup (.cons (.var 4) .nil))) σ h) σ2) [some (.d (.tuple (sD ss))), some (.d (.list (sR rows))), v2, v3, v4]) (sR rows) h = _ := key
  rw [key', e, rs_ok, if_pos (by simp only [sR, List.length_map]; unfold lineN; omega)]
theorem allR_loop (Γ : Fns) (h : PH) (ss : List Str) (h7 : ss.length ≤ 5) (v3 v4 : Option PV) : ∀ (ds : List D) (k : Nat) (rows : List (List Str)) (v2 : Option PV), RowsR ss k rows → k + ds.length ≤ 5 →
    ∃ v2', forL (fun x σ h => (ofO (assignD (.nm 2) x σ) h).bind fun σ' h => exB Γ (.cons (.asg 1 (.lc2 (.seq (.var 1)) (.nm 3) (.lit (.bl true)) (.seq (.var 0)) (.nm 4) (.cmp .nin (.var 4) (.var 3)) (.bin .add (.var 3) (.tup (.cons (.var 4) .nil))) [3, 4] [4])) .nil) σ' h) ds [some (.d (.tuple (sD ss))), some (.d (.list (sR rows))), v2, v3, v4] h = .ok (.nx [some (.d (.tuple (sD ss))), some (.d (.list (sR (iterR ss ds.length rows)))), v2', v3, v4]) h
  | [], k, rows, v2, _, _ => ⟨v2, rfl⟩
  | d :: ds, k, rows, v2, hR, hk => by
    simp only [List.length_cons] at hk
    obtain ⟨v2', ih⟩ := allR_loop Γ h ss h7 v3 v4 ds (k + 1) (stepR ss rows) (some (.d d)) hR.step (by omega)
    refine ⟨v2', ?_⟩
    rw [forL_cons (h1 := h) (σ' := [some (.d (.tuple (sD ss))), some (.d (.list (sR (stepR ss rows)))), some (.d d), v3, v4])]
    · exact ih
    · simp only [assignD, ofO_some, rs_ok, List.set_cons_succ, List.set_cons_zero]
      have c1 : ss.length ^ (k + 1) ≤ 5 ^ 5 := Nat.le_trans (Nat.pow_le_pow_left h7 _) (Nat.pow_le_pow_right (by decide) (by omega))
      rw [xb_asg (lc2_R Γ h ss (some (.d d)) v3 v4 rows (by have := hR.step.cnt; omega) (fun r hr => by rw [hR.len r hr]; omega))]
      simp only [List.set_cons_succ, List.set_cons_zero, exB_0]
theorem allR_ok (hA : T "all_rankings" = some c_all_rankings.c) (n : Nat) (h : PH) (ss : List Str) (h5 : ss.length ≤ 5) : run T (n + 1) "all_rankings" [.d (.tuple (sD ss))] h = .ok (.d (.list (sR (allR ss)))) h := by
  rw [run_eq hA _ _ _ rfl]
  simp only [c_all_rankings]
  show finish h.length (exB (run T n) _ [some (.d (.tuple (sD ss))), none, none, none, none] h) = _
  rw [xb_asg (v := .d (.list (sR [[]]))) (h1 := h) (by rfl)]
  simp only [List.set_cons_succ, List.set_cons_zero]
  obtain ⟨v2, e⟩ := allR_loop (run T n) h ss h5 none none (sD ss) 0 [[]] none (rows0 ss) (by rw [List.length_map]; omega)
  rw [xb_for (xs := sD ss) (h1 := h) (by rfl), e, rs_ok, kont_nx, xb_ret (v := .d (.list (sR (allR ss)))) (h1 := h)]
  · exact fin_rt
  · simp [allR]
/-! ### the greatest value, by trying all -/
def maxF (f : List Str → Rat) (b : Rat) (rows : List (List Str)) : Rat := rows.foldl (fun b r => if b < f r then f r else b) b
theorem maxF_eq (f : List Str → Rat) (V : Rat) : ∀ (rows : List (List Str)) (b : Rat), b ≤ V → (∀ r ∈ rows, f r ≤ V) → (b = V ∨ ∃ r ∈ rows, f r = V) → maxF f b rows = V
  | [], b, hb, _, h => by
    rcases h with h | ⟨r, hr, _⟩
    · exact h
    · cases hr
  | r :: rows, b, hb, hr, h => by
    have h1 := hr r List.mem_cons_self
    refine maxF_eq f V rows (if b < f r then f r else b) (by split <;> assumption) (fun q hq => hr q (List.mem_cons_of_mem _ hq)) ?_
    rcases h with rfl | ⟨q, hq, e⟩
    · refine .inl ?_
      exact if_neg (by grind)
    · rcases List.mem_cons.mp hq with rfl | hq
      · refine .inl ?_
        split
        · exact e
        · grind
      · exact .inr ⟨q, hq, e⟩
theorem gain_bd {xs : List Int} (h : B01 xs) (hl : xs.length < 16) : Bd 100 (gainQ 0 xs) := by
  have key : ∀ (xs : List Int) (i k : Nat) (q : Rat), (∀ x ∈ xs, x.natAbs < 2 ^ 4) → i + xs.length < 16 → Bd k q → Bd (k + 5 * xs.length) (q + gainQ i xs) := by
    intro xs
    induction xs with
    | nil => intro i k q _ _ hq; simpa [gainQ, Rat.add_zero] using hq
    | cons x xs ih =>
      intro i k q hx hi hq
      simp only [List.length_cons] at hi
      have bx : Bd 4 (mkRat x (i + 1)) := mk_bd (by omega) (hx x List.mem_cons_self) (by omega)
      have := ih (i + 1) (k + 4 + 1) _ (fun y hy => hx y (List.mem_cons_of_mem _ hy)) (by omega) (hq.add bx)
      simp only [gainQ, List.length_cons]
      rw [← Rat.add_assoc]
      exact this.mono (by omega)
  have := key xs 0 1 0 h.nat (by omega) Bd_zero
  rw [Rat.zero_add] at this
  exact this.mono (by omega)
theorem avg_bd {xs : List Int} (h : B01 xs) (hl : xs.length < 16) : Bd 100 (avgS 0 0 xs) := by
  have key : ∀ (xs : List Int) (i k : Nat) (f : Int) (q : Rat), B01 xs → 0 ≤ f → f ≤ i → i + xs.length < 16 → Bd k q → Bd (k + 5 * xs.length) (q + avgS i f xs) := by
    intro xs
    induction xs with
    | nil => intro i k f q _ _ _ _ hq; simpa [avgS, Rat.add_zero] using hq
    | cons x xs ih =>
      intro i k f q hx f0 f1 hi hq
      simp only [List.length_cons] at hi
      have x1 := hx x List.mem_cons_self
      have xf : (x * (f + x)).natAbs < 2 ^ 4 := by
        rcases x1 with rfl | rfl
        · simp
        · omega
      have bx : Bd 4 (mkRat (x * (f + x)) (i + 1)) := mk_bd (by omega) xf (by omega)
      have := ih (i + 1) (k + 4 + 1) (f + x) _ (fun y hy => hx y (List.mem_cons_of_mem _ hy)) (by omega) (by omega) (by omega) (hq.add bx)
      simp only [avgS, List.length_cons]
      rw [← Rat.add_assoc]
      exact this.mono (by omega)
  have := key xs 0 1 0 0 h (by omega) (by omega) (by omega) Bd_zero
  rw [Rat.zero_add] at this
  exact this.mono (by omega)
theorem div_bd {j k : Nat} {p q : Rat} (hp : Bd j p) (hq : Bd k q) (h0 : 0 ≤ q) : Bd (j + k) (p / q) := by
  rw [← mk_divq h0]
  have hn : 0 ≤ q.num := Rat.num_nonneg.mpr h0
  by_cases hz : p.den * q.num.toNat = 0
  · rw [hz, Rat.mkRat_zero]
    exact Bd_zero.mono (by
      have : 1 ≤ k := by
        rcases Nat.eq_zero_or_pos k with z | z
        · subst z
          have := hq.2
          have := den_pos q
          omega
        · exact z
      omega)
  · refine mk_bd (by omega) ?_ (mul_lt_pow hp.2 (by have := hq.1; omega))
    rw [Int.natAbs_mul]
    exact mul_lt_pow hp.1 (by simpa using hq.2)
theorem val_bd {xs : List Int} {r : Nat} (h : B01 xs) (hl : xs.length < 16) (hr : r < 16) (m : Me) (hm : m.ok) : Bd 300 (valQ xs r m) := by
  have sm := (h.take 7).sum
  have st : ∀ k, 0 ≤ (xs.take k).sum ∧ (xs.take k).sum ≤ 16 := fun k => by
    have := (h.take k).sum
    rw [List.length_take] at this
    omega
  have rb : Bd 5 (r : Rat) := by
    refine ⟨?_, ?_⟩
    · rw [Rat.num_natCast]; simp; omega
    · rw [Rat.den_natCast]; decide
  cases m with
  | avg => exact (div_bd (avg_bd h hl) rb Rat.natCast_nonneg).mono (by decide)
  | rcp =>
    show Bd 300 (rcpQ xs)
    unfold rcpQ
    cases q : xs.findIdx? (fun x => x == 1) with
    | none => exact Bd_zero.mono (by decide)
    | some j =>
      obtain ⟨hj, _⟩ := List.findIdx?_eq_some_iff_getElem.mp q
      exact (mk_bd (k := 5) (by omega) (by decide) (by omega)).mono (by decide)
  | prec k =>
    obtain ⟨k1, k7⟩ := hm
    have := st k
    exact (mk_bd (k := 5) (by omega) (by omega) (by omega)).mono (by decide)
  | rcl k =>
    have := st k
    show Bd 300 (mkRat (xs.take k).sum r)
    by_cases hz : r = 0
    · rw [hz, Rat.mkRat_zero]; exact Bd_zero.mono (by decide)
    · exact (mk_bd (k := 5) (by omega) (by omega) (by omega)).mono (by decide)
  | gain k => exact (gain_bd (h.take k) (by rw [List.length_take]; omega)).mono (by decide)
  | share k =>
    have b2 : B01 (List.replicate (min k r) 1) := fun x hx' => .inr (List.eq_of_mem_replicate hx')
    exact (div_bd (gain_bd (h.take k) (by rw [List.length_take]; omega)) (gain_bd b2 (by rw [List.length_replicate]; omega)) (gain_nonneg _ 0 b2)).mono (by decide)
theorem Drn.bd {ss rs : List Str} {cs : List Int} (D : Drn ss rs cs) (m : Me) (hm : m.ok) : Bd 300 (vQ ss cs rs m) := by
  have := D.c01.sum
  have := D.cl
  have := D.len
  have := D.rl
  exact val_bd (hits_01 D.c01 rs) (by simp [hitsI]; omega) (by omega) m hm
end
end J
end JNaive

section JNaive2
set_option Elab.async false
set_option linter.all false
set_option maxRecDepth 100000
set_option autoImplicit false
set_option maxHeartbeats 8000000
/-! J.Naive2: naive_best_value, naive_average. -/
namespace J
open PySem
structure HN (T : String → Option CDef) : Prop extends HB2 T where
  below : T "is_below" = some c_is_below.c
  allr : T "all_rankings" = some c_all_rankings.c
section
variable {T : String → Option CDef}
def nbB : CB := .cons (.asg 5 (.call "value_of" (.cons (.var 0) (.cons (.var 1) (.cons (.var 4) (.cons (.var 2) .nil)))))) (.cons (.ite (.call "is_below" (.cons (.var 3) (.cons (.var 5) .nil))) (.cons (.asg 3 (.var 5)) .nil) .nil) .nil)
theorem nb_loop (H : HN T) (n : Nat) (h : PH) {ss rs0 : List Str} {cs : List Int} (D : Drn ss rs0 cs) (m : Me) (hm : m.ok) : ∀ (rows : List (List Str)) (b : Rat) (v4 v5 : Option PV), (∀ r ∈ rows, r.Nodup ∧ ∀ s ∈ r, s ∈ ss) → Bd 300 b →
    ∃ v4' v5', forL (fun x σ h => (ofO (assignD (.nm 4) x σ) h).bind fun σ' h => exB (run T (n + 4)) nbB σ' h) (sR rows) [some (.d (.tuple (sD ss))), some (.d (.tuple (iD cs))), some (.d (meD m)), some (.d (fr b)), v4, v5] h = .ok (.nx [some (.d (.tuple (sD ss))), some (.d (.tuple (iD cs))), some (.d (meD m)), some (.d (fr (maxF (fun r => vQ ss cs r m) b rows))), v4', v5']) h
  | [], b, v4, v5, _, _ => ⟨v4, v5, rfl⟩
  | r :: rows, b, v4, v5, hr, hb => by
    have Dr : Drn ss r cs := { D with nr := (hr r List.mem_cons_self).1, sub := (hr r List.mem_cons_self).2 }
    have vo := Dr.value_of H.toHV n h m hm
    have vb := Dr.bd m hm
    have be := below_ok H.below (n + 3) h hb vb (by decide) (by decide)
    obtain ⟨v4', v5', ih⟩ := nb_loop H n h D m hm rows (if b < vQ ss cs r m then vQ ss cs r m else b) (some (.d (.tuple (sD r)))) (some (.d (fr (vQ ss cs r m)))) (fun q hq => hr q (List.mem_cons_of_mem _ hq)) (by split <;> assumption)
    refine ⟨v4', v5', ?_⟩
    rw [show sR (r :: rows) = .tuple (sD r) :: sR rows from rfl, forL_cons (h1 := h) (σ' := [some (.d (.tuple (sD ss))), some (.d (.tuple (iD cs))), some (.d (meD m)), some (.d (fr (if b < vQ ss cs r m then vQ ss cs r m else b))), some (.d (.tuple (sD r))), some (.d (fr (vQ ss cs r m)))])]
    · exact ih
    · simp only [assignD, ofO_some, rs_ok, List.set_cons_succ, List.set_cons_zero]
      rw [nbB, xb_asg (v := .d (fr (vQ ss cs r m))) (h1 := h) (by rw [ev_call (vs := [.d (.tuple (sD ss)), .d (.tuple (iD cs)), .d (.tuple (sD r)), .d (meD m)]) (h1 := h) (by rfl)]; exact vo)]
      simp only [List.set_cons_succ, List.set_cons_zero]
      have q : ev (run T (n + 4)) (.call "is_below" (.cons (.var 3) (.cons (.var 5) .nil))) [some (.d (.tuple (sD ss))), some (.d (.tuple (iD cs))), some (.d (meD m)), some (.d (fr b)), some (.d (.tuple (sD r))), some (.d (fr (vQ ss cs r m)))] h = .ok (.d (.bool (decide (b < vQ ss cs r m)))) h := by
        rw [ev_call (vs := [.d (fr b), .d (fr (vQ ss cs r m))]) (h1 := h) (by rfl)]
        exact be
      by_cases hlt : b < vQ ss cs r m
      · rw [decide_eq_true hlt] at q
        rw [xb_iteT q rfl, xb_asg (v := .d (fr (vQ ss cs r m))) (h1 := h) (by rfl)]
        simp only [List.set_cons_succ, List.set_cons_zero, exB_0, rs_ok, kont_nx, if_pos hlt]
      · rw [decide_eq_false hlt] at q
        rw [xb_skip q rfl, exB_0, if_neg hlt]
theorem val_nonneg {xs : List Int} {r : Nat} (h : B01 xs) (m : Me) : 0 ≤ valQ xs r m := by
  have mk0 : ∀ (a : Int) (b : Nat), 0 ≤ a → 0 ≤ mkRat a b := fun a b ha => by
    by_cases hb : b = 0
    · rw [hb, Rat.mkRat_zero]; exact Rat.le_refl
    · rw [← Rat.num_nonneg, (mk_num (by omega)).1]
      exact Int.ediv_nonneg ha (by omega)
  have dv : ∀ p q : Rat, 0 ≤ p → 0 ≤ q → 0 ≤ p / q := fun p q hp hq => by
    rw [← mk_divq hq]
    refine mk0 _ _ ?_
    exact Int.mul_nonneg (Rat.num_nonneg.mpr hp) (by omega)
  have av : ∀ (xs : List Int) (i : Nat) (f : Int), B01 xs → 0 ≤ f → 0 ≤ avgS i f xs := by
    intro xs
    induction xs with
    | nil => intro i f _ _; exact Rat.le_refl
    | cons x xs ih =>
      intro i f hx hf
      have x1 := hx x List.mem_cons_self
      have h1 := ih (i + 1) (f + x) (fun y hy => hx y (List.mem_cons_of_mem _ hy)) (by omega)
      have h2 := mk0 (x * (f + x)) (i + 1) (Int.mul_nonneg (by omega) (by omega))
      show 0 ≤ mkRat (x * (f + x)) (i + 1) + avgS (i + 1) (f + x) xs
      grind
  cases m with
  | avg => exact dv _ _ (av xs 0 0 h (by decide)) Rat.natCast_nonneg
  | rcp =>
    show 0 ≤ rcpQ xs
    unfold rcpQ
    cases xs.findIdx? (fun x => x == 1) with
    | none => exact Rat.le_refl
    | some j => exact mk0 _ _ (by decide)
  | prec k => exact mk0 _ _ (h.take k).sum.1
  | rcl k => exact mk0 _ _ (h.take k).sum.1
  | gain k => exact gain_nonneg _ 0 (h.take k)
  | share k => exact dv _ _ (gain_nonneg _ 0 (h.take k)) (gain_nonneg _ 0 fun x hx' => .inr (List.eq_of_mem_replicate hx'))
theorem maxF_best {ss rs : List Str} {cs : List Int} (D : Drn ss rs cs) (m : Me) (hm : m.ok) : maxF (fun r => vQ ss cs r m) 0 (allR ss) = bQ ss cs m := by
  refine maxF_eq _ _ _ _ (val_nonneg (hits_01 D.c01 _) m) (fun r hr => ?_) (.inr ⟨relF ss cs, allR_mem (relF_perm D.c01) D.nd, rfl⟩)
  have R := allR_rows ss
  exact vQ_le_bQ D.nd D.cl D.len D.c01 (R.nd r hr) (R.sub r hr) hm
theorem Drn.naive_best (H : HN T) (hN : T "naive_best_value" = some c_naive_best_value.c) {ss rs : List Str} {cs : List Int} (D : Drn ss rs cs) (h5 : ss.length ≤ 5) (n : Nat) (h : PH) (m : Me) (hm : m.ok) : run T (n + 5) "naive_best_value" [.d (.tuple (sD ss)), .d (.tuple (iD cs)), .d (meD m)] h = .ok (.d (fr (bQ ss cs m))) h := by
  rw [run_eq hN _ _ _ rfl]
  simp only [c_naive_best_value]
  show finish h.length (exB (run T (n + 4)) _ [some (.d (.tuple (sD ss))), some (.d (.tuple (iD cs))), some (.d (meD m)), none, none, none] h) = _
  obtain ⟨r1, r2, r3, r4⟩ := D.checks H.toHB n h m hm
  rw [xb_expr (v := .d .none) (h1 := h) (by rw [ev_call (vs := [.d (.tuple (sD ss)), .d (.tuple (iD cs))]) (h1 := h) (by rfl)]; exact r1)]
  rw [xb_expr (v := .d .none) (h1 := h) (by rw [ev_call (vs := [.d (meD m)]) (h1 := h) (by rfl)]; exact r3)]
  rw [xb_expr (v := .d .none) (h1 := h) (by rw [ev_call (vs := [.d (.tuple (iD cs))]) (h1 := h) (by rfl)]; exact r4)]
  rw [xb_skip (v := .d (.bool false)) (h1 := h) (by
    refine ev_cmp (h1 := h) (h2 := h) (u := .d (.int (ss.length : Int))) (w := .d (.int 5)) (by simp) rfl rfl rfl ?_
    rw [cmp_gtI, decide_eq_false (by omega)]) rfl]
  rw [xb_asg (v := .d (fr 0)) (h1 := h) (by rfl)]
  simp only [List.set_cons_succ, List.set_cons_zero]
  have R := allR_rows ss
  obtain ⟨v4, v5, e⟩ := nb_loop H n h D m hm (allR ss) 0 none none (fun r hr => ⟨R.nd r hr, R.sub r hr⟩) (Bd_zero.mono (by decide))
  rw [xb_for (xs := sR (allR ss)) (h1 := h) (by
    have := allR_ok H.allr (n + 3) h ss h5
    simp [this, seqItems])]
  rw [nbB] at e
  rw [e, rs_ok, kont_nx, maxF_best D m hm, xb_ret (v := .d (fr (bQ ss cs m))) (h1 := h) (by rfl)]
  exact fin_rt
/-! ### the average, rank by rank -/
def goodS (ss : List Str) (cs : List Int) : List Str := ss.filter fun s => decide (entI ss cs s = 1)
theorem good_zip : ∀ {ss : List Str} {cs : List Int}, ss.Nodup → ss.length = cs.length → (ss.zip cs).filterMap (fun p => if decide (p.2 = 1) then some p.1 else none) = goodS ss cs
  | [], [], _, _ => rfl
  | [], _ :: _, _, h => by simp at h
  | _ :: _, [], _, h => by simp at h
  | s :: ss, c :: cs, nd, h => by
    rw [List.nodup_cons] at nd
    have ih := good_zip nd.2 (cs := cs) (by simpa using h)
    have e : (ss.filter fun t => decide (entI (s :: ss) (c :: cs) t = 1)) = goodS ss cs := List.filter_congr fun r hr => by rw [entI_cons_ne fun z => nd.1 (by rw [z]; exact hr)]
    unfold goodS
    rw [List.zip_cons_cons, List.filterMap_cons, List.filter_cons, entI_cons_eq, e]
    cases decide (c = 1) with
    | true => simp only [if_true]; rw [ih]
    | false => simp only [Bool.false_eq_true, if_false]; exact ih
theorem shaped_strs {ss : List Str} (h : ∀ s ∈ ss, PyData.strOk s = true) : SeqAt.shaped (.list (sD ss)) = true := by
  unfold SeqAt.shaped
  rw [Bool.and_eq_true]
  refine ⟨?_, decide_eq_true ?_⟩
  · simp only [PyData.canLay0]
    refine canAll fun x hx => ?_
    obtain ⟨s, hs, rfl⟩ := List.mem_map.mp hx
    simp only [PyData.canLay0]
    exact h s hs
  · simp only [PyData.depth]
    have := depthAll_le (xs := sD ss) (m := 1) fun x hx => by
      obtain ⟨i, _, rfl⟩ := List.mem_map.mp hx
      simp [PyData.depth]
    omega
theorem in_L {gs : List Str} {s : Str} (h : ∀ s ∈ gs, PyData.strOk s = true) (hs : PyData.strOk s = true) : cmpD .in_ (.str s) (.list (sD gs)) = some (decide (s ∈ gs)) := by
  show (if (SeqAt.shaped (.str s) && SeqAt.shaped (.list (sD gs))) = true then some _ else none) = _
  rw [shaped_strs h, show SeqAt.shaped (.str s) = true by simp only [SeqAt.shaped, PyData.canLay0, PyData.depth, hs]; rfl, any_eqS]
  rfl
def naB : CB := .cons (.ite (.cmp .in_ (.ix (.var 2) (.bin .sub (.var 4) (.lit (.int 1)))) (.var 3)) (.cons (.asg 7 (.blt .len (.lc (.seq (.sl (.var 2) .no (.so (.var 4)))) (.nm 8) (.cmp .in_ (.var 8) (.var 3)) (.lit (.int 1)) [8]))) (.cons (.par [(5, false), (6, false)] (.cons (.bin .add (.bin .mul (.var 5) (.var 4)) (.bin .mul (.var 7) (.var 6))) (.cons (.bin .mul (.var 6) (.var 4)) .nil))) .nil)) .nil) .nil
theorem count_hits (ss : List Str) (cs : List Int) (hc : B01 cs) (gs : List Str) (hg : ∀ s, s ∈ ss → (s ∈ gs ↔ entI ss cs s = 1)) : ∀ rs : List Str, (∀ r ∈ rs, r ∈ ss) → ((rs.filterMap fun d => if decide (d ∈ gs) then some (PyData.int 1) else none).length : Int) = (hitsI ss cs rs).sum
  | [], _ => rfl
  | r :: rs, h => by
    have ih := count_hits ss cs hc gs hg rs fun q hq => h q (List.mem_cons_of_mem _ hq)
    have := hg r (h r List.mem_cons_self)
    rw [List.filterMap_cons]
    show _ = (entI ss cs r :: hitsI ss cs rs).sum
    rw [List.sum_cons]
    by_cases q : r ∈ gs
    · rw [decide_eq_true q, if_pos rfl, this.mp q]
      simp only [List.length_cons]
      omega
    · rw [decide_eq_false q, if_neg (by decide)]
      rcases entI_01 (ss := ss) hc r with z | z
      · rw [z, Int.zero_add]; exact ih
      · exact absurd (this.mpr z) q
theorem na_loop (Γ : Fns) (h : PH) {ss rs : List Str} {cs : List Int} (D : Drn ss rs cs) (so : ∀ s ∈ ss, PyData.strOk s = true) (v0 v1 v9 : Option PV) : ∀ (q pre : List Str) (k : Nat) (top : Int) (bot : Nat) (v4 v7 v8 : Option PV), rs = pre ++ q → top.natAbs < 2 ^ k → 0 < bot → bot < 2 ^ k → k + 5 * q.length ≤ 1000 →
    ∃ (top' : Int) (bot' : Nat) (v4' v7' : Option PV), forL (fun x σ h => (ofO (assignD (.nm 4) x σ) h).bind fun σ' h => exB Γ naB σ' h) (rangeD ((pre.length : Int) + 1) q.length) [v0, v1, some (.d (.tuple (sD rs))), some (.d (.list (sD (goodS ss cs)))), v4, some (.d (.int top)), some (.d (.int (bot : Nat))), v7, v8, v9] h = .ok (.nx [v0, v1, some (.d (.tuple (sD rs))), some (.d (.list (sD (goodS ss cs)))), v4', some (.d (.int top')), some (.d (.int (bot' : Nat))), v7', v8, v9]) h ∧ 0 < bot' ∧ bot' < 2 ^ (k + 5 * q.length) ∧ mkRat top' bot' = mkRat top bot + avgS pre.length (hitsI ss cs pre).sum (hitsI ss cs q)
  | [], pre, k, top, bot, v4, v7, v8, _, _, b0, hb, _ => ⟨top, bot, v4, v7, rfl, b0, by simpa using hb, by simp [hitsI, avgS, Rat.add_zero]⟩
  | d :: q, pre, k, top, bot, v4, v7, v8, hrs, ht, b0, hb, hk => by
    simp only [List.length_cons] at hk
    have rl := D.rl
    have pl : pre.length + 1 ≤ 7 := by rw [hrs] at rl; simp only [List.length_append, List.length_cons] at rl; omega
    have hd : d ∈ ss := D.sub d (by rw [hrs]; simp)
    have gm : ∀ s, s ∈ ss → (s ∈ goodS ss cs ↔ entI ss cs s = 1) := fun s hs => by
      unfold goodS
      rw [List.mem_filter]
      simp [hs]
    have gso : ∀ s ∈ goodS ss cs, PyData.strOk s = true := fun s hs => so s (List.mem_filter.mp hs).1
    have at0 : atI (sD rs) ((pre.length : Int) + 1 - 1) = some (.str d) := by
      unfold atI
      rw [ixN_of (by omega) (by rw [List.length_map, hrs]; simp; omega)]
      have : ((pre.length : Int) + 1 - 1).toNat = pre.length := by omega
      rw [Option.bind_some, this, hrs]
      simp
    have hin := in_L gso (so d hd)
    have cond : ∀ (v5 v6 v7 v8 v9 : Option PV), ev Γ (.cmp .in_ (.ix (.var 2) (.bin .sub (.var 4) (.lit (.int 1)))) (.var 3)) [v0, v1, some (.d (.tuple (sD rs))), some (.d (.list (sD (goodS ss cs)))), some (.d (.int ((pre.length : Int) + 1))), v5, v6, v7, v8, v9] h = .ok (.d (.bool (decide (d ∈ goodS ss cs)))) h := fun v5 v6 v7 v8 v9 => by
      simp only [ev_8, ev_15, ev_5, ev_0, ev_2, dat_int, List.getElem?_cons_succ, List.getElem?_cons_zero, rs_ok, val_d, Option.bind_some, bin_subI, Option.map_some, ofO_some, ix_T, at0, hin]
    have hE : hitsI ss cs (d :: q) = entI ss cs d :: hitsI ss cs q := rfl
    have hP : hitsI ss cs (pre ++ [d]) = hitsI ss cs pre ++ [entI ss cs d] := by simp [hitsI]
    have nat1 : (pre.length : Int) + 1 = ((pre.length + 1 : Nat) : Int) := by omega
    have rg : rangeD ((pre.length : Int) + 1) (d :: q).length = .int ((pre.length : Int) + 1) :: rangeD (((pre ++ [d]).length : Int) + 1) q.length := by
      show _ :: _ = _
      simp
    have hP2 : (hitsI ss cs (pre ++ [d])).sum = (hitsI ss cs pre).sum + entI ss cs d := by rw [hP]; simp
    rw [rg]
    by_cases hg : d ∈ goodS ss cs
    · have e1 : entI ss cs d = 1 := (gm d hd).mp hg
      let f : Int := (hitsI ss cs (pre ++ [d])).sum
      have fb : 0 ≤ f ∧ f ≤ 7 := by
        have := (hits_01 (ss := ss) D.c01 (pre ++ [d])).sum
        have l : (hitsI ss cs (pre ++ [d])).length = pre.length + 1 := by simp [hitsI]
        rw [l] at this
        exact ⟨this.1, by have := this.2; omega⟩
      have tn : (top * ((pre.length : Int) + 1)).natAbs < 2 ^ (k + 4) := by
        rw [Int.natAbs_mul]
        exact mul_lt_pow ht (by omega)
      have fn : (f * (bot : Int)).natAbs < 2 ^ (k + 4) := by
        rw [Int.natAbs_mul, Nat.add_comm]
        exact mul_lt_pow (by omega) (by simpa using hb)
      have sumn : (top * ((pre.length : Int) + 1) + f * (bot : Int)).natAbs < 2 ^ (k + 5) := by
        have := Int.natAbs_add_le (top * ((pre.length : Int) + 1)) (f * (bot : Int))
        rw [show k + 5 = (k + 4) + 1 by omega, Nat.pow_succ]
        omega
      have bn : bot * (pre.length + 1) < 2 ^ (k + 5) := by
        have := mul_lt_pow hb (show pre.length + 1 < 2 ^ 4 by omega)
        exact Nat.lt_of_lt_of_le this (Nat.pow_le_pow_right (by decide) (by omega))
      obtain ⟨top', bot', v4', v7', ih, b1, b2, b3⟩ := na_loop Γ h D so v0 v1 v9 q (pre ++ [d]) (k + 5) (top * ((pre.length : Int) + 1) + f * (bot : Int)) (bot * (pre.length + 1)) (some (.d (.int ((pre.length : Int) + 1)))) (some (.d (.int f))) v8 (by rw [hrs]; simp) sumn (Nat.mul_pos b0 (by omega)) bn (by omega)
      refine ⟨top', bot', v4', v7', ?_, b1, by simp only [List.length_cons]; rw [show k + 5 * (q.length + 1) = k + 5 + 5 * q.length by omega]; exact b2, ?_⟩
      · rw [forL_cons (h1 := h) (σ' := [v0, v1, some (.d (.tuple (sD rs))), some (.d (.list (sD (goodS ss cs)))), some (.d (.int ((pre.length : Int) + 1))), some (.d (.int (top * ((pre.length : Int) + 1) + f * (bot : Int)))), some (.d (.int ((bot * (pre.length + 1) : Nat) : Int))), some (.d (.int f)), v8, v9])]
        · exact ih
        · simp only [assignD, ofO_some, rs_ok, List.set_cons_succ, List.set_cons_zero]
          have c := cond (some (.d (.int top))) (some (.d (.int (bot : Nat)))) v7 v8 v9
          rw [decide_eq_true hg] at c
          rw [naB, xb_iteT c rfl]
          have ct : cut (sD rs) none (some ((pre.length : Int) + 1)) = sD (pre ++ [d]) := by
            rw [cut_to _ (by omega), show ((pre.length : Int) + 1).toNat = pre.length + 1 by omega, hrs, sD, ← List.map_take]
            congr 1
            rw [show pre ++ d :: q = (pre ++ [d]) ++ q by simp, List.take_left' (by simp)]
          have lc : ev Γ (.blt .len (.lc (.seq (.sl (.var 2) .no (.so (.var 4)))) (.nm 8) (.cmp .in_ (.var 8) (.var 3)) (.lit (.int 1)) [8])) [v0, v1, some (.d (.tuple (sD rs))), some (.d (.list (sD (goodS ss cs)))), some (.d (.int ((pre.length : Int) + 1))), some (.d (.int top)), some (.d (.int (bot : Nat))), v7, v8, v9] h = .ok (.d (.int f)) h := by
            refine ev_blt (u := .d (.list ((pre ++ [d]).filterMap fun d => if decide (d ∈ goodS ss cs) then some (PyData.int 1) else none))) ?_ rfl ?_
            · refine ev_lc1 (xs := sD (pre ++ [d])) (by simp [ct, seqItems]) (by simp [lineN]; omega) ?_
              refine compL_pure _ PyData.str (fun d => if decide (d ∈ goodS ss cs) then some (PyData.int 1) else none) h (pre ++ [d]) fun r hr => ?_
              have hr' : r ∈ ss := D.sub r (by rw [hrs]; simp at hr ⊢; rcases hr with z | z <;> simp [z])
              have hi := in_L gso (so r hr')
              by_cases z : r ∈ goodS ss cs
              · rw [decide_eq_true z] at hi ⊢
                simp [compF, wipeP, assignD, hi]
              · rw [decide_eq_false z] at hi ⊢
                simp [compF, wipeP, assignD, hi]
            · rw [blt_lenL]
              have := count_hits ss cs D.c01 (goodS ss cs) gm (pre ++ [d]) (fun r hr => D.sub r (by rw [hrs]; simp at hr ⊢; rcases hr with z | z <;> simp [z]))
              rw [this]
          rw [xb_asg lc]
          simp only [List.set_cons_succ, List.set_cons_zero]
          have m1 : binD .mul (.int top) (.int ((pre.length : Int) + 1)) = some (.int (top * ((pre.length : Int) + 1))) := mul_ok (lt8 ht (by omega)) (lt8 (k := 4) (by omega) (by decide))
          have m2 : binD .mul (.int f) (.int (bot : Int)) = some (.int (f * (bot : Int))) := mul_ok (lt8 (k := 4) (by omega) (by decide)) (lt8 (k := k) (by simpa using hb) (by omega))
          have m3 : binD .mul (.int (bot : Int)) (.int ((pre.length : Int) + 1)) = some (.int ((bot * (pre.length + 1) : Nat) : Int)) := by
            rw [mul_ok (lt8 (k := k) (by simpa using hb) (by omega)) (lt8 (k := 4) (by omega) (by decide)), Int.natCast_mul, nat1]
          rw [xb_cons, ex_3]
          simp only [evP, ev_5, ev_0, List.getElem?_cons_succ, List.getElem?_cons_zero, rs_ok, val_d, Option.bind_some, m1, m2, m3, bin_addI, Option.map_some, ofO_some, parSet, List.set_cons_succ, List.set_cons_zero, kont_nx, exB_0]
      · rw [b3, hP2, hE]
        simp only [avgS, e1, List.length_append, List.length_cons, List.length_nil, Nat.zero_add]
        rw [← Rat.add_assoc]
        congr 1
        have := add_mk top (1 * ((hitsI ss cs pre).sum + 1)) b0 (show 0 < pre.length + 1 by omega)
        rw [this]
        congr 1
        show top * ((pre.length : Int) + 1) + (hitsI ss cs (pre ++ [d])).sum * (bot : Int) = _
        rw [hP2, e1, nat1, Int.one_mul]
    · have e0 : entI ss cs d = 0 := by
        rcases entI_01 (ss := ss) D.c01 d with z | z
        · exact z
        · exact absurd ((gm d hd).mpr z) hg
      obtain ⟨top', bot', v4', v7', ih, b1, b2, b3⟩ := na_loop Γ h D so v0 v1 v9 q (pre ++ [d]) (k + 5) top bot (some (.d (.int ((pre.length : Int) + 1)))) v7 v8 (by rw [hrs]; simp) (Nat.lt_of_lt_of_le ht (Nat.pow_le_pow_right (by decide) (by omega))) b0 (Nat.lt_of_lt_of_le hb (Nat.pow_le_pow_right (by decide) (by omega))) (by omega)
      refine ⟨top', bot', v4', v7', ?_, b1, by simp only [List.length_cons]; rw [show k + 5 * (q.length + 1) = k + 5 + 5 * q.length by omega]; exact b2, ?_⟩
      · rw [forL_cons (h1 := h) (σ' := [v0, v1, some (.d (.tuple (sD rs))), some (.d (.list (sD (goodS ss cs)))), some (.d (.int ((pre.length : Int) + 1))), some (.d (.int top)), some (.d (.int (bot : Nat))), v7, v8, v9])]
        · exact ih
        · simp only [assignD, ofO_some, rs_ok, List.set_cons_succ, List.set_cons_zero]
          have c := cond (some (.d (.int top))) (some (.d (.int (bot : Nat)))) v7 v8 v9
          rw [decide_eq_false hg] at c
          rw [naB, xb_skip c rfl, exB_0]
      · rw [b3, hP2, hE]
        simp only [avgS, e0, List.length_append, List.length_cons, List.length_nil, Nat.zero_add, Int.zero_mul, mk_zero, Rat.zero_add]
theorem good_ev (Γ : Fns) (h : PH) {ss rs : List Str} {cs : List Int} (D : Drn ss rs cs) (v2 v3 v4 v5 v6 v7 v8 v9 : Option PV) : ev Γ (.lc (.zip (.var 0) (.var 1)) (.tup [(.nm 8), (.nm 9)]) (.cmp .eq (.var 9) (.lit (.int 1))) (.var 8) [8, 9]) [some (.d (.tuple (sD ss))), some (.d (.tuple (iD cs))), v2, v3, v4, v5, v6, v7, v8, v9] h = .ok (.d (.list (sD (goodS ss cs)))) h := by
  have len := D.len
  have zi : ∀ (ss : List Str) (cs : List Int), zipD (sD ss) (iD cs) = (ss.zip cs).map fun p => PyData.tuple [.str p.1, .int p.2] := fun ss => by
    induction ss with
    | nil => intro cs; rfl
    | cons s ss ih =>
      intro cs
      cases cs with
      | nil => rfl
      | cons c cs =>
        show PyData.tuple [.str s, .int c] :: zipD (sD ss) (iD cs) = _
        rw [ih cs]
        rfl
  refine ev_lc1 (xs := zipD (sD ss) (iD cs)) (by rfl) ?_ ?_
  · rw [zi, List.length_map, List.length_zip]
    have := Nat.min_le_left ss.length cs.length
    unfold lineN
    omega
  · rw [zi, compL_pure _ (fun p : Str × Int => PyData.tuple [.str p.1, .int p.2]) (fun p => (if decide (p.2 = 1) then some p.1 else none).map PyData.str) h]
    · rw [fm_map, good_zip D.nd D.cl]
    · intro p _
      obtain ⟨s, c⟩ := p
      have e3 : cmpD .eq (.int c) (.int 1) = some (decide (c = 1)) := by
        rw [cmp_eqI]
        simp only [PyData.eqv]
        congr 1
      by_cases q : c = 1
      · rw [decide_eq_true q] at e3 ⊢
        simp [compF, wipeP, assignD, assignDs, e3]
      · rw [decide_eq_false q] at e3 ⊢
        simp [compF, wipeP, assignD, assignDs, e3]
theorem na_end (hL : T "lowest_terms" = some c_lowest_terms.c) (n : Nat) (h : PH) {ss rs : List Str} {cs : List Int} (D : Drn ss rs cs) (top : Int) (bot : Nat) (b1 : 0 < bot) (b2' : bot < 2 ^ 100) (b3 : mkRat top bot = avgS 0 0 (hitsI ss cs rs)) (v0 v1 v2 v4 v7 v8 v9 : Option PV) : ev (run T (n + 4)) (.call "lowest_terms" (.cons (.var 5) (.cons (.bin .mul (.var 6) (.blt .len (.var 3))) .nil))) [v0, v1, v2, some (.d (.list (sD (goodS ss cs)))), v4, some (.d (.int top)), some (.d (.int (bot : Nat))), v7, v8, v9] h = .ok (.d (fr (vQ ss cs rs .avg))) h := by
  have len := D.len
  have gl : ((goodS ss cs).length : Int) = cs.sum := by
    have := count_ones ss (entI ss cs) fun s _ => entI_01 D.c01 s
    rw [map_entI D.nd D.cl] at this
    exact this
  have gln : (goodS ss cs).length = cs.sum.toNat := by omega
  have g7 : (goodS ss cs).length ≤ 7 := Nat.le_trans (List.length_filter_le _ _) len
  have m1 : binD .mul (.int (bot : Int)) (.int ((goodS ss cs).length : Int)) = some (.int ((bot * (goodS ss cs).length : Nat) : Int)) := by
    rw [mul_ok (lt8 (k := 100) (by simpa using b2') (by decide)) (lt8 (k := 4) (by simp; omega) (by decide)), Int.natCast_mul]
  have l0 := low_ok hL (n + 3) h top (bot * (goodS ss cs).length) (lt8 (mul_lt_pow b2' (show (goodS ss cs).length < 2 ^ 4 by omega)) (by decide))
  have e : mkRat top (bot * (goodS ss cs).length) = vQ ss cs rs .avg := by
    show _ = avgS 0 0 (hitsI ss cs rs) / (cs.sum.toNat : Rat)
    rw [← b3, ← gln, Rat.mkRat_eq_div, Rat.mkRat_eq_div, Rat.natCast_mul]
    by_cases z : (goodS ss cs).length = 0
    · rw [z]
      simp [Rat.div_def]
    · have : (((goodS ss cs).length : Nat) : Rat) ≠ 0 := fun q => z (Rat.natCast_eq_zero_iff.mp q)
      have : ((bot : Nat) : Rat) ≠ 0 := fun q => by have := Rat.natCast_eq_zero_iff.mp q; omega
      grind
  rw [e] at l0
  rw [ev_call (vs := [.d (.int top), .d (.int ((bot * (goodS ss cs).length : Nat) : Int))]) (h1 := h)]
  · exact l0
  · simp only [evA_1, evA_0, ev_0, ev_5, ev_18, List.getElem?_cons_succ, List.getElem?_cons_zero, rs_ok, val_d, Option.bind_some, blt_lenL, Option.map_some, ofO_some, List.length_map, m1]
end
end J
end JNaive2

section JNaive3
set_option Elab.async false
set_option linter.all false
set_option maxRecDepth 100000
set_option autoImplicit false
set_option maxHeartbeats 8000000
/-! J.Naive3: naive_average. -/
namespace J
open PySem
theorem rng2_ev {Γ : Fns} {σ : PEnv} {h : PH} {a b : CE} {i j : Int} (ha : ev Γ a σ h = .ok (.d (.int i)) h) (hb : ev Γ b σ h = .ok (.d (.int j)) h) (h1 : -1000 ≤ i) (h2 : i < 1000) (h3 : -1000 ≤ j) (h4 : j < 1000) : evI Γ (.rng2 a b) σ h = .ok (rangeD i (j - i).toNat) h := by
  rw [evI_2, ha, rs_ok, hb, rs_ok]
  exact if_pos ⟨by omega, by omega, by omega, by omega⟩
section
variable {T : String → Option CDef}
theorem Drn.naive_avg (H : HB T) (hN : T "naive_average" = some c_naive_average.c) {ss rs : List Str} {cs : List Int} (D : Drn ss rs cs) (so : ∀ s ∈ ss, PyData.strOk s = true) (n : Nat) (h : PH) : run T (n + 5) "naive_average" [.d (.tuple (sD ss)), .d (.tuple (iD cs)), .d (.tuple (sD rs))] h = .ok (.d (fr (vQ ss cs rs .avg))) h := by
  rw [run_eq hN _ _ _ rfl]
  simp only [c_naive_average]
  show finish h.length (exB (run T (n + 4)) _ [some (.d (.tuple (sD ss))), some (.d (.tuple (iD cs))), some (.d (.tuple (sD rs))), none, none, none, none, none, none, none] h) = _
  obtain ⟨r1, r2, r3, r4⟩ := D.checks H n h .avg trivial
  have len := D.len
  have rl := D.rl
  rw [xb_expr (v := .d .none) (h1 := h) (by rw [ev_call (vs := [.d (.tuple (sD ss)), .d (.tuple (iD cs))]) (h1 := h) (by rfl)]; exact r1)]
  rw [xb_expr (v := .d .none) (h1 := h) (by rw [ev_call (vs := [.d (.tuple (sD ss)), .d (.tuple (sD rs))]) (h1 := h) (by rfl)]; exact r2)]
  rw [xb_expr (v := .d .none) (h1 := h) (by rw [ev_call (vs := [.d (.tuple (iD cs))]) (h1 := h) (by rfl)]; exact r4)]
  rw [xb_asg (good_ev (run T (n + 4)) h D _ _ _ _ _ _ _ _)]
  simp only [List.set_cons_succ, List.set_cons_zero]
  rw [xb_cons, show ex (run T (n + 4)) (.par [(5, false), (6, false)] (.cons (.lit (.int 0)) (.cons (.lit (.int 1)) .nil))) [some (.d (.tuple (sD ss))), some (.d (.tuple (iD cs))), some (.d (.tuple (sD rs))), some (.d (.list (sD (goodS ss cs)))), none, none, none, none, none, none] h = .ok (.nx [some (.d (.tuple (sD ss))), some (.d (.tuple (iD cs))), some (.d (.tuple (sD rs))), some (.d (.list (sD (goodS ss cs)))), none, some (.d (.int 0)), some (.d (.int ((1 : Nat) : Int))), none, none, none]) h from rfl, rs_ok, kont_nx]
  obtain ⟨top, bot, v4, v7, lo, b1, b2, b3⟩ := na_loop (run T (n + 4)) h D so (some (.d (.tuple (sD ss)))) (some (.d (.tuple (iD cs)))) none rs [] 1 0 1 none none none rfl (by decide) (by decide) (by decide) (by omega)
  have rgv : evI (run T (n + 4)) (.rng2 (.lit (.int 1)) (.bin .add (.blt .len (.var 2)) (.lit (.int 1)))) [some (.d (.tuple (sD ss))), some (.d (.tuple (iD cs))), some (.d (.tuple (sD rs))), some (.d (.list (sD (goodS ss cs)))), none, some (.d (.int 0)), some (.d (.int ((1 : Nat) : Int))), none, none, none] h = .ok (rangeD 1 rs.length) h := by
    have e := rng2_ev (Γ := run T (n + 4)) (σ := [some (.d (.tuple (sD ss))), some (.d (.tuple (iD cs))), some (.d (.tuple (sD rs))), some (.d (.list (sD (goodS ss cs)))), none, some (.d (.int 0)), some (.d (.int ((1 : Nat) : Int))), none, none, none]) (h := h) (a := .lit (.int 1)) (b := .bin .add (.blt .len (.var 2)) (.lit (.int 1))) (i := 1) (j := (rs.length : Int) + 1) rfl (by simp) (by omega) (by omega) (by omega) (by omega)
    rw [show ((rs.length : Int) + 1 - 1).toNat = rs.length by omega] at e
    exact e
  rw [xb_for rgv]
  rw [naB] at lo
  have lo' := lo
  simp only [List.length_nil] at lo'
  rw [show ((0 : Nat) : Int) + 1 = 1 from rfl] at lo'
  rw [lo', rs_ok, kont_nx]
  have b2' : bot < 2 ^ 100 := Nat.lt_of_lt_of_le b2 (Nat.pow_le_pow_right (by decide) (by omega))
  have b3' : mkRat top bot = avgS 0 0 (hitsI ss cs rs) := by
    rw [b3, mk_zero, Rat.zero_add]
    rfl
  rw [xb_ret (na_end H.low n h D top bot b1 b2' b3' _ _ _ _ _ _ _)]
  exact fin_rt
end
end J
end JNaive3

section JLval
set_option Elab.async false
set_option linter.all false
set_option maxRecDepth 100000
set_option autoImplicit false
set_option maxHeartbeats 8000000
/-! J.Lval: the value by the ranks of the relevant documents (_law_value). -/
namespace J
open PySem
/-! ### places -/
def plc : Nat → List Int → List Nat
  | _, [] => []
  | i, x :: xs => if x = 1 then (i + 1) :: plc (i + 1) xs else plc (i + 1) xs
def avgP : Nat → List Nat → Rat
  | _, [] => 0
  | f, p :: ps => mkRat ((f + 1 : Nat) : Int) p + avgP (f + 1) ps
def gP : List Nat → Rat
  | [] => 0
  | p :: ps => mkRat 1 p + gP ps
theorem plc_lt : ∀ (xs : List Int) (i p : Nat), p ∈ plc i xs → i < p ∧ p ≤ i + xs.length
  | [], i, p, h => by cases h
  | x :: xs, i, p, h => by
    unfold plc at h
    split at h
    · rcases List.mem_cons.mp h with rfl | h
      · simp only [List.length_cons]; omega
      · have := plc_lt xs (i + 1) p h; simp only [List.length_cons]; omega
    · have := plc_lt xs (i + 1) p h; simp only [List.length_cons]; omega
theorem plc_len : ∀ (xs : List Int) (i : Nat), (plc i xs).length ≤ xs.length
  | [], i => Nat.le_refl _
  | x :: xs, i => by
    have := plc_len xs (i + 1)
    unfold plc
    split <;> simp only [List.length_cons] <;> omega
theorem avgP_eq : ∀ (xs : List Int) (i f : Nat), B01 xs → avgP f (plc i xs) = avgS i f xs
  | [], i, f, _ => rfl
  | x :: xs, i, f, h => by
    have ih := avgP_eq xs (i + 1)
    have hb : B01 xs := fun y hy => h y (List.mem_cons_of_mem _ hy)
    unfold plc
    rcases h x List.mem_cons_self with rfl | rfl
    · rw [if_neg (by decide), ih f hb, avgS, Int.zero_mul, mk_zero, Rat.zero_add, Int.add_zero]
    · rw [if_pos rfl, avgP, ih (f + 1) hb, avgS, Int.one_mul]
      rfl
theorem gP_eq : ∀ (xs : List Int) (i : Nat), B01 xs → gP (plc i xs) = gainQ i xs
  | [], i, _ => rfl
  | x :: xs, i, h => by
    have ih := gP_eq xs (i + 1) fun y hy => h y (List.mem_cons_of_mem _ hy)
    unfold plc
    rcases h x List.mem_cons_self with rfl | rfl
    · rw [if_neg (by decide), ih, gainQ, mk_zero, Rat.zero_add]
    · rw [if_pos rfl, gP, ih, gainQ]
theorem plc_sum : ∀ (xs : List Int) (i : Nat), B01 xs → ((plc i xs).length : Int) = xs.sum
  | [], i, _ => rfl
  | x :: xs, i, h => by
    have ih := plc_sum xs (i + 1) fun y hy => h y (List.mem_cons_of_mem _ hy)
    unfold plc
    rcases h x List.mem_cons_self with rfl | rfl
    · rw [if_neg (by decide), ih, List.sum_cons, Int.zero_add]
    · rw [if_pos rfl, List.length_cons, List.sum_cons]; omega
theorem plc_take : ∀ (xs : List Int) (i k : Nat), (plc i xs).filter (fun p => decide (p ≤ k)) = plc i (xs.take (k - i))
  | [], i, k => by simp [plc]
  | x :: xs, i, k => by
    have ih := plc_take xs (i + 1) k
    by_cases hk : k ≤ i
    · rw [show k - i = 0 by omega, List.take_zero]
      rw [List.filter_eq_nil_iff.mpr]
      · rfl
      · intro p hp
        have := plc_lt (x :: xs) i p hp
        simp only [decide_eq_true_eq]
        omega
    · rw [show k - i = (k - (i + 1)) + 1 by omega, List.take_succ_cons]
      unfold plc
      split
      · rw [List.filter_cons, if_pos (by simp; omega), ih]
      · exact ih
def headQ : List Nat → Rat
  | p :: _ => mkRat 1 p
  | [] => 0
def idxQ (i : Nat) : Option Nat → Rat
  | some j => mkRat 1 (i + j + 1)
  | none => 0
theorem idx_plc : ∀ (xs : List Int) (i : Nat), idxQ i (xs.findIdx? (fun x => x == 1)) = headQ (plc i xs)
  | [], _ => rfl
  | x :: xs, i => by
    have ih := idx_plc xs (i + 1)
    rw [List.findIdx?_cons]
    unfold plc
    by_cases hx : x = 1
    · rw [if_pos hx]
      subst hx
      rfl
    · have hb : (x == 1) = false := by simpa using hx
      rw [if_neg hx, hb, ← ih]
      cases xs.findIdx? (fun x => x == 1) with
      | none => rfl
      | some j =>
        show mkRat 1 (i + (j + 1) + 1) = mkRat 1 (i + 1 + j + 1)
        congr 1
        omega
theorem rcp_plc (xs : List Int) : rcpQ xs = headQ (plc 0 xs) := by
  rw [← idx_plc xs 0]
  unfold rcpQ
  cases xs.findIdx? (fun x => x == 1) with
  | none => rfl
  | some j =>
    show mkRat 1 (j + 1) = mkRat 1 (0 + j + 1)
    rw [Nat.zero_add]
def oneTo (m : Nat) : List Nat := List.range' 1 m
theorem gP_one (m : Nat) : gP (oneTo m) = gainQ 0 (List.replicate m 1) := by
  have key : ∀ (m i : Nat), plc i (List.replicate m 1) = (List.range' (i + 1) m) := by
    intro m
    induction m with
    | zero => intro i; rfl
    | succ m ih =>
      intro i
      rw [List.replicate_succ, plc, if_pos rfl, ih (i + 1), List.range'_succ]
  rw [← gP_eq (List.replicate m 1) 0 (fun x hx => .inr (List.eq_of_mem_replicate hx)), key]
  rfl
/-! ### fractions by hand -/
structure HL (T : String → Option CDef) : Prop where
  frac : T "_law_fraction" = some c__law_fraction.c
  plus : T "_law_plus" = some c__law_plus.c
  lval : T "_law_value" = some c__law_value.c
section
variable {T : String → Option CDef}
theorem frac_ok (hL : T "_law_fraction" = some c__law_fraction.c) (n : Nat) (h : PH) (a b : Nat) (hb2 : b < 2 ^ 8000) : run T (n + 1) "_law_fraction" [.d (.int a), .d (.int b)] h = .ok (.d (fr (mkRat a b))) h := by
  rw [run_eq hL _ _ _ rfl]
  simp only [c__law_fraction]
  show finish h.length (exB (run T n) _ [some (.d (.int a)), some (.d (.int b)), none, none] h) = _
  by_cases hb : b = 0
  · subst hb
    rw [Rat.mkRat_zero]
    exact fin_rt
  have hb0 : ((b : Int) == 0) = false := by simp; omega
  rw [xb_skip (v := .d (.bool false)) (h1 := h) (by
    refine ev_cmp (h1 := h) (h2 := h) (u := .d (.int b)) (w := .d (.int 0)) rfl rfl rfl rfl ?_
    rw [cmp_eqI]
    exact congrArg some hb0) rfl]
  rw [xb_cons, show ex (run T n) (.par [(2, false), (3, false)] (.cons (.var 0) (.cons (.var 1) .nil))) [some (.d (.int a)), some (.d (.int b)), none, none] h = .ok (.nx [some (.d (.int a)), some (.d (.int b)), some (.d (.int a)), some (.d (.int b))]) h from rfl, rs_ok, kont_nx, xb_whl]
  have gl := gcd_few (run T n) 2 3 (by decide) h 8000 b a whlMost [some (.d (.int a)), some (.d (.int b)), some (.d (.int a)), some (.d (.int b))] hb2 (by unfold whlMost; decide +kernel) rfl rfl
  rw [gcdB] at gl
  rw [gl, rs_ok, kont_nx]
  simp only [List.set_cons_succ, List.set_cons_zero]
  have hg : 0 < Nat.gcd a b := Nat.gcd_pos_of_pos_right _ (by omega)
  have hg2 : Nat.gcd a b < 2 ^ 8000 := Nat.lt_of_le_of_lt (Nat.le_of_dvd (by omega) (Nat.gcd_dvd_right _ b)) hb2
  obtain ⟨e1, e2⟩ := mk_num (a := (a : Int)) (show 0 < b by omega)
  rw [xb_ret (v := .d (fr (mkRat a b))) (h1 := h)]
  · exact fin_rt
  · have d1 := bin_fdivI (a := (a : Int)) (divOk_big hg hg2)
    have d2 := bin_fdivI (a := (b : Int)) (divOk_big hg hg2)
    simp only [ev_3, evD, ev_5, ev_0, List.getElem?_cons_zero, List.getElem?_cons_succ, rs_ok, val_d, Option.bind_some, d1, d2, Option.map_some, ofO_some]
    unfold fr
    rw [e1, e2]
    rfl
/-- a sum of a fraction and of a pair -/
theorem plus_raw (H : HL T) (n : Nat) (h : PH) {k : Nat} {q : Rat} (c d : Nat) (q0 : 0 ≤ q) (hd : 0 < d) (hq : Bd k q) (hc : c < 2 ^ 4) (hd2 : d < 2 ^ 4) (hk : k ≤ 4000) :
    run T (n + 2) "_law_plus" [.d (fr q), .d (.tuple [.int c, .int d])] h = .ok (.d (fr (q + mkRat c d))) h := by
  rw [run_eq H.plus _ _ _ rfl]
  simp only [c__law_plus]
  have hn : 0 ≤ q.num := Rat.num_nonneg.mpr q0
  have m1 := mul_ok (a := q.num) (b := (d : Int)) (lt8 hq.1 (by omega)) (lt8 (k := 4) (by simpa using hd2) (by decide))
  have m2 := mul_ok (a := (c : Int)) (b := (q.den : Int)) (lt8 (k := 4) (by simpa using hc) (by decide)) (lt8 (k := k) (by rw [Int.natAbs_natCast]; exact hq.2) (by omega))
  have m3 := mul_ok (a := (q.den : Int)) (b := (d : Int)) (lt8 (k := k) (by rw [Int.natAbs_natCast]; exact hq.2) (by omega)) (lt8 (k := 4) (by simpa using hd2) (by decide))
  have lo := frac_ok H.frac n h (q.num.toNat * d + c * q.den) (q.den * d) (lt8 (mul_lt_pow hq.2 hd2) (by omega))
  have e1 : ((q.num.toNat * d + c * q.den : Nat) : Int) = q.num * d + c * q.den := by
    rw [Int.natCast_add, Int.natCast_mul, Int.natCast_mul]
    congr 2
    omega
  rw [e1, Int.natCast_mul] at lo
  have e2 : mkRat (q.num * d + c * q.den) (q.den * d) = q + mkRat c d := by
    rw [← add_mk q.num (c : Int) (den_pos q) hd, Rat.mkRat_self]
  rw [e2] at lo
  show finish h.length (exB (run T (n + 1)) _ [some (.d (fr q)), some (.d (.tuple [.int c, .int d]))] h) = _
  rw [xb_ret (v := .d (fr (q + mkRat c d))) (h1 := h)]
  · exact fin_rt
  · unfold fr at lo ⊢
    simp [m1, m2, m3, lo]
theorem mk0 (a : Int) (b : Nat) (ha : 0 ≤ a) : 0 ≤ mkRat a b := by
  by_cases hb : b = 0
  · rw [hb, Rat.mkRat_zero]; exact Rat.le_refl
  · rw [← Rat.num_nonneg, (mk_num (by omega)).1]
    exact Int.ediv_nonneg ha (by omega)
theorem pl_step (H : HL T) (n : Nat) (h : PH) {k : Nat} {q : Rat} (c d : Nat) (q0 : 0 ≤ q) (hd : 0 < d) (hq : Bd k q) (hc : c < 2 ^ 4) (hd2 : d < 2 ^ 4) (hk : k ≤ 4000) : run T (n + 2) "_law_plus" [.d (fr q), .d (.tuple [.int c, .int d])] h = .ok (.d (fr (q + mkRat c d))) h ∧ 0 ≤ q + mkRat c d ∧ Bd (k + 5) (q + mkRat c d) := by
  refine ⟨plus_raw H n h c d q0 hd hq hc hd2 hk, ?_, (hq.add (mk_bd hd (by simpa using hc) hd2)).mono (by omega)⟩
  have := mk0 (c : Int) d (by omega)
  grind
def nD (ps : List Nat) : List D := ps.map fun p => PyData.int (p : Nat)
/-- adding 1 / p, p in a list; slots i (total), 7 (place) -/
theorem gP_loop (H : HL T) (n : Nat) (h : PH) (i : Nat) (hi : i ≠ 7) (σ : PEnv) (hl : i < σ.length) (h7 : 7 < σ.length) : ∀ (ps : List Nat) (k : Nat) (q : Rat) (w : Option PV), (∀ p ∈ ps, 0 < p ∧ p < 2 ^ 4) → 0 ≤ q → Bd k q → k + 5 * ps.length ≤ 4000 →
    ∃ w', forL (fun x σ h => (ofO (assignD (.nm 7) x σ) h).bind fun σ' h => exB (run T (n + 2)) (.cons (.asg i (.call "_law_plus" (.cons (.var i) (.cons (.tup (.cons (.lit (.int 1)) (.cons (.var 7) .nil))) .nil)))) .nil) σ' h) (nD ps) ((σ.set i (some (.d (fr q)))).set 7 w) h = .ok (.nx ((σ.set i (some (.d (fr (q + gP ps))))).set 7 w')) h ∧ 0 ≤ q + gP ps ∧ Bd (k + 5 * ps.length) (q + gP ps)
  | [], k, q, w, _, q0, hq, _ => ⟨w, by simp [nD, forL, gP, Rat.add_zero], by simpa [gP, Rat.add_zero] using q0, by simpa [gP, Rat.add_zero] using hq⟩
  | p :: ps, k, q, w, hp, q0, hq, hk => by
    simp only [List.length_cons] at hk
    obtain ⟨p0, p4⟩ := hp p List.mem_cons_self
    obtain ⟨e, n0, b⟩ := pl_step H n h 1 p q0 p0 hq (by decide) p4 (by omega)
    obtain ⟨w', ih, n1, b1⟩ := gP_loop H n h i hi σ hl h7 ps (k + 5) (q + mkRat ((1 : Nat) : Int) p) (some (.d (.int (p : Nat)))) (fun r hr => hp r (List.mem_cons_of_mem _ hr)) n0 b (by omega)
    refine ⟨w', ?_, ?_, ?_⟩
    · rw [show nD (p :: ps) = .int (p : Nat) :: nD ps from rfl, forL_cons (h1 := h) (σ' := (σ.set i (some (.d (fr (q + mkRat ((1 : Nat) : Int) p))))).set 7 (some (.d (.int (p : Nat)))))]
      · rw [ih]
        simp only [gP, Rat.add_assoc]
        rfl
      · simp only [assignD, ofO_some, rs_ok, List.set_set]
        rw [xb_asg (v := .d (fr (q + mkRat ((1 : Nat) : Int) p))) (h1 := h)]
        · rw [exB_0, List.set_comm _ _ (Ne.symm hi), List.set_set]
        · rw [ev_call (vs := [.d (fr q), .d (.tuple [.int ((1 : Nat) : Int), .int (p : Nat)])]) (h1 := h)]
          · exact e
          · have g1 : ((σ.set i (some (PV.d (fr q)))).set 7 (some (.d (.int (p : Nat)))))[i]? = some (some (.d (fr q))) := by rw [List.getElem?_set_ne (Ne.symm hi), List.getElem?_set_self hl]
            have g2 : ((σ.set i (some (PV.d (fr q)))).set 7 (some (.d (.int (p : Nat)))))[7]? = some (some (.d (.int (p : Nat)))) := by rw [List.getElem?_set_self (by simpa using h7)]
            simp only [evA_1, evA_0, ev_0, ev_3, evD_1, evD_0, ev_2, dat_int, g1, g2, rs_ok]
            rfl
    · simp only [gP]; rw [← Rat.add_assoc]; exact n1
    · simp only [gP, List.length_cons]; rw [← Rat.add_assoc]; exact b1.mono (by omega)
theorem atI_nat {α : Type} (xs : List α) (j : Nat) : atI xs (j : Int) = xs[j]? := by
  unfold atI ixN
  rw [if_pos (by omega)]
  by_cases hj : j < xs.length
  · rw [if_pos (by omega)]
    simp
  · rw [if_neg (by omega), List.getElem?_eq_none (by omega)]
    rfl
theorem avgP_loop (H : HL T) (n : Nat) (h : PH) (ps : List Nat) (hp : ∀ p ∈ ps, 0 < p ∧ p < 2 ^ 4) (h15 : ps.length < 15) (v0 v1 v2 v3 v6 v7 v8 v9 v10 : Option PV) : ∀ (qs pre : List Nat) (k : Nat) (q : Rat) (w : Option PV), ps = pre ++ qs → 0 ≤ q → Bd k q → k + 5 * qs.length ≤ 4000 →
    ∃ w', forL (fun x σ h => (ofO (assignD (.nm 11) x σ) h).bind fun σ' h => exB (run T (n + 2)) (.cons (.asg 5 (.call "_law_plus" (.cons (.var 5) (.cons (.tup (.cons (.bin .add (.var 11) (.lit (.int 1))) (.cons (.ix (.var 4) (.var 11)) .nil))) .nil)))) .nil) σ' h) (rangeD (pre.length : Nat) qs.length) [v0, v1, v2, v3, some (.d (.list (nD ps))), some (.d (fr q)), v6, v7, v8, v9, v10, w] h = .ok (.nx [v0, v1, v2, v3, some (.d (.list (nD ps))), some (.d (fr (q + avgP pre.length qs))), v6, v7, v8, v9, v10, w']) h ∧ Bd (k + 5 * qs.length) (q + avgP pre.length qs) ∧ 0 ≤ q + avgP pre.length qs
  | [], pre, k, q, w, _, q0, hq, _ => ⟨w, by simp [rangeD, forL, avgP, Rat.add_zero], by simpa [avgP, Rat.add_zero] using hq, by simpa [avgP, Rat.add_zero] using q0⟩
  | p :: qs, pre, k, q, w, e0, q0, hq, hk => by
    simp only [List.length_cons] at hk
    obtain ⟨p0, p4⟩ := hp p (by rw [e0]; simp)
    have pl : pre.length + 1 < 16 := by rw [e0] at h15; simp at h15; omega
    obtain ⟨e, n0, b⟩ := pl_step H n h (pre.length + 1) p q0 p0 hq (by omega) p4 (by omega)
    obtain ⟨w', ih, b1, n1⟩ := avgP_loop H n h ps hp h15 v0 v1 v2 v3 v6 v7 v8 v9 v10 qs (pre ++ [p]) (k + 5) (q + mkRat ((pre.length + 1 : Nat) : Int) p) (some (.d (.int (pre.length : Nat)))) (by rw [e0]; simp) n0 b (by omega)
    rw [show (pre ++ [p]).length = pre.length + 1 by simp] at ih b1 n1
    refine ⟨w', ?_, ?_, ?_⟩
    · rw [show rangeD ((pre.length : Nat) : Int) (p :: qs).length = .int (pre.length : Nat) :: rangeD (((pre.length + 1 : Nat)) : Int) qs.length from rfl, forL_cons (h1 := h) (σ' := [v0, v1, v2, v3, some (.d (.list (nD ps))), some (.d (fr (q + mkRat ((pre.length + 1 : Nat) : Int) p))), v6, v7, v8, v9, v10, some (.d (.int (pre.length : Nat)))])]
      · rw [ih]
        simp only [avgP, Rat.add_assoc]
      · simp only [assignD, ofO_some, rs_ok, List.set_cons_succ, List.set_cons_zero]
        have at1 : atI (nD ps) ((pre.length : Nat) : Int) = some (.int (p : Nat)) := by rw [atI_nat, e0]; simp [nD]
        rw [xb_asg (v := .d (fr (q + mkRat ((pre.length + 1 : Nat) : Int) p))) (h1 := h)]
        · simp only [List.set_cons_succ, List.set_cons_zero, exB_0]
        · rw [ev_call (vs := [.d (fr q), .d (.tuple [.int ((pre.length + 1 : Nat) : Int), .int (p : Nat)])]) (h1 := h)]
          · exact e
          · simp [at1]
    · simp only [avgP, List.length_cons]; rw [← Rat.add_assoc]; exact b1.mono (by omega)
    · simp only [avgP]; rw [← Rat.add_assoc]; exact n1
end
end J
end JLval

section JLval2
set_option Elab.async false
set_option linter.all false
set_option maxRecDepth 100000
set_option autoImplicit false
set_option maxHeartbeats 8000000
/-! J.Lval2: _law_value. -/
namespace J
open PySem
section
variable {T : String → Option CDef}
theorem pairs_zip : ∀ (ss : List Str) (cs : List Int), pairsOf (zipD (sD ss) (iD cs)) = some ((sD ss).zip (iD cs))
  | [], _ => rfl
  | _ :: _, [] => rfl
  | s :: ss, c :: cs => by
    have ih := pairs_zip ss cs
    simp only [sD, List.map_cons, iD_cons, zipD, pairsOf, isKey, if_true] at ih ⊢
    rw [ih]
    rfl
theorem own_ev (Γ : Fns) (h : PH) (ss : List Str) (cs : List Int) (σ : PEnv) (h0 : σ[0]? = some (some (.d (.tuple (sD ss))))) (h1 : σ[1]? = some (some (.d (.tuple (iD cs))))) : ev Γ (.blt .dict (.b2 .lzip (.var 0) (.var 1))) σ h = .ok (.d (.dict (dictOf ((sD ss).zip (iD cs))))) h := by
  refine ev_blt (u := .d (.list (zipD (sD ss) (iD cs)))) (ev_b2 (h1 := h) (h2 := h) (ev_at h0) (ev_at h1) rfl rfl rfl) rfl ?_
  show (pairsOf (zipD (sD ss) (iD cs))).map _ = _
  rw [pairs_zip]
  rfl
theorem own_ix {ss : List Str} {cs : List Int} (nd : ss.Nodup) (hl : ss.length = cs.length) {s : Str} (hs : s ∈ ss) : ixD (.dict (dictOf ((sD ss).zip (iD cs)))) (.str s) = some (.int (entI ss cs s)) := by
  obtain ⟨d, ed, _⟩ := ent_some (ds := cs) hs hl
  show dget _ _ = _
  rw [dget_zip nd, iD, ent_map, entI, ed]
  rfl
theorem compL_none {f : D → PH → Rs (Option D)} {x : D} {xs r : List D} {h : PH} (e : f x h = .ok none h) (e2 : compL f xs h = .ok r h) : compL f (x :: xs) h = .ok r h := by
  simp only [compL, e, rs_ok, e2]
theorem compL_some {f : D → PH → Rs (Option D)} {x y : D} {xs r : List D} {h : PH} (e : f x h = .ok (some y) h) (e2 : compL f xs h = .ok r h) : compL f (x :: xs) h = .ok (y :: r) h := by
  simp only [compL, e, rs_ok, e2]
theorem plc_comp (Γ : Fns) (h : PH) {ss rs : List Str} {cs : List Int} (D : Drn ss rs cs) (v0 v1 v3 v4 v5 v6 v7 v8 v10 v11 : Option PV) : ∀ (qs pre : List Str), rs = pre ++ qs →
    compL (compF (.nm 11) [11] (fun σ h => ev Γ (.ix (.var 9) (.ix (.var 2) (.var 11))) σ h) (fun σ h => ev Γ (.bin .add (.var 11) (.lit (.int 1))) σ h) [v0, v1, some (.d (.tuple (sD rs))), v3, v4, v5, v6, v7, v8, some (.d (.dict (dictOf ((sD ss).zip (iD cs))))), v10, v11]) (rangeD (pre.length : Nat) qs.length) h = .ok (nD (plc pre.length (hitsI ss cs qs))) h
  | [], pre, _ => rfl
  | d :: qs, pre, e0 => by
    have ih := plc_comp Γ h D v0 v1 v3 v4 v5 v6 v7 v8 v10 v11 qs (pre ++ [d]) (by rw [e0]; simp)
    rw [show (pre ++ [d]).length = pre.length + 1 by simp] at ih
    have hd : d ∈ ss := D.sub d (by rw [e0]; simp)
    have at1 : atI (sD rs) ((pre.length : Nat) : Int) = some (.str d) := by rw [atI_nat, e0]; simp
    have ox := own_ix D.nd D.cl hd
    show compL _ (.int (pre.length : Nat) :: rangeD (((pre.length + 1 : Nat)) : Int) qs.length) h = .ok (nD (plc pre.length (entI ss cs d :: hitsI ss cs qs))) h
    unfold plc
    rcases entI_01 (ss := ss) D.c01 d with z | z
    · rw [if_neg (by rw [z]; decide)]
      rw [z] at ox
      refine compL_none ?_ ih
      simp only [compF, wipeP, List.set_cons_succ, List.set_cons_zero, assignD, ofO_some, rs_ok, ev_15, ev_0, List.getElem?_cons_succ, List.getElem?_cons_zero, val_d, Option.bind_some, ix_T, at1, ox, Option.map_some, calm_ok_, tru_int]
      rfl
    · rw [if_pos z]
      rw [z] at ox
      refine compL_some ?_ ih
      simp only [compF, wipeP, List.set_cons_succ, List.set_cons_zero, assignD, ofO_some, rs_ok, ev_15, ev_0, List.getElem?_cons_succ, List.getElem?_cons_zero, val_d, Option.bind_some, ix_T, at1, ox, Option.map_some, calm_ok_, tru_int]
      rfl
theorem ev_k10 {Γ : Fns} {σ : PEnv} {h : PH} {a b : String} {z : Bool} (h3 : σ[10]? = some (some (.d (.str (Str.ofString a))))) (hz : cmpD .eq (.str (Str.ofString a)) (.str (Str.ofString b)) = some z) : ev Γ (.cmp .eq (.var 10) (.lit (.str b))) σ h = .ok (.d (.bool z)) h :=
  ev_cmp (h1 := h) (h2 := h) (ev_at h3) rfl rfl rfl hz
theorem ev_in10 {Γ : Fns} {σ : PEnv} {h : PH} {a : String} {z : Bool} (h3 : σ[10]? = some (some (.d (.str (Str.ofString a))))) (hz : cmpD .in_ (.str (Str.ofString a)) (.tuple [.str (Str.ofString "precision"), .str (Str.ofString "recall")]) = some z) : ev Γ (.cmp .in_ (.var 10) (.tup (.cons (.lit (.str "precision")) (.cons (.lit (.str "recall")) .nil)))) σ h = .ok (.d (.bool z)) h :=
  ev_cmp (h1 := h) (h2 := h) (ev_at h3) (by rfl) rfl rfl hz
theorem rng1_ev {Γ : Fns} {σ : PEnv} {h : PH} {a : CE} {m : Nat} (ha : ev Γ a σ h = .ok (.d (.int (m : Nat))) h) (hm : m < 1000) : evI Γ (.rng a) σ h = .ok (rangeD 0 m) h := by
  rw [evI_1, ha, rs_ok]
  exact if_pos ⟨by omega, by omega⟩
theorem nD_len (ps : List Nat) : (nD ps).length = ps.length := by simp [nD]
theorem good_comp (Γ : Fns) (h : PH) (ps : List Nat) (k : Nat) (hp : ps.length ≤ 100) (x3 : D) (h3 : ixD x3 (.int 1) = some (.int (k : Nat))) (v0 v1 v2 v5 v6 v7 v8 v9 v10 v11 : Option PV) : ev Γ (.lc (.seq (.var 4)) (.nm 7) (.cmp .le (.var 7) (.ix (.var 3) (.lit (.int 1)))) (.var 7) [7]) [v0, v1, v2, some (.d x3), some (.d (.list (nD ps))), v5, v6, v7, v8, v9, v10, v11] h = .ok (.d (.list (nD (ps.filter fun p => decide (p ≤ k))))) h := by
  refine ev_lc1 (xs := nD ps) (by rfl) (by rw [nD_len]; unfold lineN; omega) ?_
  have key := compL_pure (compF (.nm 7) [7] (fun σ h => ev Γ (.cmp .le (.var 7) (.ix (.var 3) (.lit (.int 1)))) σ h) (fun σ h => ev Γ (.var 7) σ h) [v0, v1, v2, some (.d x3), some (.d (.list (nD ps))), v5, v6, v7, v8, v9, v10, v11]) (fun p : Nat => PyData.int (p : Nat)) (fun p => if decide (p ≤ k) then some (.int (p : Nat)) else none) h ps (fun p _ => by
    by_cases q : p ≤ k
    · have q' : (p : Int) ≤ (k : Int) := by omega
      simp [compF, wipeP, assignD, h3, q, q']
    · have q' : ¬ ((p : Int) ≤ (k : Int)) := by omega
      simp [compF, wipeP, assignD, h3, q, q'])
  refine Eq.trans key ?_
  congr 1
  clear key hp
  induction ps with
  | nil => rfl
  | cons p ps ih =>
    rw [List.filterMap_cons, List.filter_cons]
    cases decide (p ≤ k) with
    | true => simp only [if_true]; rw [ih]; rfl
    | false => simp only [Bool.false_eq_true, if_false]; exact ih
theorem range_nD : ∀ (m i : Nat), rangeD (i : Int) m = nD (List.range' i m)
  | 0, _ => rfl
  | m + 1, i => by
    show .int (i : Nat) :: rangeD ((i : Int) + 1) m = .int (i : Nat) :: nD (List.range' (i + 1) m)
    rw [show (i : Int) + 1 = ((i + 1 : Nat) : Int) by omega, range_nD m (i + 1)]
def kdS : Me → String
  | .avg => "average"
  | .rcp => "reciprocal"
  | .prec _ => "precision"
  | .rcl _ => "recall"
  | .gain _ => "gain"
  | .share _ => "share"
theorem Drn.lval (H : HL T) {ss rs : List Str} {cs : List Int} (D : Drn ss rs cs) (n : Nat) (h : PH) (m : Me) (hm : m.ok) : run T (n + 4) "_law_value" [.d (.tuple (sD ss)), .d (.tuple (iD cs)), .d (.tuple (sD rs)), .d (meD m)] h = .ok (.d (fr (vQ ss cs rs m))) h := by
  have len := D.len
  have rl := D.rl
  have cl := D.cl
  have h01 := hits_01 (ss := ss) D.c01 rs
  have hln : (hitsI ss cs rs).length = rs.length := by simp [hitsI]
  have sm := D.c01.sum
  rw [run_eq H.lval _ _ _ rfl]
  simp only [c__law_value]
  show finish h.length (exB (run T (n + 3)) _ [some (.d (.tuple (sD ss))), some (.d (.tuple (iD cs))), some (.d (.tuple (sD rs))), some (.d (meD m)), none, none, none, none, none, none, none, none] h) = _
  obtain ⟨rest, hkd⟩ : ∃ rest : List PyData, meD m = .tuple (.str (Str.ofString (kdS m)) :: rest) := by cases m <;> exact ⟨_, rfl⟩
  have hs0 : bltD .sum (.tuple (iD cs)) = some (.int cs.sum) := by
    show (intsOf (iD cs)).map _ = _
    rw [intsOf_iD]; rfl
  have hsn : cs.sum = ((cs.sum.toNat : Nat) : Int) := by omega
  generalize hR : cs.sum.toNat = r at hsn
  rw [hsn] at hs0
  have r7 : r ≤ 7 := by omega
  have hp : ex (run T (n + 3)) (.par [(9, false), (10, false)] (.cons (.blt .dict (.b2 .lzip (.var 0) (.var 1))) (.cons (.ix (.var 3) (.lit (.int 0))) .nil))) [some (.d (.tuple (sD ss))), some (.d (.tuple (iD cs))), some (.d (.tuple (sD rs))), some (.d (meD m)), none, none, none, none, none, none, none, none] h = .ok (.nx [some (.d (.tuple (sD ss))), some (.d (.tuple (iD cs))), some (.d (.tuple (sD rs))), some (.d (meD m)), none, none, none, none, none, some (.d (.dict (dictOf ((sD ss).zip (iD cs))))), some (.d (.str (Str.ofString (kdS m)))), none]) h := by
    have o := own_ev (run T (n + 3)) h ss cs [some (.d (.tuple (sD ss))), some (.d (.tuple (iD cs))), some (.d (.tuple (sD rs))), some (.d (meD m)), none, none, none, none, none, none, none, none] rfl rfl
    rw [ex_3, evP, o]
    simp [evP, parSet, hkd]
  rw [xb_cons, hp, rs_ok, kont_nx]
  let ps := plc 0 (hitsI ss cs rs)
  have pl : ps.length ≤ 7 := by have := plc_len (hitsI ss cs rs) 0; show (plc 0 (hitsI ss cs rs)).length ≤ 7; omega
  have pp : ∀ p ∈ ps, 0 < p ∧ p < 2 ^ 4 := fun p hp => by have := plc_lt _ _ p hp; omega
  rw [xb_asg (v := .d (.list (nD ps))) (h1 := h) (by
    refine ev_lc1 (xs := rangeD 0 rs.length) ?_ ?_ ?_
    · exact rng1_ev (by simp) (by omega)
    · rw [show (0 : Int) = ((0 : Nat) : Int) from rfl, range_nD, nD_len, List.length_range']; unfold lineN; omega
    · exact plc_comp (run T (n + 3)) h D _ _ _ _ _ _ _ _ _ _ rs [] rfl)]
  simp only [List.set_cons_succ, List.set_cons_zero]
  have vdef : vQ ss cs rs m = valQ (hitsI ss cs rs) r m := by unfold vQ; rw [hR]
  rw [vdef]
  cases m with
  | rcp =>
    simp only [kdS]
    rw [xb_iteT (v := .d (.bool true)) (h1 := h) (ev_k10 (a := "reciprocal") rfl (by decide +kernel)) rfl, xb_ret (v := .d (fr (valQ (hitsI ss cs rs) r .rcp))) (h1 := h)]
    · exact fin_rt
    · show ev _ _ _ _ = .ok (.d (fr (rcpQ (hitsI ss cs rs)))) h
      rw [rcp_plc]
      show ev _ _ _ _ = .ok (.d (fr (headQ ps))) h
      cases hps : ps with
      | nil =>
        rw [ev_ifF (u := .d (.list [])) (h1 := h) (by rfl) rfl]
        rfl
      | cons p qs =>
        have hp1 : 0 < p := (pp p (by rw [hps]; exact List.mem_cons_self)).1
        obtain ⟨j, rfl⟩ : ∃ j, p = j + 1 := ⟨p - 1, by omega⟩
        rw [ev_ifT (u := .d (.list (nD ((j + 1) :: qs)))) (h1 := h) (by rfl) rfl]
        show _ = Rs.ok (PV.d (fr (mkRat 1 (j + 1)))) h
        rw [fr_inv]
        simp [nD]
  | avg =>
    simp only [kdS]
    rw [xb_skip (v := .d (.bool false)) (h1 := h) (ev_k10 (a := "average") rfl (by decide +kernel)) rfl, xb_asg (v := .d (fr 0)) (h1 := h) (by rfl)]
    simp only [List.set_cons_succ, List.set_cons_zero]
    rw [xb_iteT (v := .d (.bool true)) (h1 := h) (ev_k10 (a := "average") rfl (by decide +kernel)) rfl]
    obtain ⟨w, lo, b, q0⟩ := avgP_loop H (n + 1) h ps pp (by omega) (some (.d (.tuple (sD ss)))) (some (.d (.tuple (iD cs)))) (some (.d (.tuple (sD rs)))) (some (.d (meD .avg))) none none none (some (.d (.dict (dictOf ((sD ss).zip (iD cs)))))) (some (.d (.str (Str.ofString "average")))) ps [] 1 0 none rfl Rat.le_refl Bd_zero (by omega)
    rw [xb_for (xs := rangeD 0 ps.length) (h1 := h) (by
      exact rng1_ev (by simp [nD_len]) (by omega))]
    rw [List.length_nil, show ((0 : Nat) : Int) = 0 from rfl, Rat.zero_add] at lo
    rw [List.length_nil, Rat.zero_add] at b q0
    rw [lo, rs_ok, kont_nx]
    rw [xb_ret (v := .d (fr (valQ (hitsI ss cs rs) r .avg))) (h1 := h)]
    · rw [rs_ok, kont_rt]
      exact fin_rt
    · have eA : avgP 0 ps = avgS 0 0 (hitsI ss cs rs) := avgP_eq _ 0 0 h01
      rw [eA] at b q0 ⊢
      show ev _ _ _ _ = .ok (.d (fr (avgS 0 0 (hitsI ss cs rs) / (r : Rat)))) h
      have b1 := b.mono (show 1 + 5 * ps.length ≤ 100 by omega)
      generalize avgS 0 0 (hitsI ss cs rs) = a at b1 q0
      have an : 0 ≤ a.num := Rat.num_nonneg.mpr q0
      have m1 := mul_ok (a := (a.den : Int)) (b := (r : Int)) (lt8 (k := 100) (by rw [Int.natAbs_natCast]; exact b1.2) (by decide)) (lt8 (k := 4) (by simp; omega) (by decide))
      have l0 := frac_ok H.frac (n + 2) h a.num.toNat (a.den * r) (lt8 (mul_lt_pow b1.2 (show r < 2 ^ 4 by omega)) (by decide))
      rw [Int.natCast_mul, show ((a.num.toNat : Nat) : Int) = a.num by omega, mk_div] at l0
      unfold fr at l0 ⊢
      simp [m1, l0, hs0]
  | prec k =>
    obtain ⟨k1, k7⟩ := hm
    simp only [kdS]
    rw [xb_skip (v := .d (.bool false)) (h1 := h) (ev_k10 (a := "precision") rfl (by decide +kernel)) rfl, xb_asg (v := .d (fr 0)) (h1 := h) (by rfl)]
    simp only [List.set_cons_succ, List.set_cons_zero]
    rw [xb_skip (v := .d (.bool false)) (h1 := h) (ev_k10 (a := "precision") rfl (by decide +kernel)) rfl, xb_asg (good_comp (run T (n + 3)) h ps k (by omega) (meD (.prec k)) rfl _ _ _ _ _ _ _ _ _ _)]
    simp only [List.set_cons_succ, List.set_cons_zero]
    rw [xb_iteT (v := .d (.bool true)) (h1 := h) (ev_in10 (a := "precision") rfl (by decide +kernel)) rfl, xb_ret (v := .d (fr (valQ (hitsI ss cs rs) r (.prec k)))) (h1 := h)]
    · exact fin_rt
    · have gl : (ps.filter fun p => decide (p ≤ k)).length = ((hitsI ss cs rs).take k).sum := by
        rw [show (ps.filter fun p => decide (p ≤ k)) = plc 0 ((hitsI ss cs rs).take (k - 0)) from plc_take _ 0 k, Nat.sub_zero, plc_sum _ 0 (h01.take k)]
      have l0 := frac_ok H.frac (n + 2) h (ps.filter fun p => decide (p ≤ k)).length k (lt8 (k := 4) (by omega) (by decide))
      rw [gl] at l0
      rw [ev_call (vs := [.d (.int ((hitsI ss cs rs).take k).sum), .d (.int (k : Nat))]) (h1 := h)]
      · exact l0
      · simp only [evA_1, evA_0]
        rw [ev_blt (z := .int ((hitsI ss cs rs).take k).sum) (h1 := h) (u := .d (.list (nD (ps.filter fun p => decide (p ≤ k))))) (by rfl) rfl (by rw [blt_lenL, nD_len, gl]), rs_ok]
        rw [ev_ifT (u := .d (.bool true)) (h1 := h) (ev_k10 (a := "precision") rfl (by decide +kernel)) rfl]
        rfl
  | rcl k =>
    obtain ⟨k1, k7⟩ := hm
    simp only [kdS]
    rw [xb_skip (v := .d (.bool false)) (h1 := h) (ev_k10 (a := "recall") rfl (by decide +kernel)) rfl, xb_asg (v := .d (fr 0)) (h1 := h) (by rfl)]
    simp only [List.set_cons_succ, List.set_cons_zero]
    rw [xb_skip (v := .d (.bool false)) (h1 := h) (ev_k10 (a := "recall") rfl (by decide +kernel)) rfl, xb_asg (good_comp (run T (n + 3)) h ps k (by omega) (meD (.rcl k)) rfl _ _ _ _ _ _ _ _ _ _)]
    simp only [List.set_cons_succ, List.set_cons_zero]
    rw [xb_iteT (v := .d (.bool true)) (h1 := h) (ev_in10 (a := "recall") rfl (by decide +kernel)) rfl, xb_ret (v := .d (fr (valQ (hitsI ss cs rs) r (.rcl k)))) (h1 := h)]
    · exact fin_rt
    · have gl : (ps.filter fun p => decide (p ≤ k)).length = ((hitsI ss cs rs).take k).sum := by
        rw [show (ps.filter fun p => decide (p ≤ k)) = plc 0 ((hitsI ss cs rs).take (k - 0)) from plc_take _ 0 k, Nat.sub_zero, plc_sum _ 0 (h01.take k)]
      have l0 := frac_ok H.frac (n + 2) h (ps.filter fun p => decide (p ≤ k)).length r (lt8 (k := 4) (by omega) (by decide))
      rw [gl] at l0
      rw [ev_call (vs := [.d (.int ((hitsI ss cs rs).take k).sum), .d (.int (r : Nat))]) (h1 := h)]
      · exact l0
      · simp only [evA_1, evA_0]
        rw [ev_blt (z := .int ((hitsI ss cs rs).take k).sum) (h1 := h) (u := .d (.list (nD (ps.filter fun p => decide (p ≤ k))))) (by rfl) rfl (by rw [blt_lenL, nD_len, gl]), rs_ok]
        rw [ev_ifF (u := .d (.bool false)) (h1 := h) (ev_k10 (a := "recall") rfl (by decide +kernel)) rfl]
        rw [ev_blt (z := .int (r : Nat)) (h1 := h) (u := .d (.tuple (iD cs))) (by rfl) rfl hs0]
        rfl
  | gain k =>
    obtain ⟨k1, k7⟩ := hm
    simp only [kdS]
    rw [xb_skip (v := .d (.bool false)) (h1 := h) (ev_k10 (a := "gain") rfl (by decide +kernel)) rfl, xb_asg (v := .d (fr 0)) (h1 := h) (by rfl)]
    simp only [List.set_cons_succ, List.set_cons_zero]
    rw [xb_skip (v := .d (.bool false)) (h1 := h) (ev_k10 (a := "gain") rfl (by decide +kernel)) rfl, xb_asg (good_comp (run T (n + 3)) h ps k (by omega) (meD (.gain k)) rfl _ _ _ _ _ _ _ _ _ _)]
    simp only [List.set_cons_succ, List.set_cons_zero]
    rw [xb_skip (v := .d (.bool false)) (h1 := h) (ev_in10 (a := "gain") rfl (by decide +kernel)) rfl]
    have gf : (ps.filter fun p => decide (p ≤ k)) = plc 0 ((hitsI ss cs rs).take k) := by
      have := plc_take (hitsI ss cs rs) 0 k
      rw [Nat.sub_zero] at this
      exact this
    have gl2 : (plc 0 ((hitsI ss cs rs).take k)).length ≤ 7 := Nat.le_trans (plc_len _ 0) (by rw [List.length_take]; omega)
    rw [gf]
    have gp : ∀ p ∈ plc 0 ((hitsI ss cs rs).take k), 0 < p ∧ p < 2 ^ 4 := fun p hp => by have := plc_lt _ _ p hp; rw [List.length_take] at this; omega
    obtain ⟨w, lo, q0, b⟩ := gP_loop H (n + 1) h 5 (by decide) [some (.d (.tuple (sD ss))), some (.d (.tuple (iD cs))), some (.d (.tuple (sD rs))), some (.d (meD (.gain k))), some (.d (.list (nD ps))), none, some (.d (.list (nD (plc 0 ((hitsI ss cs rs).take k))))), none, none, some (.d (.dict (dictOf ((sD ss).zip (iD cs))))), some (.d (.str (Str.ofString "gain"))), none] (by simp) (by simp) (plc 0 ((hitsI ss cs rs).take k)) 1 0 none gp Rat.le_refl Bd_zero (by omega)
    simp only [List.set_cons_succ, List.set_cons_zero, Rat.zero_add] at lo
    rw [xb_for (xs := nD (plc 0 ((hitsI ss cs rs).take k))) (h1 := h) (by rfl), lo, rs_ok, kont_nx, xb_asg (v := .d (fr 0)) (h1 := h) (by rfl)]
    simp only [List.set_cons_succ, List.set_cons_zero]
    obtain ⟨w2, lo2, q02, bb2⟩ := gP_loop H (n + 1) h 8 (by decide) [some (.d (.tuple (sD ss))), some (.d (.tuple (iD cs))), some (.d (.tuple (sD rs))), some (.d (meD (.gain k))), some (.d (.list (nD ps))), some (.d (fr (gP (plc 0 ((hitsI ss cs rs).take k))))), some (.d (.list (nD (plc 0 ((hitsI ss cs rs).take k))))), none, none, some (.d (.dict (dictOf ((sD ss).zip (iD cs))))), some (.d (.str (Str.ofString "gain"))), none] (by simp) (by simp) (oneTo (min k r)) 1 0 w (fun p hp => by unfold oneTo at hp; rw [List.mem_range'_1] at hp; omega) Rat.le_refl Bd_zero (by unfold oneTo; rw [List.length_range']; omega)
    simp only [List.set_cons_succ, List.set_cons_zero, Rat.zero_add] at lo2
    rw [xb_for (xs := nD (oneTo (min k r))) (h1 := h) (by
      have e := rng2_ev (Γ := run T (n + 3)) (σ := [some (.d (.tuple (sD ss))), some (.d (.tuple (iD cs))), some (.d (.tuple (sD rs))), some (.d (meD (.gain k))), some (.d (.list (nD ps))), some (.d (fr (gP (plc 0 ((hitsI ss cs rs).take k))))), some (.d (.list (nD (plc 0 ((hitsI ss cs rs).take k))))), w, some (.d (fr 0)), some (.d (.dict (dictOf ((sD ss).zip (iD cs))))), some (.d (.str (Str.ofString "gain"))), none]) (h := h) (a := .lit (.int 1)) (b := .bin .add (.min2 (.ix (.var 3) (.lit (.int 1))) (.blt .sum (.var 1))) (.lit (.int 1))) (i := 1) (j := ((min k r : Nat) : Int) + 1) rfl (by
        have at1 : atI ([.str (Str.ofString "gain"), .int (k : Nat)] : List PyData) 1 = some (.int (k : Nat)) := rfl
        simp only [ev_5, ev_19, ev_15, ev_18, ev_0, ev_2, dat_int, List.getElem?_cons_succ, List.getElem?_cons_zero, rs_ok, val_d, Option.bind_some, meD, ix_T, at1, hs0, Option.map_some, ofO_some, mini_eq, bin_addI]) (by omega) (by omega) (by omega) (by omega)
      rw [show (((min k r : Nat) : Int) + 1 - 1).toNat = min k r by omega, show (1 : Int) = ((1 : Nat) : Int) from rfl, range_nD] at e
      exact e), lo2, rs_ok, kont_nx]
    rw [xb_ret (v := .d (fr (valQ (hitsI ss cs rs) r (.gain k)))) (h1 := h)]
    · exact fin_rt
    · rw [ev_ifT (u := .d (.bool true)) (h1 := h) (ev_k10 (a := "gain") rfl (by decide +kernel)) rfl]
      show _ = Rs.ok (PV.d (fr (gainQ 0 ((hitsI ss cs rs).take k)))) h
      rw [← gP_eq _ 0 (h01.take k)]
      rfl
  | share k =>
    obtain ⟨k1, k7⟩ := hm
    simp only [kdS]
    rw [xb_skip (v := .d (.bool false)) (h1 := h) (ev_k10 (a := "share") rfl (by decide +kernel)) rfl, xb_asg (v := .d (fr 0)) (h1 := h) (by rfl)]
    simp only [List.set_cons_succ, List.set_cons_zero]
    rw [xb_skip (v := .d (.bool false)) (h1 := h) (ev_k10 (a := "share") rfl (by decide +kernel)) rfl, xb_asg (good_comp (run T (n + 3)) h ps k (by omega) (meD (.share k)) rfl _ _ _ _ _ _ _ _ _ _)]
    simp only [List.set_cons_succ, List.set_cons_zero]
    rw [xb_skip (v := .d (.bool false)) (h1 := h) (ev_in10 (a := "share") rfl (by decide +kernel)) rfl]
    have gf : (ps.filter fun p => decide (p ≤ k)) = plc 0 ((hitsI ss cs rs).take k) := by
      have := plc_take (hitsI ss cs rs) 0 k
      rw [Nat.sub_zero] at this
      exact this
    have gl2 : (plc 0 ((hitsI ss cs rs).take k)).length ≤ 7 := Nat.le_trans (plc_len _ 0) (by rw [List.length_take]; omega)
    rw [gf]
    have gp : ∀ p ∈ plc 0 ((hitsI ss cs rs).take k), 0 < p ∧ p < 2 ^ 4 := fun p hp => by have := plc_lt _ _ p hp; rw [List.length_take] at this; omega
    obtain ⟨w, lo, q0, b⟩ := gP_loop H (n + 1) h 5 (by decide) [some (.d (.tuple (sD ss))), some (.d (.tuple (iD cs))), some (.d (.tuple (sD rs))), some (.d (meD (.share k))), some (.d (.list (nD ps))), none, some (.d (.list (nD (plc 0 ((hitsI ss cs rs).take k))))), none, none, some (.d (.dict (dictOf ((sD ss).zip (iD cs))))), some (.d (.str (Str.ofString "share"))), none] (by simp) (by simp) (plc 0 ((hitsI ss cs rs).take k)) 1 0 none gp Rat.le_refl Bd_zero (by omega)
    simp only [List.set_cons_succ, List.set_cons_zero, Rat.zero_add] at lo q0 b
    rw [xb_for (xs := nD (plc 0 ((hitsI ss cs rs).take k))) (h1 := h) (by rfl), lo, rs_ok, kont_nx, xb_asg (v := .d (fr 0)) (h1 := h) (by rfl)]
    simp only [List.set_cons_succ, List.set_cons_zero]
    obtain ⟨w2, lo2, q02, bb2⟩ := gP_loop H (n + 1) h 8 (by decide) [some (.d (.tuple (sD ss))), some (.d (.tuple (iD cs))), some (.d (.tuple (sD rs))), some (.d (meD (.share k))), some (.d (.list (nD ps))), some (.d (fr (gP (plc 0 ((hitsI ss cs rs).take k))))), some (.d (.list (nD (plc 0 ((hitsI ss cs rs).take k))))), none, none, some (.d (.dict (dictOf ((sD ss).zip (iD cs))))), some (.d (.str (Str.ofString "share"))), none] (by simp) (by simp) (oneTo (min k r)) 1 0 w (fun p hp => by unfold oneTo at hp; rw [List.mem_range'_1] at hp; omega) Rat.le_refl Bd_zero (by unfold oneTo; rw [List.length_range']; omega)
    simp only [List.set_cons_succ, List.set_cons_zero, Rat.zero_add] at lo2 q02 bb2
    rw [xb_for (xs := nD (oneTo (min k r))) (h1 := h) (by
      have e := rng2_ev (Γ := run T (n + 3)) (σ := [some (.d (.tuple (sD ss))), some (.d (.tuple (iD cs))), some (.d (.tuple (sD rs))), some (.d (meD (.share k))), some (.d (.list (nD ps))), some (.d (fr (gP (plc 0 ((hitsI ss cs rs).take k))))), some (.d (.list (nD (plc 0 ((hitsI ss cs rs).take k))))), w, some (.d (fr 0)), some (.d (.dict (dictOf ((sD ss).zip (iD cs))))), some (.d (.str (Str.ofString "share"))), none]) (h := h) (a := .lit (.int 1)) (b := .bin .add (.min2 (.ix (.var 3) (.lit (.int 1))) (.blt .sum (.var 1))) (.lit (.int 1))) (i := 1) (j := ((min k r : Nat) : Int) + 1) rfl (by
        have at1 : atI ([.str (Str.ofString "share"), .int (k : Nat)] : List PyData) 1 = some (.int (k : Nat)) := rfl
        simp only [ev_5, ev_19, ev_15, ev_18, ev_0, ev_2, dat_int, List.getElem?_cons_succ, List.getElem?_cons_zero, rs_ok, val_d, Option.bind_some, meD, ix_T, at1, hs0, Option.map_some, ofO_some, mini_eq, bin_addI]) (by omega) (by omega) (by omega) (by omega)
      rw [show (((min k r : Nat) : Int) + 1 - 1).toNat = min k r by omega, show (1 : Int) = ((1 : Nat) : Int) from rfl, range_nD] at e
      exact e), lo2, rs_ok, kont_nx]
    rw [xb_ret (v := .d (fr (valQ (hitsI ss cs rs) r (.share k)))) (h1 := h)]
    · exact fin_rt
    · rw [ev_ifF (u := .d (.bool false)) (h1 := h) (ev_k10 (a := "share") rfl (by decide +kernel)) rfl]
      show _ = Rs.ok (PV.d (fr (gainQ 0 ((hitsI ss cs rs).take k) / gainQ 0 (List.replicate (min k r) 1)))) h
      rw [← gP_eq _ 0 (h01.take k), ← gP_one]
      have b1 := b.mono (show 1 + 5 * (plc 0 ((hitsI ss cs rs).take k)).length ≤ 100 by omega)
      have b2 := bb2.mono (show 1 + 5 * (oneTo (min k r)).length ≤ 100 by unfold oneTo; rw [List.length_range']; omega)
      generalize gP (plc 0 ((hitsI ss cs rs).take k)) = x at b1 q0
      generalize gP (oneTo (min k r)) = y at b2 q02
      have xn : 0 ≤ x.num := Rat.num_nonneg.mpr q0
      have yn : 0 ≤ y.num := Rat.num_nonneg.mpr q02
      have m1 := mul_ok (a := x.num) (b := (y.den : Int)) (lt8 b1.1 (by decide)) (lt8 (k := 100) (by rw [Int.natAbs_natCast]; exact b2.2) (by decide))
      have m2 := mul_ok (a := (x.den : Int)) (b := y.num) (lt8 (k := 100) (by rw [Int.natAbs_natCast]; exact b1.2) (by decide)) (lt8 b2.1 (by decide))
      have l0 := frac_ok H.frac (n + 2) h (x.num.toNat * y.den) (x.den * y.num.toNat) (lt8 (mul_lt_pow b1.2 (show y.num.toNat < 2 ^ 100 by have := b2.1; omega)) (by decide))
      rw [Int.natCast_mul, Int.natCast_mul, show ((x.num.toNat : Nat) : Int) = x.num by omega, show ((y.num.toNat : Nat) : Int) = y.num by omega, mk_divq q02] at l0
      unfold fr at l0 ⊢
      simp [m1, m2, l0]
end
end J
end JLval2

section JSym
set_option Elab.async false
set_option linter.all false
set_option maxRecDepth 100000
set_option autoImplicit false
set_option maxHeartbeats 8000000
/-! J.Sym: walking by simp; summaries over the one table. -/
namespace J
open PySem
section
variable {α β γ : Type}
/-- a comprehension that only maps -/
theorem bind_comp (i : α → D) (g : α → Option D) {f : D → PH → Rs (Option D)} {h : PH} {K : List D → PH → Rs β} {r : Rs β} (xs : List α) (hf : ∀ x ∈ xs, f (i x) h = .ok (g x) h) (hk : K (xs.filterMap g) h = r) : (compL f (xs.map i) h).bind K = r := by
  rw [compL_pure f i g h xs hf]; exact hk
theorem bind_map (i : α → D) (g : α → D) {f : D → PH → Rs (Option D)} {h : PH} {K : List D → PH → Rs β} {r : Rs β} (xs : List α) (hf : ∀ x ∈ xs, f (i x) h = .ok (some (g x)) h) (hk : K (xs.map g) h = r) : (compL f (xs.map i) h).bind K = r := by
  rw [comp_map f i g h xs hf]; exact hk
theorem bind_comp2 (i : α → D) (g : α → List D) {f : D → PH → Rs (List D)} {h : PH} {K : List D → PH → Rs β} {r : Rs β} (xs : List α) (hf : ∀ x ∈ xs, f (i x) h = .ok (g x) h) (hk : K (xs.flatMap g) h = r) : (compLL f (xs.map i) h).bind K = r := by
  rw [compLL_pure f i g h xs hf]; exact hk
/-- a loop without return, by what stands behind each prefix -/
theorem for_pre (i : α → D) (I : List α → PEnv → Prop) {f : D → PEnv → PH → Rs Fl} {h : PH} : ∀ (xs pre : List α) (σ : PEnv), I pre σ → (∀ p x q σ, xs = p ++ x :: q → I (pre ++ p) σ → ∃ σ', f (i x) σ h = .ok (.nx σ') h ∧ I (pre ++ p ++ [x]) σ') → ∃ σ', forL f (xs.map i) σ h = .ok (.nx σ') h ∧ I (pre ++ xs) σ'
  | [], pre, σ, h0, _ => ⟨σ, rfl, by simpa using h0⟩
  | x :: xs, pre, σ, h0, st => by
    obtain ⟨σ1, e1, I1⟩ := st [] x xs σ rfl (by simpa using h0)
    obtain ⟨σ2, e2, I2⟩ := for_pre i I xs (pre ++ [x]) σ1 (by simpa using I1) fun p y q σ e I => by
      obtain ⟨σ', a, b⟩ := st (x :: p) y q σ (by rw [e]; rfl) (by simpa using I)
      exact ⟨σ', a, by simpa using b⟩
    exact ⟨σ2, by rw [List.map_cons, forL_cons f _ _ e1, e2], by simpa using I2⟩
theorem bind_for (i : α → D) (I : List α → PEnv → Prop) {f : D → PEnv → PH → Rs Fl} {h : PH} {K : Fl → PH → Rs β} {r : Rs β} (xs : List α) {σ : PEnv} (h0 : I [] σ) (hs : ∀ p x q σ, xs = p ++ x :: q → I p σ → ∃ σ', f (i x) σ h = .ok (.nx σ') h ∧ I (p ++ [x]) σ') (hk : ∀ σ', I xs σ' → K (.nx σ') h = r) : (forL f (xs.map i) σ h).bind K = r := by
  obtain ⟨σ', e, I'⟩ := for_pre i I xs [] σ h0 (by simpa using hs)
  rw [e]
  exact hk σ' (by simpa using I')
/-- a loop that returns at the first x with q x -/
theorem bind_find (i : α → D) (q : α → Bool) (w : α → PV) (I : PEnv → Prop) {f : D → PEnv → PH → Rs Fl} {h : PH} {K : Fl → PH → Rs β} {r : Rs β} : ∀ (xs : List α) {σ : PEnv} (h0 : I σ) (hs : ∀ x ∈ xs, ∀ σ, I σ → q x = false → ∃ σ', f (i x) σ h = .ok (.nx σ') h ∧ I σ') (ht : ∀ x ∈ xs, ∀ σ, I σ → q x = true → f (i x) σ h = .ok (.rt (w x)) h) (hk : ∀ σ', I σ' → xs.find? q = none → K (.nx σ') h = r) (hr : ∀ x, xs.find? q = some x → K (.rt (w x)) h = r), (forL f (xs.map i) σ h).bind K = r
  | [], σ, h0, _, _, hk, _ => hk σ h0 rfl
  | x :: xs, σ, h0, hs, ht, hk, hr => by
    cases e : q x with
    | true =>
      rw [List.map_cons, forL, ht x List.mem_cons_self σ h0 e]
      exact hr x (by simp [e])
    | false =>
      obtain ⟨σ', e1, I1⟩ := hs x List.mem_cons_self σ h0 e
      rw [List.map_cons, forL_cons f _ _ e1]
      exact bind_find i q w I xs I1 (fun y hy => hs y (List.mem_cons_of_mem _ hy)) (fun y hy => ht y (List.mem_cons_of_mem _ hy)) (fun σ' I' e' => hk σ' I' (by simp [e, e'])) (fun y e' => hr y (by simp [e, e']))
end
section
variable {Γ : Fns} {a b r : CB} {σ : PEnv} {h : PH} {t : Tg} {it it1 : CI} {c e c1 : CE}
@[simp high] theorem rs_ok_ {α β : Type} (a : α) (h : PH) (f : α → PH → Rs β) : (Rs.ok a h).bind f = f a h := (rfl)
@[simp high] theorem rs_exc_ {α β : Type} (c : String) (h : PH) (f : α → PH → Rs β) : (Rs.exc c h : Rs α).bind f = .exc c h := (rfl)
@[simp high] theorem kont_nx_ : kont Γ r (.nx σ) h = exB Γ r σ h := (rfl)
@[simp high] theorem kont_rt_ {v : PV} : kont Γ r (.rt v) h = .ok (.rt v) h := (rfl)
def iteK (Γ : Fns) (a b : CB) (σ : PEnv) (k : Bool) (h : PH) : Rs Fl := match k with
  | true => exB Γ a σ h
  | false => exB Γ b σ h
@[simp] theorem iteK_t : iteK Γ a b σ true h = exB Γ a σ h := (rfl)
@[simp] theorem iteK_f : iteK Γ a b σ false h = exB Γ b σ h := (rfl)
def tstK (x : PV) (h : PH) : Rs Bool := ofO ((val h x).bind truD) h
@[simp] theorem tstK_eq (x : PV) : tstK x h = ofO ((val h x).bind truD) h := (rfl)
def forF (Γ : Fns) (t : Tg) (b : CB) (x : D) (σ : PEnv) (h : PH) : Rs Fl := (ofO (assignD t x σ) h).bind (exB Γ b)
def forK (Γ : Fns) (t : Tg) (b : CB) (σ : PEnv) (xs : List D) (h : PH) : Rs Fl := forL (forF Γ t b) xs σ h
@[simp] theorem forK_eq (xs : List D) : forK Γ t b σ xs h = forL (forF Γ t b) xs σ h := (rfl)
def whC (Γ : Fns) (c : CE) (σ : PEnv) (h : PH) : Rs Bool := (ev Γ c σ h).bind tstK
def lcF (Γ : Fns) (t : Tg) (own : List Nat) (c e : CE) (σ : PEnv) (x : D) (h : PH) : Rs (Option D) := compF t own (ev Γ c) (ev Γ e) σ x h
def lcR (r : List D) (h : PH) : Rs PV := .ok (.d (.list r)) h
@[simp] theorem lcR_eq (r : List D) : lcR r h = .ok (.d (.list r)) h := (rfl)
def lcK (Γ : Fns) (t : Tg) (own : List Nat) (c e : CE) (σ : PEnv) (xs : List D) (h : PH) : Rs PV := if xs.length ≤ lineN then (compL (lcF Γ t own c e σ) xs h).bind lcR else .stuck
theorem lcK_ok {own : List Nat} {xs : List D} (hl : xs.length ≤ 4000) : lcK Γ t own c e σ xs h = (compL (lcF Γ t own c e σ) xs h).bind lcR := if_pos (by unfold lineN; omega)
def lc2F (Γ : Fns) (t : Tg) (own : List Nat) (c : CE) (it1 : CI) (t1 : Tg) (own1 : List Nat) (c1 e : CE) (σ : PEnv) (x : D) (h : PH) : Rs (List D) := compF2 t own (ev Γ c) (evI Γ it1) (lcF Γ t1 own1 c1 e) σ x h
def lc2R (r : List D) (h : PH) : Rs PV := if r.length ≤ lineN then .ok (.d (.list r)) h else .stuck
theorem lc2R_ok {r : List D} (hl : r.length ≤ 4000) : lc2R r h = .ok (.d (.list r)) h := if_pos (by unfold lineN; omega)
def lc2K (Γ : Fns) (t : Tg) (own : List Nat) (c : CE) (it1 : CI) (t1 : Tg) (own1 : List Nat) (c1 e : CE) (σ : PEnv) (xs : List D) (h : PH) : Rs PV := (compLL (lc2F Γ t own c it1 t1 own1 c1 e σ) xs h).bind lc2R
@[simp] theorem lc2K_eq {own : List Nat} {t1 : Tg} {own1 : List Nat} (xs : List D) : lc2K Γ t own c it1 t1 own1 c1 e σ xs h = (compLL (lc2F Γ t own c it1 t1 own1 c1 e σ) xs h).bind lc2R := rfl
@[simp high] theorem xs_cons {s : CS} : exB Γ (.cons s r) σ h = (ex Γ s σ h).bind (kont Γ r) := xb_cons
@[simp high] theorem xs_ite : ex Γ (.ite c a b) σ h = ((ev Γ c σ h).bind tstK).bind (iteK Γ a b σ) := by
  rw [ex_9]
  cases ev Γ c σ h with
  | ok x h1 => simp only [rs_ok, tstK]; cases ofO ((val h1 x).bind truD) h1 <;> simp only [rs_ok, rs_exc, rs_stuck]; rename_i k _; cases k <;> rfl
  | exc c h1 => simp only [rs_exc]
  | stuck => simp only [rs_stuck]
@[simp high] theorem xs_for : ex Γ (.for_ it t b) σ h = (evI Γ it σ h).bind (forK Γ t b σ) := by rw [ex_10]; rfl
@[simp high] theorem xs_whl : ex Γ (.whl c b) σ h = whlL (whC Γ c) (exB Γ b) whlMost σ h := by rw [ex_11]; rfl
@[simp high] theorem xs_lc {own : List Nat} : ev Γ (.lc it t c e own) σ h = (evI Γ it σ h).bind (lcK Γ t own c e σ) := by rw [ev_24]; rfl
@[simp high] theorem xs_lc2 {own own1 : List Nat} {t1 : Tg} : ev Γ (.lc2 it t c it1 t1 c1 e own own1) σ h = (evI Γ it σ h).bind (lc2K Γ t own c it1 t1 own1 c1 e σ) := by rw [ev_25]; rfl
end
/-! ### what is drawn -/
structure Cn (ss : List Str) : Prop where
  ok : collB ss = true
  sm : ∀ s ∈ ss, s.length ≤ lineN
  nd : ss.Nodup
  len : ss.length ≤ 7
  pos : 0 < ss.length
  so : ∀ s ∈ ss, PyData.strOk s = true
  mem : ∀ s ∈ ss, s ∈ names8
  asc : ss.Pairwise leS
structure Rk (ss rs : List Str) : Prop where
  nr : rs.Nodup
  sub : ∀ r ∈ rs, r ∈ ss
structure Fu (ss : List Str) (cs : List Int) : Prop where
  cl : ss.length = cs.length
  c01 : B01 cs
structure En (ss : List Str) (es : List (Option Int)) : Prop where
  el : ss.length = es.length
  e01 : E01 es
theorem nm_strOk : ∀ s ∈ names8, PyData.strOk s = true := by decide +kernel
theorem Coll.cn {most : Int} {ss : List Str} (C : Coll most ss) (hm : most ≤ 7) : Cn ss := ⟨C.ok hm, C.small, C.nd, by have := C.len; omega, C.pos, fun s hs => nm_strOk s (C.mem s hs), C.mem, C.asc⟩
theorem drn {ss rs : List Str} {cs : List Int} (C : Cn ss) (R : Rk ss rs) (F : Fu ss cs) : Drn ss rs cs := ⟨C.ok, C.sm, C.nd, C.len, F.cl, F.c01, R.nr, R.sub⟩
theorem Rk.len {ss rs : List Str} (R : Rk ss rs) (C : Cn ss) : rs.length ≤ 7 := Nat.le_trans (len_sub R.nr R.sub) C.len
theorem Rk.nil {ss : List Str} : Rk ss [] := ⟨List.nodup_nil, fun r hr => nomatch hr⟩
/-! ### summaries -/
theorem uQ : HQ U := ⟨rfl, rfl, rfl, rfl, rfl, rfl, rfl⟩
theorem uN : HN U := { int := rfl, doc := rfl, asc := rfl, col := rfl, rcol := rfl, jud := rfl, rjud := rfl, low := rfl, add := rfl, hits := rfl, gain := rfl, avg := rfl, val := rfl, vrank := rfl, rrank := rfl, ism := rfl, rmeas := rfl, rcomp := rfl, rel := rfl, bval := rfl, below := rfl, allr := rfl }
theorem uD : HD U := ⟨rfl, rfl, rfl, rfl⟩
theorem uL : HL U := ⟨rfl, rfl, rfl⟩
section
variable {n : Nat} {h : PH} {ss rs : List Str} {cs : List Int} {es : List (Option Int)} {m : Me} {x : D}
/-- small data (tuples are short) -/
def sml (x : D) : Prop := ∀ us, x = .tuple us → us.length < 4000
theorem sml_int (i : Int) : sml (.int i) := fun _ e => nomatch e
theorem U_rcol (hn : 4 ≤ n) (C : Cn ss) : run U n "require_collection" [.d (.tuple (sD ss))] h = .ok (.d .none) h := by
  obtain ⟨k, rfl⟩ := Nat.exists_eq_add_of_le' hn
  have := require_ok (T := U) rfl rfl rfl rfl (k + 1) h ss C.sm
  rw [C.ok] at this
  exact this
theorem U_rjud (hn : 4 ≤ n) (C : Cn ss) (hx : sml x) : run U n "require_judgements" [.d (.tuple (sD ss)), .d x] h = if judB ss.length x then .ok (.d .none) h else .exc "InvalidJudgements" h := by
  obtain ⟨k, rfl⟩ := Nat.exists_eq_add_of_le' hn
  rw [rjud_ok uQ k h ss C.sm x (fun us e => by have := hx us e; unfold lineN; omega), C.ok, if_pos rfl]
theorem U_rrank (hn : 2 ≤ n) (hx : sml x) : run U n "require_ranking" [.d (.tuple (sD ss)), .d x] h = if rankB ss x then .ok (.d .none) h else .exc "InvalidRanking" h := by
  obtain ⟨k, rfl⟩ := Nat.exists_eq_add_of_le' hn
  exact rrank_ok rfl rfl k h ss x hx
theorem U_vrank (hn : 1 ≤ n) (hx : sml x) : run U n "is_valid_ranking" [.d (.tuple (sD ss)), .d x] h = .ok (.d (.bool (rankB ss x))) h := by
  obtain ⟨k, rfl⟩ := Nat.exists_eq_add_of_le' hn
  exact vrank_ok rfl k h ss x hx
theorem U_rmeas (hn : 3 ≤ n) : run U n "require_measure" [.d x] h = if isM x then .ok (.d .none) h else .exc "InvalidMeasure" h := by
  obtain ⟨k, rfl⟩ := Nat.exists_eq_add_of_le' hn
  exact rmeas_ok rfl rfl rfl k h x
theorem U_rcomp (hn : 1 ≤ n) {us : List D} (hf : us.all flatD = true) : run U n "require_complete" [.d (.tuple us)] h = if us.any (fun u => PyData.eqv u .none) then .exc "Incomplete" h else .ok (.d .none) h := by
  obtain ⟨k, rfl⟩ := Nat.exists_eq_add_of_le' hn
  exact rcomp_ok rfl k h us hf
theorem judB_es (E : En ss es) : judB ss.length (.tuple (eD es)) = true := by
  simp only [judB, eD_len, E.el, beq_self_eq_true, Bool.true_and]
  refine List.all_eq_true.mpr fun u hu => ?_
  obtain ⟨e, he, rfl⟩ := List.mem_map.mp hu
  rcases E.e01 e he with rfl | rfl | rfl <;> rfl
theorem sml_es (C : Cn ss) (E : En ss es) : sml (.tuple (eD es)) := fun us e => by cases e; rw [eD_len]; have := E.el; have := C.len; omega
theorem sml_cs (C : Cn ss) (F : Fu ss cs) : sml (.tuple (iD cs)) := fun us e => by cases e; rw [iD_len]; have := F.cl; have := C.len; omega
theorem sml_rs (C : Cn ss) (R : Rk ss rs) : sml (.tuple (sD rs)) := fun us e => by cases e; rw [List.length_map]; have := R.len C; omega
theorem U_rjud_e (hn : 4 ≤ n) (C : Cn ss) (E : En ss es) : run U n "require_judgements" [.d (.tuple (sD ss)), .d (.tuple (eD es))] h = .ok (.d .none) h := by
  rw [U_rjud hn C (sml_es C E), judB_es E]; rfl
theorem U_rjud_c (hn : 4 ≤ n) (C : Cn ss) (F : Fu ss cs) : run U n "require_judgements" [.d (.tuple (sD ss)), .d (.tuple (iD cs))] h = .ok (.d .none) h := by
  rw [U_rjud hn C (sml_cs C F), judB_ints F.cl F.c01]; rfl
theorem U_rrank_r (hn : 2 ≤ n) (C : Cn ss) (R : Rk ss rs) : run U n "require_ranking" [.d (.tuple (sD ss)), .d (.tuple (sD rs))] h = .ok (.d .none) h := by
  rw [U_rrank hn (sml_rs C R), rankB_ok R.nr R.sub]; rfl
theorem U_rmeas_m (hn : 3 ≤ n) (hm : m.ok) : run U n "require_measure" [.d (meD m)] h = .ok (.d .none) h := by
  rw [U_rmeas hn, isM_me m hm]; rfl
theorem U_rcomp_c (hn : 1 ≤ n) : run U n "require_complete" [.d (.tuple (iD cs))] h = .ok (.d .none) h := by
  rw [U_rcomp hn (flat_ints cs), none_ints]; rfl
theorem U_value_of (hn : 4 ≤ n) (C : Cn ss) (R : Rk ss rs) (F : Fu ss cs) (hm : m.ok) : run U n "value_of" [.d (.tuple (sD ss)), .d (.tuple (iD cs)), .d (.tuple (sD rs)), .d (meD m)] h = .ok (.d (fr (vQ ss cs rs m))) h := by
  obtain ⟨k, rfl⟩ := Nat.exists_eq_add_of_le' hn
  exact (drn C R F).value_of uN.toHV k h m hm
theorem U_value (hn : 5 ≤ n) (C : Cn ss) (R : Rk ss rs) (F : Fu ss cs) (hm : m.ok) : run U n "value" [.d (.tuple (sD ss)), .d (.tuple (iD cs)), .d (.tuple (sD rs)), .d (meD m)] h = .ok (.d (fr (vQ ss cs rs m))) h := by
  obtain ⟨k, rfl⟩ := Nat.exists_eq_add_of_le' hn
  exact (drn C R F).value uN.toHB rfl k h m hm
theorem U_best_value (hn : 5 ≤ n) (C : Cn ss) (F : Fu ss cs) (hm : m.ok) : run U n "best_value" [.d (.tuple (sD ss)), .d (.tuple (iD cs)), .d (meD m)] h = .ok (.d (fr (bQ ss cs m))) h := by
  obtain ⟨k, rfl⟩ := Nat.exists_eq_add_of_le' hn
  exact (drn C .nil F).best_value uN.toHB2 k h m hm
theorem U_is_best (hn : 6 ≤ n) (C : Cn ss) (R : Rk ss rs) (F : Fu ss cs) (hm : m.ok) : run U n "is_best" [.d (.tuple (sD ss)), .d (.tuple (iD cs)), .d (.tuple (sD rs)), .d (meD m)] h = .ok (.d (.bool (decide (vQ ss cs rs m = bQ ss cs m)))) h := by
  obtain ⟨k, rfl⟩ := Nat.exists_eq_add_of_le' hn
  exact (drn C R F).is_best uN.toHB2 rfl k h m hm
theorem U_best_ranking (hn : 5 ≤ n) (C : Cn ss) (F : Fu ss cs) : run U n "best_ranking" [.d (.tuple (sD ss)), .d (.tuple (iD cs))] h = .ok (.d (.tuple (sD (relF ss cs)))) h := by
  obtain ⟨k, rfl⟩ := Nat.exists_eq_add_of_le' hn
  exact (drn C .nil F).best_ranking uN.toHB2 rfl k h
theorem U_lval (hn : 4 ≤ n) (C : Cn ss) (R : Rk ss rs) (F : Fu ss cs) (hm : m.ok) : run U n "_law_value" [.d (.tuple (sD ss)), .d (.tuple (iD cs)), .d (.tuple (sD rs)), .d (meD m)] h = .ok (.d (fr (vQ ss cs rs m))) h := by
  obtain ⟨k, rfl⟩ := Nat.exists_eq_add_of_le' hn
  exact (drn C R F).lval uL k h m hm
theorem U_naive_avg (hn : 5 ≤ n) (C : Cn ss) (R : Rk ss rs) (F : Fu ss cs) : run U n "naive_average" [.d (.tuple (sD ss)), .d (.tuple (iD cs)), .d (.tuple (sD rs))] h = .ok (.d (fr (vQ ss cs rs .avg))) h := by
  obtain ⟨k, rfl⟩ := Nat.exists_eq_add_of_le' hn
  exact (drn C R F).naive_avg uN.toHB rfl C.so k h
theorem U_naive_best (hn : 5 ≤ n) (C : Cn ss) (h5 : ss.length ≤ 5) (F : Fu ss cs) (hm : m.ok) : run U n "naive_best_value" [.d (.tuple (sD ss)), .d (.tuple (iD cs)), .d (meD m)] h = .ok (.d (fr (bQ ss cs m))) h := by
  obtain ⟨k, rfl⟩ := Nat.exists_eq_add_of_le' hn
  exact (drn C .nil F).naive_best uN rfl h5 k h m hm
theorem U_all_completions (hn : 1 ≤ n) (C : Cn ss) (E : En ss es) : run U n "all_completions" [.d (.tuple (eD es))] h = .ok (.d (.list (rD (comps es)))) h := by
  obtain ⟨k, rfl⟩ := Nat.exists_eq_add_of_le' hn
  exact compl_ok rfl k h es (by have := E.el; have := C.len; omega)
theorem U_lall (hn : 1 ≤ n) (C : Cn ss) (E : En ss es) : run U n "_law_all" [.d (.tuple (eD es))] h = .ok (.d (.list (rD (comps es)))) h := by
  obtain ⟨k, rfl⟩ := Nat.exists_eq_add_of_le' hn
  exact lall_ok rfl k h es (by have := E.el; have := C.len; omega)
theorem U_open (hn : 1 ≤ n) (C : Cn ss) : run U n "open_documents" [.d (.tuple (sD ss)), .d (.tuple (eD es))] h = .ok (.d (.tuple (sD (openS ss es)))) h := by
  obtain ⟨k, rfl⟩ := Nat.exists_eq_add_of_le' hn
  exact open_ok rfl k h ss es (by have := C.len; omega)
theorem U_below {j k : Nat} {p q : Rat} (hn : 1 ≤ n) (hp : Bd j p) (hq : Bd k q) (hj : j ≤ 8000) (hk : k ≤ 8000) : run U n "is_below" [.d (fr p), .d (fr q)] h = .ok (.d (.bool (decide (p < q)))) h := by
  obtain ⟨i, rfl⟩ := Nat.exists_eq_add_of_le' hn
  exact below_ok rfl i h hp hq hj hk
theorem U_same (hn : 5 ≤ n) (hx : smD 4 x = true) : run U n "_law_same" [.d x, .d x] h = .ok (.d (.bool true)) h := by
  obtain ⟨k, rfl⟩ := Nat.exists_eq_add_of_le' hn
  exact same_refl rfl 4 k h x hx
end
end J
end JSym

section JDr
set_option Elab.async false
set_option linter.all false
set_option maxRecDepth 100000
set_option autoImplicit false
set_option maxHeartbeats 8000000
/-! J.Dr: what a law draws, its state in the only cell. -/
namespace J
open PySem
section
variable {n : Nat} {ns : List Int} {ss : List Str}
theorem dr_draw (hf : 1 ≤ n) (hn : ns.length ≤ 63) (xs : List Int) (hl : xs.length ≤ 1000000) (many : Int) (hm : 0 < many) : ∃ (r : Int) (ys : List Int), run U n "_law_draw" [.d (.list (iD ns)), .cell 0, .d (.int many)] [.lst (iD xs)] = .ok (.d (.int r)) [.lst (iD ys)] ∧ 0 ≤ r ∧ r < many ∧ ys.length ≤ xs.length + 2 := by
  obtain ⟨k, rfl⟩ := Nat.exists_eq_add_of_le' hf
  exact draw_ok uD.draw k ns hn [.lst (iD xs)] 0 xs rfl (by unfold lineN; omega) many hm
theorem dr_pick (hf : 2 ≤ n) (hn : ns.length ≤ 63) (xs : List Int) (hl : xs.length ≤ 1000000) (us : List D) (hu : us ≠ []) : ∃ (y : D) (ys : List Int), run U n "_law_pick" [.d (.list (iD ns)), .cell 0, .d (.list us)] [.lst (iD xs)] = .ok (.d y) [.lst (iD ys)] ∧ y ∈ us ∧ ys.length ≤ xs.length + 2 := by
  obtain ⟨k, rfl⟩ := Nat.exists_eq_add_of_le' hf
  exact pick_ok uD.draw uD.pick k ns hn [.lst (iD xs)] 0 xs rfl (by unfold lineN; omega) us hu
theorem dr_coll (hf : 3 ≤ n) (hn : ns.length ≤ 63) (xs : List Int) (hl : xs.length ≤ 1000000) (most : Int) (h1 : 1 ≤ most) (h7 : most ≤ 7) : ∃ (ss : List Str) (ys : List Int), run U n "_law_collection" [.d (.list (iD ns)), .cell 0, .d (.int most)] [.lst (iD xs)] = .ok (.k (.tuple (sD ss))) [.lst (iD ys)] ∧ Cn ss ∧ (ss.length : Int) ≤ most ∧ ys.length ≤ xs.length + 40 := by
  obtain ⟨k, rfl⟩ := Nat.exists_eq_add_of_le' hf
  obtain ⟨ss, ys, e, C, l⟩ := collection_ok uD.draw uD.shuf uD.coll k ns hn [.lst (iD xs)] 0 xs rfl (by omega) most h1 (by omega)
  exact ⟨ss, ys, e, C.cn h7, C.len, by omega⟩
theorem dr_full (hf : 2 ≤ n) (hn : ns.length ≤ 63) (xs : List Int) (hl : xs.length ≤ 1000000) (C : Cn ss) : ∃ (cs ys : List Int), run U n "_law_full" [.d (.list (iD ns)), .cell 0, .d (.tuple (sD ss))] [.lst (iD xs)] = .ok (.d (.tuple (iD cs))) [.lst (iD ys)] ∧ Fu ss cs ∧ ys.length ≤ xs.length + 40 := by
  obtain ⟨k, rfl⟩ := Nat.exists_eq_add_of_le' hf
  have := C.len
  obtain ⟨cs, ys, e, l, c, b⟩ := full_ok uD rfl k ns hn [.lst (iD xs)] 0 xs rfl ss hl (by omega)
  exact ⟨cs, ys, e, ⟨l.symm, c⟩, by omega⟩
theorem dr_rank (hf : 3 ≤ n) (hn : ns.length ≤ 63) (xs : List Int) (hl : xs.length ≤ 1000000) (C : Cn ss) : ∃ (rs : List Str) (ys : List Int), run U n "_law_ranking" [.d (.list (iD ns)), .cell 0, .d (.tuple (sD ss))] [.lst (iD xs)] = .ok (.d (.tuple (sD rs))) [.lst (iD ys)] ∧ Rk ss rs ∧ ys.length ≤ xs.length + 40 := by
  obtain ⟨k, rfl⟩ := Nat.exists_eq_add_of_le' hf
  have := C.len
  obtain ⟨rs, ys, e, a, c, b⟩ := ranking_ok uD rfl k ns hn [.lst (iD xs)] 0 xs rfl ss C.nd hl (by omega)
  exact ⟨rs, ys, e, ⟨a, c⟩, by omega⟩
theorem dr_meas (hf : 3 ≤ n) (hn : ns.length ≤ 63) (xs : List Int) (hl : xs.length ≤ 1000000) : ∃ (m : Me) (ys : List Int), run U n "_law_measure" [.d (.list (iD ns)), .cell 0] [.lst (iD xs)] = .ok (.d (meD m)) [.lst (iD ys)] ∧ m.ok ∧ ys.length ≤ xs.length + 40 := by
  obtain ⟨k, rfl⟩ := Nat.exists_eq_add_of_le' hf
  obtain ⟨m, ys, e, a, b⟩ := measure_ok uD rfl k ns hn [.lst (iD xs)] 0 xs rfl hl
  exact ⟨m, ys, e, a, by omega⟩
theorem dr_ents (hf : 3 ≤ n) (hn : ns.length ≤ 63) (xs : List Int) (hl : xs.length ≤ 1000000) (C : Cn ss) : ∃ (es : List (Option Int)) (ys : List Int), run U n "_law_entries" [.d (.list (iD ns)), .cell 0, .d (.tuple (sD ss))] [.lst (iD xs)] = .ok (.d (.tuple (eD es))) [.lst (iD ys)] ∧ En ss es ∧ ys.length ≤ xs.length + 40 := by
  obtain ⟨k, rfl⟩ := Nat.exists_eq_add_of_le' hf
  have := C.len
  obtain ⟨es, ys, e, a, c, b⟩ := entries_ok uD rfl k ns hn [.lst (iD xs)] 0 xs rfl ss hl (by omega)
  exact ⟨es, ys, e, ⟨a.symm, c⟩, by omega⟩
end
/-! ### a law's frame: the state, a loop, true -/
def bHd : CB → CS
  | .cons s _ => s
  | .nil => .pass
def bDp : Nat → CB → CB
  | n + 1, .cons _ r => bDp n r
  | _, b => b
def forB : CS → CB
  | .for_ _ _ b => b
  | _ => .nil
/-- the names at a turn's start: the script, the state; the others of any value -/
def Fr (ns : List Int) (w : Nat) (j : Nat) (σ : PEnv) (h : PH) : Prop := ∃ (vs : List (Option PV)) (xs : List Int), vs.length = w ∧ σ = some (.d (.list (iD ns))) :: some (.cell 0) :: vs ∧ h = [.lst (iD xs)] ∧ xs.length ≤ 1000 * j
theorem frame {Γ : Fns} {b : CB} {w : Nat} {k : Nat} (ns : List Int) (q : Int) (hq : q = k) (hk : k ≤ 100) (step : ∀ j : Nat, j < 100 → ∀ (x : D) (σ : PEnv) (h : PH), x = .int (j : Int) → Fr ns w j σ h → ∃ σ' h', ((ofO (assignD (.nm 2) x σ) h).bind fun σ' h => exB (Γ) b σ' h) = .ok (.nx σ') h' ∧ Fr ns w (j + 1) σ' h') {r : CB} (rest : ∀ σ h, Fr ns w k σ h → exB (Γ) r σ h = .ok (.rt (.d (.bool true))) h) :
    ∃ h', finish 0 (exB (Γ) (.cons (.asgC 1 (.lst .nil)) (.cons (.for_ (.rng (.lit (.int q))) (.nm 2) b) r)) (some (.d (.list (iD ns))) :: none :: List.replicate w none) []) = .ok (.d (.bool true)) h' := by
  subst hq
  rw [xb_asgC (xs := []) (h1 := []) (by rfl)]
  simp only [List.set_cons_succ, List.set_cons_zero, List.nil_append, List.length_nil]
  rw [xb_for (xs := rangeD 0 k) (h1 := [.lst []]) (rng1_ev (by rfl) (by omega))]
  have go : ∀ (m j : Nat) (σ : PEnv) (h : PH), j + m ≤ 100 → Fr ns w j σ h → ∃ σ' h', forL (fun x σ h => (ofO (assignD (.nm 2) x σ) h).bind fun σ' h => exB (Γ) b σ' h) (rangeD (j : Int) m) σ h = .ok (.nx σ') h' ∧ Fr ns w (j + m) σ' h' := by
    intro m
    induction m with
    | zero => exact fun j σ h _ I => ⟨σ, h, rfl, I⟩
    | succ m ih =>
      intro j σ h hj I
      obtain ⟨σ1, h1, e1, I1⟩ := step j (by omega) (.int j) σ h rfl I
      obtain ⟨σ2, h2, e2, I2⟩ := ih (j + 1) σ1 h1 (by omega) I1
      refine ⟨σ2, h2, ?_, by rw [show j + (m + 1) = j + 1 + m by omega]; exact I2⟩
      rw [rangeD, forL_cons _ _ _ e1]
      exact e2
  obtain ⟨σ', h', e, I⟩ := go k 0 (some (.d (.list (iD ns))) :: some (.cell 0) :: List.replicate w none) [.lst []] (by omega) ⟨List.replicate w none, [], by simp, rfl, rfl, by simp⟩
  rw [show ((0 : Nat) : Int) = 0 from rfl] at e
  rw [e, rs_ok, kont_nx, rest σ' h' (by simpa using I)]
  exact ⟨_, rfl⟩
end J
end JDr

section JUn
set_option Elab.async false
set_option linter.all false
set_option maxRecDepth 100000
set_option autoImplicit false
set_option maxHeartbeats 8000000
/-! J.Un: each shared def, unfolded once (printed by mkun.py). -/
namespace J
open PySem

theorem u_is_collection (n : Nat) (a0 : PV) (h : PH) : run U (n + 1) "is_collection" [a0] h = finish h.length (exB (run U n) c_is_collection.c.body [some a0, none] h) := run_eq (c := c_is_collection.c) (by kernel_rfl) _ _ _ rfl
theorem u_require_collection (n : Nat) (a0 : PV) (h : PH) : run U (n + 1) "require_collection" [a0] h = finish h.length (exB (run U n) c_require_collection.c.body [some a0] h) := run_eq (c := c_require_collection.c) (by kernel_rfl) _ _ _ rfl
theorem u_require_judgements (n : Nat) (a0 a1 : PV) (h : PH) : run U (n + 1) "require_judgements" [a0, a1] h = finish h.length (exB (run U n) c_require_judgements.c.body [some a0, some a1] h) := run_eq (c := c_require_judgements.c) (by kernel_rfl) _ _ _ rfl
theorem u_completions (n : Nat) (a0 a1 : PV) (h : PH) : run U (n + 1) "completions" [a0, a1] h = finish h.length (exB (run U n) c_completions.c.body [some a0, some a1] h) := run_eq (c := c_completions.c) (by kernel_rfl) _ _ _ rfl
theorem u_unjudged (n : Nat) (a0 a1 : PV) (h : PH) : run U (n + 1) "unjudged" [a0, a1] h = finish h.length (exB (run U n) c_unjudged.c.body [some a0, some a1] h) := run_eq (c := c_unjudged.c) (by kernel_rfl) _ _ _ rfl
theorem u_value (n : Nat) (a0 a1 a2 a3 : PV) (h : PH) : run U (n + 1) "value" [a0, a1, a2, a3] h = finish h.length (exB (run U n) c_value.c.body [some a0, some a1, some a2, some a3] h) := run_eq (c := c_value.c) (by kernel_rfl) _ _ _ rfl
theorem u__law_below (n : Nat) (a0 a1 : PV) (h : PH) : run U (n + 1) "_law_below" [a0, a1] h = finish h.length (exB (run U n) c__law_below.c.body [some a0, some a1] h) := run_eq (c := c__law_below.c) (by kernel_rfl) _ _ _ rfl
theorem u_values_of (n : Nat) (a0 a1 a2 a3 : PV) (h : PH) : run U (n + 1) "values_of" [a0, a1, a2, a3] h = finish h.length (exB (run U n) c_values_of.c.body [some a0, some a1, some a2, some a3, none] h) := run_eq (c := c_values_of.c) (by kernel_rfl) _ _ _ rfl
theorem u_lowest (n : Nat) (a0 : PV) (h : PH) : run U (n + 1) "lowest" [a0] h = finish h.length (exB (run U n) c_lowest.c.body [some a0, none, none] h) := run_eq (c := c_lowest.c) (by kernel_rfl) _ _ _ rfl
theorem u_highest (n : Nat) (a0 : PV) (h : PH) : run U (n + 1) "highest" [a0] h = finish h.length (exB (run U n) c_highest.c.body [some a0, none, none] h) := run_eq (c := c_highest.c) (by kernel_rfl) _ _ _ rfl
theorem u_checked_values (n : Nat) (a0 a1 a2 a3 : PV) (h : PH) : run U (n + 1) "checked_values" [a0, a1, a2, a3] h = finish h.length (exB (run U n) c_checked_values.c.body [some a0, some a1, some a2, some a3] h) := run_eq (c := c_checked_values.c) (by kernel_rfl) _ _ _ rfl
theorem u_least (n : Nat) (a0 a1 a2 a3 : PV) (h : PH) : run U (n + 1) "least" [a0, a1, a2, a3] h = finish h.length (exB (run U n) c_least.c.body [some a0, some a1, some a2, some a3] h) := run_eq (c := c_least.c) (by kernel_rfl) _ _ _ rfl
theorem u_greatest (n : Nat) (a0 a1 a2 a3 : PV) (h : PH) : run U (n + 1) "greatest" [a0, a1, a2, a3] h = finish h.length (exB (run U n) c_greatest.c.body [some a0, some a1, some a2, some a3] h) := run_eq (c := c_greatest.c) (by kernel_rfl) _ _ _ rfl
theorem u_least_completion (n : Nat) (a0 a1 a2 a3 : PV) (h : PH) : run U (n + 1) "least_completion" [a0, a1, a2, a3] h = finish h.length (exB (run U n) c_least_completion.c.body [some a0, some a1, some a2, some a3] h) := run_eq (c := c_least_completion.c) (by kernel_rfl) _ _ _ rfl
theorem u_greatest_completion (n : Nat) (a0 a1 a2 a3 : PV) (h : PH) : run U (n + 1) "greatest_completion" [a0, a1, a2, a3] h = finish h.length (exB (run U n) c_greatest_completion.c.body [some a0, some a1, some a2, some a3] h) := run_eq (c := c_greatest_completion.c) (by kernel_rfl) _ _ _ rfl
theorem u_possible_values (n : Nat) (a0 a1 a2 a3 : PV) (h : PH) : run U (n + 1) "possible_values" [a0, a1, a2, a3] h = finish h.length (exB (run U n) c_possible_values.c.body [some a0, some a1, some a2, some a3, none, none, none, none, none] h) := run_eq (c := c_possible_values.c) (by kernel_rfl) _ _ _ rfl
theorem u_assumed (n : Nat) (a0 a1 : PV) (h : PH) : run U (n + 1) "assumed" [a0, a1] h = finish h.length (exB (run U n) c_assumed.c.body [some a0, some a1, none] h) := run_eq (c := c_assumed.c) (by kernel_rfl) _ _ _ rfl
theorem u_require_two (n : Nat) (a0 a1 a2 a3 a4 : PV) (h : PH) : run U (n + 1) "require_two" [a0, a1, a2, a3, a4] h = finish h.length (exB (run U n) c_require_two.c.body [some a0, some a1, some a2, some a3, some a4] h) := run_eq (c := c_require_two.c) (by kernel_rfl) _ _ _ rfl
theorem u_sign_of (n : Nat) (a0 a1 a2 a3 a4 : PV) (h : PH) : run U (n + 1) "sign_of" [a0, a1, a2, a3, a4] h = finish h.length (exB (run U n) c_sign_of.c.body [some a0, some a1, some a2, some a3, some a4, none, none] h) := run_eq (c := c_sign_of.c) (by kernel_rfl) _ _ _ rfl
theorem u_first_against (n : Nat) (a0 a1 a2 a3 a4 : PV) (h : PH) : run U (n + 1) "first_against" [a0, a1, a2, a3, a4] h = finish h.length (exB (run U n) c_first_against.c.body [some a0, some a1, some a2, some a3, some a4, none] h) := run_eq (c := c_first_against.c) (by kernel_rfl) _ _ _ rfl
theorem u_is_never_worse (n : Nat) (a0 a1 a2 a3 a4 : PV) (h : PH) : run U (n + 1) "is_never_worse" [a0, a1, a2, a3, a4] h = finish h.length (exB (run U n) c_is_never_worse.c.body [some a0, some a1, some a2, some a3, some a4] h) := run_eq (c := c_is_never_worse.c) (by kernel_rfl) _ _ _ rfl
theorem u_completion_against (n : Nat) (a0 a1 a2 a3 a4 : PV) (h : PH) : run U (n + 1) "completion_against" [a0, a1, a2, a3, a4] h = finish h.length (exB (run U n) c_completion_against.c.body [some a0, some a1, some a2, some a3, some a4] h) := run_eq (c := c_completion_against.c) (by kernel_rfl) _ _ _ rfl
end J
end JUn

section JExc
set_option Elab.async false
set_option linter.all false
set_option maxRecDepth 100000
set_option autoImplicit false
set_option maxHeartbeats 8000000
/-! J.Exc: what is refused. -/
namespace J
open PySem
section
variable {h t : PH} {σ : PEnv} {v : D} {c : String} {xs : List D}
@[simp] theorem fn_rt : finish h.length (.ok (.rt (.d v)) h) = .ok (.d v) h := fin_rt
@[simp] theorem fn_rtk : finish h.length (.ok (.rt (.k v)) h) = .ok (.k v) h := by
  simp only [finish, leave, List.take_length]
@[simp] theorem fn_nx : finish h.length (.ok (.nx σ) h) = .ok (.d .none) h := by
  simp only [finish, List.take_length]
@[simp] theorem fn_exc : finish h.length (.exc c h) = .exc c h := by
  simp only [finish, List.take_length]
@[simp] theorem fn_rta : finish h.length (.ok (.rt (.d v)) (h ++ t)) = .ok (.d v) h := by
  simp only [finish, leave, List.take_left]
@[simp] theorem fn_cell : finish h.length (.ok (.rt (.cell h.length)) (h ++ [.lst xs])) = .ok (.d (.list xs)) h := by
  simp only [finish, leave, Nat.lt_irrefl, if_false, List.getElem?_concat_length, List.take_left]
@[simp] theorem fn1_rt (x : Cl) : finish 1 (.ok (.rt (.d v)) [x]) = .ok (.d v) [x] := rfl
@[simp] theorem fn1_rtk (x : Cl) : finish 1 (.ok (.rt (.k v)) [x]) = .ok (.k v) [x] := rfl
@[simp] theorem fn1_nx (x : Cl) : finish 1 (.ok (.nx σ) [x]) = .ok (.d .none) [x] := rfl
@[simp] theorem fn1_exc (x : Cl) : finish 1 (.exc c [x]) = .exc c [x] := rfl
@[simp] theorem val_k (x : D) : val h (.k x) = some x := rfl
@[simp] theorem isn_k (x : D) : isNoneV (.k x) = false := rfl
end
@[simp] theorem smD_fr (q : Rat) : smD 4 (fr q) = true := by simp [smD, fr]
theorem shaped_str (s : Str) (h : PyData.strOk s = true) : SeqAt.shaped (.str s) = true := by simp only [SeqAt.shaped, PyData.canLay0, PyData.depth]; simpa using h
@[simp] theorem cut_1 {α : Type} (xs : List α) : cut xs (some 1) none = xs.tail := by
  rw [cut_from xs (by decide)]
  exact List.drop_one
@[simp] theorem iD_tail (cs : List Int) : (iD cs).tail = iD cs.tail := by cases cs <;> rfl
theorem addT {a b : List D} (ha : a.length ≤ 4000) (hb : b.length ≤ 4000) : binD .add (.tuple a) (.tuple b) = some (.tuple (a ++ b)) := bin_addT (by unfold lineN; omega)
theorem ne_lit (s : String) (h : PyData.strOk (Str.ofString s) = true) : cmpD .ne (.str (Str.ofString s)) (.str (Str.ofString s)) = some false := ne_self (shaped_str _ h)
theorem eq_lit (s : String) (h : PyData.strOk (Str.ofString s) = true) : cmpD .eq (.str (Str.ofString s)) (.str (Str.ofString s)) = some true := eq_self (shaped_str _ h)
@[simp] theorem ne_InvalidCollection : cmpD .ne (.str (Str.ofString "InvalidCollection")) (.str (Str.ofString "InvalidCollection")) = some false := ne_lit _ (by decide +kernel)
@[simp] theorem eq_InvalidCollection : cmpD .eq (.str (Str.ofString "InvalidCollection")) (.str (Str.ofString "InvalidCollection")) = some true := eq_lit _ (by decide +kernel)
@[simp] theorem ne_InvalidJudgements : cmpD .ne (.str (Str.ofString "InvalidJudgements")) (.str (Str.ofString "InvalidJudgements")) = some false := ne_lit _ (by decide +kernel)
@[simp] theorem eq_InvalidJudgements : cmpD .eq (.str (Str.ofString "InvalidJudgements")) (.str (Str.ofString "InvalidJudgements")) = some true := eq_lit _ (by decide +kernel)
@[simp] theorem ne_InvalidRanking : cmpD .ne (.str (Str.ofString "InvalidRanking")) (.str (Str.ofString "InvalidRanking")) = some false := ne_lit _ (by decide +kernel)
@[simp] theorem eq_InvalidRanking : cmpD .eq (.str (Str.ofString "InvalidRanking")) (.str (Str.ofString "InvalidRanking")) = some true := eq_lit _ (by decide +kernel)
@[simp] theorem ne_InvalidMeasure : cmpD .ne (.str (Str.ofString "InvalidMeasure")) (.str (Str.ofString "InvalidMeasure")) = some false := ne_lit _ (by decide +kernel)
@[simp] theorem eq_InvalidMeasure : cmpD .eq (.str (Str.ofString "InvalidMeasure")) (.str (Str.ofString "InvalidMeasure")) = some true := eq_lit _ (by decide +kernel)
@[simp] theorem ne_Incomplete : cmpD .ne (.str (Str.ofString "Incomplete")) (.str (Str.ofString "Incomplete")) = some false := ne_lit _ (by decide +kernel)
@[simp] theorem eq_Incomplete : cmpD .eq (.str (Str.ofString "Incomplete")) (.str (Str.ofString "Incomplete")) = some true := eq_lit _ (by decide +kernel)
@[simp] theorem ne_InvalidDocument : cmpD .ne (.str (Str.ofString "InvalidDocument")) (.str (Str.ofString "InvalidDocument")) = some false := ne_lit _ (by decide +kernel)
@[simp] theorem eq_InvalidDocument : cmpD .eq (.str (Str.ofString "InvalidDocument")) (.str (Str.ofString "InvalidDocument")) = some true := eq_lit _ (by decide +kernel)
@[simp] theorem ne_InvalidEntry : cmpD .ne (.str (Str.ofString "InvalidEntry")) (.str (Str.ofString "InvalidEntry")) = some false := ne_lit _ (by decide +kernel)
@[simp] theorem eq_InvalidEntry : cmpD .eq (.str (Str.ofString "InvalidEntry")) (.str (Str.ofString "InvalidEntry")) = some true := eq_lit _ (by decide +kernel)
@[simp] theorem ne_InvalidRankings : cmpD .ne (.str (Str.ofString "InvalidRankings")) (.str (Str.ofString "InvalidRankings")) = some false := ne_lit _ (by decide +kernel)
@[simp] theorem eq_InvalidRankings : cmpD .eq (.str (Str.ofString "InvalidRankings")) (.str (Str.ofString "InvalidRankings")) = some true := eq_lit _ (by decide +kernel)
@[simp] theorem ne_InvalidDocuments : cmpD .ne (.str (Str.ofString "InvalidDocuments")) (.str (Str.ofString "InvalidDocuments")) = some false := ne_lit _ (by decide +kernel)
@[simp] theorem eq_InvalidDocuments : cmpD .eq (.str (Str.ofString "InvalidDocuments")) (.str (Str.ofString "InvalidDocuments")) = some true := eq_lit _ (by decide +kernel)
@[simp] theorem ne_InvalidRank : cmpD .ne (.str (Str.ofString "InvalidRank")) (.str (Str.ofString "InvalidRank")) = some false := ne_lit _ (by decide +kernel)
@[simp] theorem eq_InvalidRank : cmpD .eq (.str (Str.ofString "InvalidRank")) (.str (Str.ofString "InvalidRank")) = some true := eq_lit _ (by decide +kernel)
@[simp] theorem ne_InvalidChances : cmpD .ne (.str (Str.ofString "InvalidChances")) (.str (Str.ofString "InvalidChances")) = some false := ne_lit _ (by decide +kernel)
@[simp] theorem eq_InvalidChances : cmpD .eq (.str (Str.ofString "InvalidChances")) (.str (Str.ofString "InvalidChances")) = some true := eq_lit _ (by decide +kernel)
@[simp] theorem ne_InvalidDepth : cmpD .ne (.str (Str.ofString "InvalidDepth")) (.str (Str.ofString "InvalidDepth")) = some false := ne_lit _ (by decide +kernel)
@[simp] theorem eq_InvalidDepth : cmpD .eq (.str (Str.ofString "InvalidDepth")) (.str (Str.ofString "InvalidDepth")) = some true := eq_lit _ (by decide +kernel)
@[simp] theorem ne_InvalidJudges : cmpD .ne (.str (Str.ofString "InvalidJudges")) (.str (Str.ofString "InvalidJudges")) = some false := ne_lit _ (by decide +kernel)
@[simp] theorem eq_InvalidJudges : cmpD .eq (.str (Str.ofString "InvalidJudges")) (.str (Str.ofString "InvalidJudges")) = some true := eq_lit _ (by decide +kernel)
@[simp] theorem ne_Conflict : cmpD .ne (.str (Str.ofString "Conflict")) (.str (Str.ofString "Conflict")) = some false := ne_lit _ (by decide +kernel)
@[simp] theorem eq_Conflict : cmpD .eq (.str (Str.ofString "Conflict")) (.str (Str.ofString "Conflict")) = some true := eq_lit _ (by decide +kernel)
@[simp] theorem ne_TooLarge : cmpD .ne (.str (Str.ofString "TooLarge")) (.str (Str.ofString "TooLarge")) = some false := ne_lit _ (by decide +kernel)
@[simp] theorem eq_TooLarge : cmpD .eq (.str (Str.ofString "TooLarge")) (.str (Str.ofString "TooLarge")) = some true := eq_lit _ (by decide +kernel)
@[simp] theorem ne_NothingToUndo : cmpD .ne (.str (Str.ofString "NothingToUndo")) (.str (Str.ofString "NothingToUndo")) = some false := ne_lit _ (by decide +kernel)
@[simp] theorem eq_NothingToUndo : cmpD .eq (.str (Str.ofString "NothingToUndo")) (.str (Str.ofString "NothingToUndo")) = some true := eq_lit _ (by decide +kernel)
@[simp] theorem ne_ParseError : cmpD .ne (.str (Str.ofString "ParseError")) (.str (Str.ofString "ParseError")) = some false := ne_lit _ (by decide +kernel)
@[simp] theorem eq_ParseError : cmpD .eq (.str (Str.ofString "ParseError")) (.str (Str.ofString "ParseError")) = some true := eq_lit _ (by decide +kernel)
@[simp] theorem eqv_int (a b : Int) : PyData.eqv (.int a) (.int b) = decide (a = b) := by
  by_cases h : a = b
  · subst h; simp [PyData.eqv]
  · simp [PyData.eqv, h]
theorem Fr_mk {ns : List Int} {w j : Nat} {vs : List (Option PV)} {xs : List Int} (lv : vs.length = w) (hb : xs.length ≤ 1000 * j) : Fr ns w j (some (.d (.list (iD ns))) :: some (.cell 0) :: vs) [.lst (iD xs)] := ⟨vs, xs, lv, rfl, rfl, hb⟩
theorem lows {k : Nat} (h : 10 ≤ k) : 1 ≤ k ∧ 2 ≤ k ∧ 3 ≤ k ∧ 4 ≤ k ∧ 5 ≤ k ∧ 6 ≤ k ∧ 7 ≤ k ∧ 8 ≤ k ∧ 9 ≤ k ∧ 10 ≤ k := by omega
section
variable {n : Nat} {h : PH} {ss rs : List Str} {cs : List Int} {es : List (Option Int)} {m : Me} {x y z : D}
theorem sucN {n k : Nat} (h : k + 1 ≤ n) : ∃ q, n = q + 1 ∧ k ≤ q := ⟨n - 1, by omega, by omega⟩
theorem rcol_nil (hn : 2 ≤ n) : run U n "require_collection" [.d (.tuple [])] h = .exc "InvalidCollection" h := by
  obtain ⟨k, rfl, hk⟩ := sucN hn
  obtain ⟨k, rfl, hk⟩ := sucN hk
  simp [u_require_collection, c_require_collection, u_is_collection, c_is_collection, isiD]
theorem rcol_nt (hn : 2 ≤ n) (hx : isiD x .tuple = false) : run U n "require_collection" [.d x] h = .exc "InvalidCollection" h := by
  obtain ⟨k, rfl, hk⟩ := sucN hn
  obtain ⟨k, rfl, hk⟩ := sucN hk
  simp [u_require_collection, c_require_collection, u_is_collection, c_is_collection, hx]
/-- no collection -/
def NoC (x : D) : Prop := x = .tuple [] ∨ isiD x .tuple = false
theorem rcol_x (hn : 2 ≤ n) (hx : NoC x) : run U n "require_collection" [.d x] h = .exc "InvalidCollection" h := by
  rcases hx with rfl | hx
  · exact rcol_nil hn
  · exact rcol_nt hn hx
theorem rjud_xc (hn : 3 ≤ n) (hx : NoC x) : run U n "require_judgements" [.d x, .d y] h = .exc "InvalidCollection" h := by
  obtain ⟨k, rfl, hk⟩ := sucN hn
  simp [u_require_judgements, c_require_judgements, rcol_x hk hx]
theorem value_xc {w : D} (hn : 4 ≤ n) (hx : NoC x) : run U n "value" [.d x, .d y, .d z, .d w] h = .exc "InvalidCollection" h := by
  obtain ⟨k, rfl, hk⟩ := sucN hn
  simp [u_value, c_value, rjud_xc hk hx]
theorem value_xj (hn : 11 ≤ n) (C : Cn ss) (hx : sml x) (j : judB ss.length x = false) : run U n "value" [.d (.tuple (sD ss)), .d x, .d y, .d z] h = .exc "InvalidJudgements" h := by
  obtain ⟨k, rfl, hk⟩ := sucN hn
  rw [u_value]
  simp [c_value, U_rjud, C, hx, j, lows hk]
theorem value_xr (hn : 11 ≤ n) (C : Cn ss) (hx : sml x) (j : judB ss.length x = true) (hy : sml y) (r : rankB ss y = false) : run U n "value" [.d (.tuple (sD ss)), .d x, .d y, .d z] h = .exc "InvalidRanking" h := by
  obtain ⟨k, rfl, hk⟩ := sucN hn
  rw [u_value]
  simp [c_value, U_rjud, U_rrank, C, hx, hy, r, j, lows hk]
theorem value_xm (hn : 11 ≤ n) (C : Cn ss) (hx : sml x) (j : judB ss.length x = true) (R : Rk ss rs) (q : isM z = false) : run U n "value" [.d (.tuple (sD ss)), .d x, .d (.tuple (sD rs)), .d z] h = .exc "InvalidMeasure" h := by
  obtain ⟨k, rfl, hk⟩ := sucN hn
  rw [u_value]
  simp [c_value, U_rjud, U_rrank_r, U_rmeas, C, hx, R, q, j, lows hk]
theorem value_xi (hn : 11 ≤ n) (C : Cn ss) {us : List D} (hx : sml (.tuple us)) (j : judB ss.length (.tuple us) = true) (R : Rk ss rs) (hm : m.ok) (f : us.all flatD = true) (q : (us.any fun u => PyData.eqv u .none) = true) : run U n "value" [.d (.tuple (sD ss)), .d (.tuple us), .d (.tuple (sD rs)), .d (meD m)] h = .exc "Incomplete" h := by
  obtain ⟨k, rfl, hk⟩ := sucN hn
  have e := U_rcomp (n := k) (h := h) (by omega) f
  rw [q, if_pos rfl] at e
  rw [u_value]
  simp [c_value, U_rjud, U_rrank_r, U_rmeas_m, C, hx, R, hm, j, e, lows hk]
end
end J
end JExc

section JCmp
set_option Elab.async false
set_option linter.all false
set_option maxRecDepth 100000
set_option autoImplicit false
set_option maxHeartbeats 8000000
/-! J.Cmp: completions, by recursion. -/
namespace J
open PySem
def compsR : List (Option Int) → List (List Int)
  | [] => [[]]
  | e :: es => (opts e).flatMap fun o => (compsR es).map (o :: ·)
theorem comps_fold : ∀ (es : List (Option Int)) (rows : List (List Int)), es.foldl rowsF rows = rows.flatMap fun r => (compsR es).map (r ++ ·)
  | [], rows => by
    simp only [List.foldl_nil, compsR, List.map_cons, List.append_nil, List.map_nil]
    induction rows with
    | nil => rfl
    | cons r rows ih => rw [List.flatMap_cons, ← ih]; rfl
  | e :: es, rows => by
    rw [List.foldl_cons, comps_fold es, rowsF, List.flatMap_assoc]
    congr 1
    funext r
    simp only [compsR, List.map_flatMap, List.map_map, List.flatMap_map]
    congr 1
    funext o
    refine List.map_congr_left fun a _ => ?_
    simp
theorem comps_R (es : List (Option Int)) : comps es = compsR es := by
  unfold comps
  rw [comps_fold]
  simp
def isCp : List Int → List (Option Int) → Prop
  | [], [] => True
  | x :: xs, e :: es => x ∈ opts e ∧ isCp xs es
  | _, _ => False
theorem mem_compsR : ∀ {es : List (Option Int)} {c : List Int}, c ∈ compsR es ↔ isCp c es
  | [], c => by
    cases c <;> simp [compsR, isCp]
  | e :: es, c => by
    simp only [compsR, List.mem_flatMap, List.mem_map]
    constructor
    · rintro ⟨o, ho, d, hd, rfl⟩
      exact ⟨ho, mem_compsR.mp hd⟩
    · cases c with
      | nil => exact fun h => nomatch h
      | cons x xs => exact fun h => ⟨x, h.1, xs, mem_compsR.mpr h.2, rfl⟩
theorem mem_comps {es : List (Option Int)} {c : List Int} : c ∈ comps es ↔ isCp c es := by rw [comps_R, mem_compsR]
theorem isCp.len : ∀ {es : List (Option Int)} {c : List Int}, isCp c es → c.length = es.length
  | [], [], _ => rfl
  | _ :: es, _ :: c, h => by simp only [List.length_cons, isCp.len h.2]
theorem isCp.b01 : ∀ {es : List (Option Int)} {c : List Int}, E01 es → isCp c es → B01 c
  | [], [], _, _ => fun x hx => nomatch hx
  | e :: es, x :: c, E, h => fun y hy => by
    rcases List.mem_cons.mp hy with rfl | hy
    · have := h.1
      rcases E e List.mem_cons_self with rfl | rfl | rfl <;> simp [opts] at this <;> omega
    · exact isCp.b01 (fun e he => E e (List.mem_cons_of_mem _ he)) h.2 y hy
theorem comps_fu {ss : List Str} {es : List (Option Int)} (E : En ss es) : ∀ c ∈ comps es, Fu ss c := fun c hc => by
  have := mem_comps.mp hc
  exact ⟨by rw [this.len, E.el], this.b01 E.e01⟩
theorem compsR_ne : ∀ es : List (Option Int), compsR es ≠ []
  | [] => by simp [compsR]
  | e :: es => by
    have ih := compsR_ne es
    cases e <;> simp [compsR, opts, ih]
theorem comps_ne (es : List (Option Int)) : comps es ≠ [] := by rw [comps_R]; exact compsR_ne es
theorem compsR_len : ∀ es : List (Option Int), (compsR es).length ≤ 2 ^ es.length
  | [] => by simp [compsR]
  | e :: es => by
    have ih := compsR_len es
    cases e <;> simp [compsR, opts, Nat.pow_succ] <;> omega
theorem comps_len {ss : List Str} {es : List (Option Int)} (C : Cn ss) (E : En ss es) : (comps es).length ≤ 128 := by
  rw [comps_R]
  have := compsR_len es
  have l : es.length ≤ 7 := by have := E.el; have := C.len; omega
  have : 2 ^ es.length ≤ 2 ^ 7 := Nat.pow_le_pow_right (by decide) l
  omega
theorem compsR_nd : ∀ es : List (Option Int), (compsR es).Nodup
  | [] => by simp [compsR]
  | e :: es => by
    have ih := compsR_nd es
    have inj : ∀ o : Int, ((compsR es).map (o :: ·)).Nodup := fun o => List.Pairwise.map _ (fun a b h => by simpa using h) ih
    cases e with
    | some i => simp only [compsR, opts, List.flatMap_cons, List.flatMap_nil, List.append_nil]; exact inj i
    | none =>
      simp only [compsR, opts, List.flatMap_cons, List.flatMap_nil, List.append_nil]
      refine List.nodup_append.mpr ⟨inj 0, inj 1, fun a ha b hb => ?_⟩
      obtain ⟨x, _, rfl⟩ := List.mem_map.mp ha
      obtain ⟨y, _, rfl⟩ := List.mem_map.mp hb
      simp
/-- judged in full: as entries -/
theorem eD_some (cs : List Int) : eD (cs.map some) = iD cs := by simp [eD, iD, Function.comp_def]
theorem Fu.en {ss : List Str} {cs : List Int} (F : Fu ss cs) : En ss (cs.map some) := ⟨by rw [List.length_map]; exact F.cl, fun e he => by
  obtain ⟨c, hc, rfl⟩ := List.mem_map.mp he
  rcases F.c01 c hc with rfl | rfl <;> simp⟩
theorem compsR_full : ∀ cs : List Int, compsR (cs.map some) = [cs]
  | [] => rfl
  | c :: cs => by simp [compsR, opts, compsR_full cs]
theorem comps_full (cs : List Int) : comps (cs.map some) = [cs] := by rw [comps_R, compsR_full]
theorem vQ_bd {ss rs : List Str} {cs : List Int} {m : Me} (C : Cn ss) (R : Rk ss rs) (F : Fu ss cs) (hm : m.ok) : Bd 300 (vQ ss cs rs m) := (drn C R F).bd m hm
theorem Rk.rel {ss : List Str} {cs : List Int} (C : Cn ss) (F : Fu ss cs) : Rk ss (relF ss cs) := ⟨(relF_perm F.c01).nodup_iff.mpr C.nd, relF_mem⟩
theorem bQ_bd {ss : List Str} {cs : List Int} {m : Me} (C : Cn ss) (F : Fu ss cs) (hm : m.ok) : Bd 300 (bQ ss cs m) := vQ_bd C (.rel C F) F hm
theorem vQ_nonneg {ss rs : List Str} {cs : List Int} {m : Me} (F : Fu ss cs) : 0 ≤ vQ ss cs rs m := val_nonneg (hits_01 F.c01 rs) m
theorem vQ_best {ss rs : List Str} {cs : List Int} {m : Me} (C : Cn ss) (R : Rk ss rs) (F : Fu ss cs) (hm : m.ok) : vQ ss cs rs m ≤ bQ ss cs m := vQ_le_bQ C.nd F.cl C.len F.c01 R.nr R.sub hm
end J
end JCmp

section JBnd
set_option Elab.async false
set_option linter.all false
set_option maxRecDepth 100000
set_option autoImplicit false
set_option maxHeartbeats 8000000
/-! J.Bnd: bounds over completions. -/
namespace J
open PySem
section
variable {α β : Type}
theorem fin_for (i : α → D) (I : List α → PEnv → Prop) {f : D → PEnv → PH → Rs Fl} {h : PH} {K : Fl → PH → Rs Fl} {v : D} (xs : List α) {l : List D} (hl : l = xs.map i) {σ : PEnv} (h0 : I [] σ) (hs : ∀ p x q σ, xs = p ++ x :: q → I p σ → ∃ σ', f (i x) σ h = .ok (.nx σ') h ∧ I (p ++ [x]) σ') (hk : ∀ σ', I xs σ' → K (.nx σ') h = .ok (.rt (.d v)) h) : finish h.length ((forL f l σ h).bind K) = .ok (.d v) h := by
  subst hl
  rw [bind_for i I xs h0 hs hk, fin_rt]
theorem fin_find (i : α → D) (q : α → Bool) (w : α → D) (I : PEnv → Prop) {f : D → PEnv → PH → Rs Fl} {h : PH} {K : Fl → PH → Rs Fl} {v : D} (xs : List α) {l : List D} (hl : l = xs.map i) {σ : PEnv} (h0 : I σ) (hs : ∀ x ∈ xs, ∀ σ, I σ → q x = false → ∃ σ', f (i x) σ h = .ok (.nx σ') h ∧ I σ') (ht : ∀ x ∈ xs, ∀ σ, I σ → q x = true → f (i x) σ h = .ok (.rt (.d (w x))) h) (hk : ∀ σ', I σ' → xs.find? q = none → K (.nx σ') h = .ok (.rt (.d v)) h) (hr : ∀ x, xs.find? q = some x → K (.rt (.d (w x))) h = .ok (.rt (.d v)) h) : finish h.length ((forL f l σ h).bind K) = .ok (.d v) h := by
  subst hl
  rw [bind_find i q (fun x => .d (w x)) I xs h0 hs ht hk hr, fin_rt]
theorem compL_of (i : α → D) (g : α → Option D) (xs : List α) {l : List D} (hl : l = xs.map i) {f : D → PH → Rs (Option D)} {h : PH} (hf : ∀ x ∈ xs, f (i x) h = .ok (g x) h) : compL f l h = .ok (xs.filterMap g) h := by
  subst hl; exact compL_pure f i g h xs hf
theorem compM_of (i : α → D) (g : α → D) (xs : List α) {l : List D} (hl : l = xs.map i) {f : D → PH → Rs (Option D)} {h : PH} (hf : ∀ x ∈ xs, f (i x) h = .ok (some (g x)) h) : compL f l h = .ok (xs.map g) h := by
  subst hl; exact comp_map f i g h xs hf
end
/-- the best of rows, by a test of a later against the best so far -/
def pickB {α : Type} (lt : α → α → Bool) (b : α) (rows : List α) : α := rows.foldl (fun b r => if lt r b then r else b) b
theorem pickB_app {α : Type} (lt : α → α → Bool) (b : α) (p : List α) (x : α) : pickB lt b (p ++ [x]) = if lt x (pickB lt b p) then x else pickB lt b p := by
  simp only [pickB, List.foldl_append]; rfl
theorem pickB_mem {α : Type} (lt : α → α → Bool) : ∀ (rows : List α) (b : α), pickB lt b rows ∈ b :: rows
  | [], b => by simp [pickB]
  | r :: rows, b => by
    have := pickB_mem lt rows (if lt r b then r else b)
    show pickB lt (if lt r b then r else b) rows ∈ _
    rcases List.mem_cons.mp this with e | e
    · rw [e]; split <;> simp
    · exact List.mem_cons_of_mem _ (List.mem_cons_of_mem _ e)
/-- the least value, and the first row with it -/
def loB {α : Type} (V : α → Rat) (b : α) (rows : List α) : α := pickB (fun r b => decide (V r < V b)) b rows
def hiB {α : Type} (V : α → Rat) (b : α) (rows : List α) : α := pickB (fun r b => decide (V b < V r)) b rows
theorem loB_le {α : Type} (V : α → Rat) : ∀ (rows : List α) (b : α), V (loB V b rows) ≤ V b ∧ ∀ r ∈ rows, V (loB V b rows) ≤ V r
  | [], b => ⟨Rat.le_refl, fun r hr => nomatch hr⟩
  | r :: rows, b => by
    have ih := loB_le V rows (if decide (V r < V b) then r else b)
    have e : loB V b (r :: rows) = loB V (if decide (V r < V b) then r else b) rows := rfl
    rw [e]
    by_cases q : V r < V b
    · simp only [q, decide_true, if_true] at ih ⊢
      refine ⟨Rat.le_trans ih.1 (Rat.le_of_lt q), fun s hs => ?_⟩
      rcases List.mem_cons.mp hs with rfl | hs
      · exact ih.1
      · exact ih.2 s hs
    · simp only [q, decide_false, Bool.false_eq_true, if_false] at ih ⊢
      refine ⟨ih.1, fun s hs => ?_⟩
      rcases List.mem_cons.mp hs with rfl | hs
      · exact Rat.le_trans ih.1 (Rat.not_lt.mp q)
      · exact ih.2 s hs
theorem hiB_lo {α : Type} (V : α → Rat) (b : α) (rows : List α) : hiB V b rows = loB (fun c => - V c) b rows := by
  unfold hiB loB
  congr 1
  funext r b
  congr 1
  apply propext
  exact ⟨fun h => Rat.neg_lt_neg h, fun h => by have := Rat.neg_lt_neg h; simpa using this⟩
theorem hiB_ge {α : Type} (V : α → Rat) (b : α) (rows : List α) : V b ≤ V (hiB V b rows) ∧ ∀ r ∈ rows, V r ≤ V (hiB V b rows) := by
  have := loB_le (fun c => - V c) rows b
  rw [← hiB_lo] at this
  exact ⟨by simpa using Rat.neg_le_neg this.1, fun r hr => by simpa using Rat.neg_le_neg (this.2 r hr)⟩
/-- a row: a completion with its value -/
def vrow (V : List Int → Rat) (c : List Int) : D := .tuple [.tuple (iD c), fr (V c)]
section
variable {n : Nat} {h : PH} {ss rs one other : List Str} {cs : List Int} {es : List (Option Int)} {m : Me}
theorem U_lowest (hn : 10 ≤ n) (V : List Int → Rat) (r0 : List Int) (rows : List (List Int)) (hb : ∀ c ∈ r0 :: rows, Bd 300 (V c)) : run U n "lowest" [.d (.list ((r0 :: rows).map (vrow V)))] h = .ok (.d (vrow V (loB V r0 (r0 :: rows)))) h := by
  obtain ⟨k, rfl, hk⟩ := sucN hn
  rw [u_lowest]
  simp only [c_lowest, xs_cons, xs_for, ex_0, ev_15, ev_0, ev_2, List.getElem?_cons_zero, rs_ok_, dat_int, val_d, Option.bind_some, List.map_cons, ix_L, atI_zero, Option.map_some, ofO_some, kont_nx_, List.set_cons_succ, List.set_cons_zero, evI_0, seqItems, forK_eq, List.getElem?_cons_succ]
  refine fin_for (vrow V) (fun p σ => ∃ v2, σ = [some (.d (.list (vrow V r0 :: rows.map (vrow V)))), some (.d (vrow V (loB V r0 p))), v2]) (r0 :: rows) rfl ⟨none, rfl⟩ ?_ ?_
  · rintro p x q σ hx ⟨v2, rfl⟩
    have bx : Bd 300 (V x) := hb x (by rw [hx]; simp)
    have pm : Bd 300 (V (loB V r0 p)) := by
      have := pickB_mem (fun r b => decide (V r < V b)) p r0
      rcases List.mem_cons.mp this with e | e
      · unfold loB; rw [e]; exact hb r0 List.mem_cons_self
      · exact hb _ (by rw [hx]; exact List.mem_append_left _ e)
    have bl := U_below (n := k) (h := h) (by omega) bx pm (by decide) (by decide)
    have nx : loB V r0 (p ++ [x]) = if V x < V (loB V r0 p) then x else loB V r0 p := by
      simp only [loB, pickB_app, decide_eq_true_eq]
      exact ite_congr rfl (fun _ => rfl) (fun _ => rfl)
    rw [nx]
    generalize loB V r0 p = b at bl pm
    by_cases q : V x < V b
    · simp [forF, assignD, vrow, bl, q]
    · simp [forF, assignD, vrow, bl, q]
  · rintro σ ⟨v2, rfl⟩
    simp
theorem U_highest (hn : 10 ≤ n) (V : List Int → Rat) (r0 : List Int) (rows : List (List Int)) (hb : ∀ c ∈ r0 :: rows, Bd 300 (V c)) : run U n "highest" [.d (.list ((r0 :: rows).map (vrow V)))] h = .ok (.d (vrow V (hiB V r0 (r0 :: rows)))) h := by
  obtain ⟨k, rfl, hk⟩ := sucN hn
  rw [u_highest]
  simp only [c_highest, xs_cons, xs_for, ex_0, ev_15, ev_0, ev_2, List.getElem?_cons_zero, rs_ok_, dat_int, val_d, Option.bind_some, List.map_cons, ix_L, atI_zero, Option.map_some, ofO_some, kont_nx_, List.set_cons_succ, List.set_cons_zero, evI_0, seqItems, forK_eq, List.getElem?_cons_succ]
  refine fin_for (vrow V) (fun p σ => ∃ v2, σ = [some (.d (.list (vrow V r0 :: rows.map (vrow V)))), some (.d (vrow V (hiB V r0 p))), v2]) (r0 :: rows) rfl ⟨none, rfl⟩ ?_ ?_
  · rintro p x q σ hx ⟨v2, rfl⟩
    have bx : Bd 300 (V x) := hb x (by rw [hx]; simp)
    have pm : Bd 300 (V (hiB V r0 p)) := by
      have := pickB_mem (fun r b => decide (V b < V r)) p r0
      rcases List.mem_cons.mp this with e | e
      · unfold hiB; rw [e]; exact hb r0 List.mem_cons_self
      · exact hb _ (by rw [hx]; exact List.mem_append_left _ e)
    have bl := U_below (n := k) (h := h) (by omega) pm bx (by decide) (by decide)
    have nx : hiB V r0 (p ++ [x]) = if V (hiB V r0 p) < V x then x else hiB V r0 p := by
      simp only [hiB, pickB_app, decide_eq_true_eq]
      exact ite_congr rfl (fun _ => rfl) (fun _ => rfl)
    rw [nx]
    generalize hiB V r0 p = b at bl pm
    by_cases q : V b < V x
    · simp [forF, assignD, vrow, bl, q]
    · simp [forF, assignD, vrow, bl, q]
  · rintro σ ⟨v2, rfl⟩
    simp
end
end J
end JBnd

section JBnd2
set_option Elab.async false
set_option linter.all false
set_option maxRecDepth 100000
set_option autoImplicit false
set_option maxHeartbeats 8000000
/-! J.Bnd2: bounds, comparisons, regrets: summaries. -/
namespace J
open PySem
theorem lo2 {k : Nat} (h : 20 ≤ k) : 1 ≤ k ∧ 2 ≤ k ∧ 3 ≤ k ∧ 4 ≤ k ∧ 5 ≤ k ∧ 6 ≤ k ∧ 7 ≤ k ∧ 8 ≤ k ∧ 9 ≤ k ∧ 10 ≤ k ∧ 11 ≤ k ∧ 20 ≤ k := by omega
theorem lo3 {k : Nat} (h : 30 ≤ k) : 1 ≤ k ∧ 2 ≤ k ∧ 3 ≤ k ∧ 4 ≤ k ∧ 5 ≤ k ∧ 6 ≤ k ∧ 7 ≤ k ∧ 8 ≤ k ∧ 9 ≤ k ∧ 10 ≤ k ∧ 11 ≤ k ∧ 20 ≤ k ∧ 30 ≤ k := by omega
theorem rD_len (rows : List (List Int)) : (rD rows).length = rows.length := by simp [rD]
section
variable {n : Nat} {h : PH} {ss rs one other : List Str} {cs : List Int} {es : List (Option Int)} {m : Me} {x y z : D}
/-- the values of a ranking -/
abbrev vF (ss rs : List Str) (m : Me) (c : List Int) : Rat := vQ ss c rs m
theorem U_values_of (hn : 11 ≤ n) (C : Cn ss) (R : Rk ss rs) (E : En ss es) (hm : m.ok) : run U n "values_of" [.d (.tuple (sD ss)), .d (.tuple (eD es)), .d (.tuple (sD rs)), .d (meD m)] h = .ok (.d (.list ((comps es).map (vrow (vF ss rs m))))) h := by
  obtain ⟨k, rfl, hk⟩ := sucN hn
  have cl := comps_len C E
  rw [u_values_of]
  have ac := U_all_completions (n := k) (h := h) (by omega) C E
  simp only [c_values_of, xs_cons, ex_8, xs_lc, evI_0, ev_23, evA_1, evA_0, ev_0, List.getElem?_cons_zero, List.getElem?_cons_succ, rs_ok_, ac, seqItems, ofO_some]
  rw [lcK_ok (by rw [rD_len]; omega), compM_of (fun c => .tuple (iD c)) (vrow (vF ss rs m)) (comps es) (l := rD (comps es)) rfl]
  · simp
  · intro c hc
    have v := U_value_of (n := k) (h := h) (by omega) C R (comps_fu E c hc) hm
    simp [lcF, compF, wipeP, assignD, v, vrow]
theorem U_checked (hn : 12 ≤ n) (C : Cn ss) (R : Rk ss rs) (E : En ss es) (hm : m.ok) : run U n "checked_values" [.d (.tuple (sD ss)), .d (.tuple (eD es)), .d (.tuple (sD rs)), .d (meD m)] h = .ok (.d (.list ((comps es).map (vrow (vF ss rs m))))) h := by
  obtain ⟨k, rfl, hk⟩ := sucN hn
  rw [u_checked_values]
  simp [c_checked_values, U_rjud_e, U_rrank_r, U_rmeas_m, U_values_of, C, R, E, hm, hk, lows (by omega : 10 ≤ k)]
theorem checked_xj (hn : 11 ≤ n) (C : Cn ss) (hx : sml x) (j : judB ss.length x = false) : run U n "checked_values" [.d (.tuple (sD ss)), .d x, .d y, .d z] h = .exc "InvalidJudgements" h := by
  obtain ⟨k, rfl, hk⟩ := sucN hn
  rw [u_checked_values]
  simp [c_checked_values, U_rjud, C, hx, j, lows hk]
theorem checked_xr (hn : 11 ≤ n) (C : Cn ss) (E : En ss es) (hy : sml y) (r : rankB ss y = false) : run U n "checked_values" [.d (.tuple (sD ss)), .d (.tuple (eD es)), .d y, .d z] h = .exc "InvalidRanking" h := by
  obtain ⟨k, rfl, hk⟩ := sucN hn
  rw [u_checked_values]
  simp [c_checked_values, U_rjud_e, U_rrank, C, E, hy, r, lows hk]
theorem checked_xm (hn : 11 ≤ n) (C : Cn ss) (E : En ss es) (R : Rk ss rs) (q : isM z = false) : run U n "checked_values" [.d (.tuple (sD ss)), .d (.tuple (eD es)), .d (.tuple (sD rs)), .d z] h = .exc "InvalidMeasure" h := by
  obtain ⟨k, rfl, hk⟩ := sucN hn
  rw [u_checked_values]
  simp [c_checked_values, U_rjud_e, U_rrank_r, U_rmeas, C, E, R, q, lows hk]
theorem checked_xc {w : D} (hn : 11 ≤ n) (hx : NoC x) : run U n "checked_values" [.d x, .d y, .d z, .d w] h = .exc "InvalidCollection" h := by
  obtain ⟨k, rfl, hk⟩ := sucN hn
  rw [u_checked_values]
  simp [c_checked_values, rjud_xc (show 3 ≤ k by omega) hx]
/-- the first completion with the least value, with the greatest -/
def loC (V : List Int → Rat) (es : List (Option Int)) : List Int := loB V ((comps es).headD []) (comps es)
def hiC (V : List Int → Rat) (es : List (Option Int)) : List Int := hiB V ((comps es).headD []) (comps es)
theorem loC_mem (V : List Int → Rat) (es : List (Option Int)) : loC V es ∈ comps es := by
  have := comps_ne es
  unfold loC
  cases e : comps es with
  | nil => exact absurd e this
  | cons c r =>
    have := pickB_mem (fun r b => decide (V r < V b)) (c :: r) c
    simp only [List.mem_cons, List.headD_cons] at this ⊢
    exact this.elim .inl id
theorem hiC_mem (V : List Int → Rat) (es : List (Option Int)) : hiC V es ∈ comps es := by
  have := comps_ne es
  unfold hiC
  cases e : comps es with
  | nil => exact absurd e this
  | cons c r =>
    have := pickB_mem (fun r b => decide (V b < V r)) (c :: r) c
    simp only [List.mem_cons, List.headD_cons] at this ⊢
    exact this.elim .inl id
theorem loC_le (V : List Int → Rat) {es : List (Option Int)} {c : List Int} (h : c ∈ comps es) : V (loC V es) ≤ V c := (loB_le V (comps es) _).2 c h
theorem hiC_ge (V : List Int → Rat) {es : List (Option Int)} {c : List Int} (h : c ∈ comps es) : V c ≤ V (hiC V es) := (hiB_ge V _ (comps es)).2 c h
theorem vF_bd (C : Cn ss) (R : Rk ss rs) (E : En ss es) (hm : m.ok) : ∀ c ∈ comps es, Bd 300 (vF ss rs m c) := fun c hc => vQ_bd C R (comps_fu E c hc) hm
theorem U_lowC (hn : 10 ≤ n) (V : List Int → Rat) (hb : ∀ c ∈ comps es, Bd 300 (V c)) : run U n "lowest" [.d (.list ((comps es).map (vrow V)))] h = .ok (.d (vrow V (loC V es))) h := by
  unfold loC
  have := comps_ne es
  cases e : comps es with
  | nil => exact absurd e this
  | cons c r =>
    rw [e] at hb
    exact U_lowest hn V c r hb
theorem U_highC (hn : 10 ≤ n) (V : List Int → Rat) (hb : ∀ c ∈ comps es, Bd 300 (V c)) : run U n "highest" [.d (.list ((comps es).map (vrow V)))] h = .ok (.d (vrow V (hiC V es))) h := by
  unfold hiC
  have := comps_ne es
  cases e : comps es with
  | nil => exact absurd e this
  | cons c r =>
    rw [e] at hb
    exact U_highest hn V c r hb
theorem U_least (hn : 20 ≤ n) (C : Cn ss) (R : Rk ss rs) (E : En ss es) (hm : m.ok) : run U n "least" [.d (.tuple (sD ss)), .d (.tuple (eD es)), .d (.tuple (sD rs)), .d (meD m)] h = .ok (.d (fr (vF ss rs m (loC (vF ss rs m) es)))) h := by
  obtain ⟨k, rfl, hk⟩ := sucN hn
  have c := U_checked (n := k) (h := h) (by omega) C R E hm
  have l := U_lowC (n := k) (h := h) (by omega) (vF ss rs m) (vF_bd C R E hm)
  rw [u_least]
  simp [c_least, c, l, vrow]
theorem U_greatest (hn : 20 ≤ n) (C : Cn ss) (R : Rk ss rs) (E : En ss es) (hm : m.ok) : run U n "greatest" [.d (.tuple (sD ss)), .d (.tuple (eD es)), .d (.tuple (sD rs)), .d (meD m)] h = .ok (.d (fr (vF ss rs m (hiC (vF ss rs m) es)))) h := by
  obtain ⟨k, rfl, hk⟩ := sucN hn
  have c := U_checked (n := k) (h := h) (by omega) C R E hm
  have l := U_highC (n := k) (h := h) (by omega) (vF ss rs m) (vF_bd C R E hm)
  rw [u_greatest]
  simp [c_greatest, c, l, vrow]
theorem U_least_c (hn : 20 ≤ n) (C : Cn ss) (R : Rk ss rs) (E : En ss es) (hm : m.ok) : run U n "least_completion" [.d (.tuple (sD ss)), .d (.tuple (eD es)), .d (.tuple (sD rs)), .d (meD m)] h = .ok (.d (.tuple (iD (loC (vF ss rs m) es)))) h := by
  obtain ⟨k, rfl, hk⟩ := sucN hn
  have c := U_checked (n := k) (h := h) (by omega) C R E hm
  have l := U_lowC (n := k) (h := h) (by omega) (vF ss rs m) (vF_bd C R E hm)
  rw [u_least_completion]
  simp [c_least_completion, c, l, vrow]
theorem U_greatest_c (hn : 20 ≤ n) (C : Cn ss) (R : Rk ss rs) (E : En ss es) (hm : m.ok) : run U n "greatest_completion" [.d (.tuple (sD ss)), .d (.tuple (eD es)), .d (.tuple (sD rs)), .d (meD m)] h = .ok (.d (.tuple (iD (hiC (vF ss rs m) es)))) h := by
  obtain ⟨k, rfl, hk⟩ := sucN hn
  have c := U_checked (n := k) (h := h) (by omega) C R E hm
  have l := U_highC (n := k) (h := h) (by omega) (vF ss rs m) (vF_bd C R E hm)
  rw [u_greatest_completion]
  simp [c_greatest_completion, c, l, vrow]
theorem U_completions (hn : 10 ≤ n) (C : Cn ss) (E : En ss es) : run U n "completions" [.d (.tuple (sD ss)), .d (.tuple (eD es))] h = .ok (.d (.list (rD (comps es)))) h := by
  obtain ⟨k, rfl, hk⟩ := sucN hn
  have ac := U_all_completions (n := k) (h := h) (by omega) C E
  have rj := U_rjud_e (n := k) (h := h) (by omega) C E
  rw [u_completions]
  simp [c_completions, rj, ac]
theorem U_unjudged (hn : 10 ≤ n) (C : Cn ss) (E : En ss es) : run U n "unjudged" [.d (.tuple (sD ss)), .d (.tuple (eD es))] h = .ok (.d (.tuple (sD (openS ss es)))) h := by
  obtain ⟨k, rfl, hk⟩ := sucN hn
  have ac := U_open (n := k) (h := h) (es := es) (by omega) C
  have rj := U_rjud_e (n := k) (h := h) (by omega) C E
  rw [u_unjudged]
  simp [c_unjudged, rj, ac]
theorem U_lbelow {j k : Nat} {p q : Rat} (hn : 1 ≤ n) (hp : Bd j p) (hq : Bd k q) (hj : j ≤ 8000) (hk : k ≤ 8000) : run U n "_law_below" [.d (fr p), .d (fr q)] h = .ok (.d (.bool (decide (p < q)))) h := by
  obtain ⟨i, rfl⟩ := Nat.exists_eq_add_of_le' hn
  have m1 := mul_ok (lt8 hp.1 hj) (b := (q.den : Int)) (lt8 (by simpa using hq.2) hk)
  have m2 := mul_ok (lt8 hq.1 hk) (b := (p.den : Int)) (lt8 (by simpa using hp.2) hj)
  rw [u__law_below]
  simp [c__law_below, fr, m1, m2, Rat.lt_iff]
/-- the sign of a comparison -/
def sgQ (p q : Rat) : Int := if q < p then 1 else if p < q then -1 else 0
theorem U_sign_of (hn : 10 ≤ n) (C : Cn ss) (R : Rk ss one) (S : Rk ss other) (F : Fu ss cs) (hm : m.ok) : run U n "sign_of" [.d (.tuple (sD ss)), .d (.tuple (iD cs)), .d (.tuple (sD one)), .d (.tuple (sD other)), .d (meD m)] h = .ok (.d (.int (sgQ (vQ ss cs one m) (vQ ss cs other m)))) h := by
  obtain ⟨k, rfl, hk⟩ := sucN hn
  have v1 := U_value_of (n := k) (h := h) (by omega) C R F hm
  have v2 := U_value_of (n := k) (h := h) (by omega) C S F hm
  have b1 := U_below (n := k) (h := h) (by omega) (vQ_bd C R F hm) (vQ_bd C S F hm) (by decide) (by decide)
  have b2 := U_below (n := k) (h := h) (by omega) (vQ_bd C S F hm) (vQ_bd C R F hm) (by decide) (by decide)
  rw [u_sign_of]
  generalize vQ ss cs one m = p at v1 b1 b2
  generalize vQ ss cs other m = q at v2 b1 b2
  have key : (if decide (q < p) = true then (1 : Int) else 0) - (if decide (p < q) = true then 1 else 0) = sgQ p q := by
    unfold sgQ
    by_cases a : q < p
    · have : ¬ p < q := Rat.not_lt.mpr (Rat.le_of_lt a)
      simp [a, this]
    · by_cases b : p < q <;> simp [a, b]
  simp only [decide_eq_true_eq] at key
  simp [c_sign_of, evP, parSet, v1, v2, b1, b2, bltD, key]
theorem sgQ_neg (p q : Rat) : (sgQ p q < 0) = (p < q) := by
  unfold sgQ
  apply propext
  by_cases a : q < p
  · have : ¬ p < q := Rat.not_lt.mpr (Rat.le_of_lt a)
    simp [a, this]
  · by_cases b : p < q <;> simp [a, b]
/-- the first completion in which one is worse -/
def agC (ss one other : List Str) (m : Me) (es : List (Option Int)) : Option (List Int) := (comps es).find? fun c => decide (vQ ss c one m < vQ ss c other m)
def ocD : Option (List Int) → D
  | some c => .tuple (iD c)
  | none => .none
theorem U_first_against (hn : 20 ≤ n) (C : Cn ss) (R : Rk ss one) (S : Rk ss other) (E : En ss es) (hm : m.ok) : run U n "first_against" [.d (.tuple (sD ss)), .d (.tuple (eD es)), .d (.tuple (sD one)), .d (.tuple (sD other)), .d (meD m)] h = .ok (.d (ocD (agC ss one other m es))) h := by
  obtain ⟨k, rfl, hk⟩ := sucN hn
  have ac := U_all_completions (n := k) (h := h) (by omega) C E
  rw [u_first_against]
  simp only [c_first_against, xs_cons, xs_for, evI_0, ev_23, evA_1, evA_0, ev_0, List.getElem?_cons_zero, List.getElem?_cons_succ, rs_ok_, ac, seqItems, ofO_some, forK_eq]
  refine fin_find (fun c => .tuple (iD c)) (fun c => decide (vQ ss c one m < vQ ss c other m)) (fun c => .tuple (iD c)) (fun σ => ∃ v, σ = [some (.d (.tuple (sD ss))), some (.d (.tuple (eD es))), some (.d (.tuple (sD one))), some (.d (.tuple (sD other))), some (.d (meD m)), v]) (comps es) rfl ⟨none, rfl⟩ ?_ ?_ ?_ ?_
  · rintro c hc σ ⟨v, rfl⟩ q
    have s := U_sign_of (n := k) (h := h) (by omega) C R S (comps_fu E c hc) hm
    have q' : decide (sgQ (vQ ss c one m) (vQ ss c other m) < 0) = false := by simp only [sgQ_neg]; exact q
    simp [forF, assignD, s, q']
  · rintro c hc σ ⟨v, rfl⟩ q
    have s := U_sign_of (n := k) (h := h) (by omega) C R S (comps_fu E c hc) hm
    have q' : decide (sgQ (vQ ss c one m) (vQ ss c other m) < 0) = true := by simp only [sgQ_neg]; exact q
    simp [forF, assignD, s, q']
  · rintro σ ⟨v, rfl⟩ q
    unfold agC
    rw [q]
    simp [ocD]
  · intro c q
    unfold agC
    rw [q]
    simp [ocD]
theorem U_require_two (hn : 11 ≤ n) (C : Cn ss) (R : Rk ss one) (S : Rk ss other) (E : En ss es) (hm : m.ok) : run U n "require_two" [.d (.tuple (sD ss)), .d (.tuple (eD es)), .d (.tuple (sD one)), .d (.tuple (sD other)), .d (meD m)] h = .ok (.d .none) h := by
  obtain ⟨k, rfl, hk⟩ := sucN hn
  rw [u_require_two]
  simp [c_require_two, U_rjud_e, U_rrank_r, U_rmeas_m, C, R, S, E, hm, lows hk]
theorem U_never_worse (hn : 21 ≤ n) (C : Cn ss) (R : Rk ss one) (S : Rk ss other) (E : En ss es) (hm : m.ok) : run U n "is_never_worse" [.d (.tuple (sD ss)), .d (.tuple (eD es)), .d (.tuple (sD one)), .d (.tuple (sD other)), .d (meD m)] h = .ok (.d (.bool (agC ss one other m es).isNone)) h := by
  obtain ⟨k, rfl, hk⟩ := sucN hn
  have f := U_first_against (n := k) (h := h) hk C R S E hm
  have r := U_require_two (n := k) (h := h) (by omega) C R S E hm
  rw [u_is_never_worse]
  cases q : agC ss one other m es <;> rw [q] at f <;> simp [c_is_never_worse, f, r, ocD]
theorem U_against (hn : 21 ≤ n) (C : Cn ss) (R : Rk ss one) (S : Rk ss other) (E : En ss es) (hm : m.ok) : run U n "completion_against" [.d (.tuple (sD ss)), .d (.tuple (eD es)), .d (.tuple (sD one)), .d (.tuple (sD other)), .d (meD m)] h = .ok (.d (ocD (agC ss one other m es))) h := by
  obtain ⟨k, rfl, hk⟩ := sucN hn
  have f := U_first_against (n := k) (h := h) hk C R S E hm
  have r := U_require_two (n := k) (h := h) (by omega) C R S E hm
  rw [u_completion_against]
  simp [c_completion_against, f, r]
theorem agC_none : (agC ss one other m es).isNone = true ↔ ∀ c ∈ comps es, vQ ss c other m ≤ vQ ss c one m := by
  rw [Option.isNone_iff_eq_none, agC, List.find?_eq_none]
  simp [Rat.not_lt]
end
end J
end JBnd2

section JPos
set_option Elab.async false
set_option linter.all false
set_option maxRecDepth 100000
set_option autoImplicit false
set_option maxHeartbeats 8000000
/-! J.Pos: all values, from the least to the greatest; changed judgements; the assumed completion. -/
namespace J
open PySem
section
variable {h : PH} {a b : Cl} {xs : List D}
@[simp] theorem set_last : (h ++ [a]).set h.length b = h ++ [b] := by simp
@[simp] theorem isC_last : isC (h ++ [.lst xs]) h.length = true := isC_ok (xs := xs) (by simp)
@[simp] theorem app_last {x : D} (hl : xs.length < 4000) : appAt h.length (.d x) (h ++ [.lst xs]) = .ok () (h ++ [.lst (xs ++ [x])]) := by
  rw [appAt_ok (xs := xs) (by simp) (by unfold lineN; omega), set_last]
end
/-- the values of rows, each once, ascending -/
def pvN (V : List Int → Rat) : Nat → List (List Int) → List Rat
  | 0, _ => []
  | _, [] => []
  | k + 1, r :: rows => V (loB V r (r :: rows)) :: pvN V k ((r :: rows).filter fun c => !decide (V c = V (loB V r (r :: rows))))
def pvL (V : List Int → Rat) (rows : List (List Int)) : List Rat := pvN V rows.length rows
theorem filt_lt (V : List Int → Rat) (r : List Int) (rows : List (List Int)) : ((r :: rows).filter fun c => !decide (V c = V (loB V r (r :: rows)))).length ≤ rows.length := by
  have mem : loB V r (r :: rows) ∈ r :: rows := by
    have := pickB_mem (fun x b => decide (V x < V b)) (r :: rows) r
    simp only [List.mem_cons] at this ⊢
    exact this.elim .inl id
  have := List.length_filter_lt_length_iff_exists (p := fun c => !decide (V c = V (loB V r (r :: rows)))) (l := r :: rows)
  have lt := this.mpr ⟨_, mem, by simp⟩
  simp only [List.length_cons] at lt
  omega
section
variable {n : Nat} {h : PH} {ss rs one other : List Str} {cs : List Int} {es : List (Option Int)} {m : Me} {x y z : D}
def pvB : CB := (.cons (.asg 7 (.ix (.call "lowest" (.cons (.var 5) .nil)) (.lit (.int 1)))) (.cons (.app 6 (.var 7)) (.cons (.asg 5 (.lc (.seq (.var 5)) (.nm 8) (.cmp .ne (.ix (.var 8) (.lit (.int 1))) (.var 7)) (.var 8) [8])) .nil)))
theorem pv_loop (hn : 10 ≤ n) (V : List Int → Rat) (v0 v1 v2 v3 v4 : Option PV) : ∀ (k : Nat) (rows : List (List Int)) (acc : List Rat) (f : Nat) (v7 v8 : Option PV), rows.length ≤ k → k < f → (∀ c ∈ rows, Bd 300 (V c)) → acc.length + k ≤ 1000 →
    ∃ w5 w7 w8, whlL (whC (run U n) (.var 5)) (exB (run U n) pvB) f [v0, v1, v2, v3, v4, some (.d (.list (rows.map (vrow V)))), some (.cell h.length), v7, v8] (h ++ [.lst (acc.map fr)]) = .ok (.nx [v0, v1, v2, v3, v4, w5, some (.cell h.length), w7, w8]) (h ++ [.lst ((acc ++ pvN V k rows).map fr)]) := by
  intro k
  induction k with
  | zero =>
    intro rows acc f v7 v8 hr hf hb ha
    obtain rfl : rows = [] := by cases rows <;> simp at hr ⊢
    obtain ⟨f, rfl⟩ : ∃ q, f = q + 1 := ⟨f - 1, by omega⟩
    refine ⟨some (.d (.list [])), v7, v8, ?_⟩
    rw [whl_f (h1 := h ++ [.lst (acc.map fr)]) (by simp [whC])]
    simp [pvN]
  | succ k ih =>
    intro rows acc f v7 v8 hr hf hb ha
    obtain ⟨f, rfl⟩ : ∃ q, f = q + 1 := ⟨f - 1, by omega⟩
    cases rows with
    | nil =>
      refine ⟨some (.d (.list [])), v7, v8, ?_⟩
      rw [whl_f (h1 := h ++ [.lst (acc.map fr)]) (by simp [whC])]
      simp [pvN]
    | cons r rows =>
      simp only [List.length_cons] at hr
      have lw := U_lowest (n := n) (h := h ++ [.lst (acc.map fr)]) hn V r rows hb
      have fl := filt_lt V r rows
      obtain ⟨v5', v7', v8', e⟩ := ih ((r :: rows).filter fun c => !decide (V c = V (loB V r (r :: rows)))) (acc ++ [V (loB V r (r :: rows))]) f (some (.d (fr (V (loB V r (r :: rows)))))) v8 (by omega) (by omega) (fun c hc => hb c (List.mem_filter.mp hc).1) (by simp; omega)
      refine ⟨v5', v7', v8', ?_⟩
      rw [whl_t (h1 := h ++ [.lst (acc.map fr)]) (σ' := [v0, v1, v2, v3, v4, some (.d (.list (((r :: rows).filter fun c => !decide (V c = V (loB V r (r :: rows)))).map (vrow V)))), some (.cell h.length), some (.d (fr (V (loB V r (r :: rows))))), v8]) (h2 := h ++ [.lst ((acc ++ [V (loB V r (r :: rows))]).map fr)]) (by simp [whC])]
      · rw [e]
        simp [pvN]
      · have ix : ixD (vrow V (loB V r (r :: rows))) (.int 1) = some (fr (V (loB V r (r :: rows)))) := rfl
        generalize hR : r :: rows = R at lw ix
        generalize loB V r R = b at lw ix
        generalize hl : V b = low at ix
        have lc : R.length ≤ 1000 := by rw [← hR, List.length_cons]; omega
        simp only [pvB, xs_cons, ex_0, ex_6, ev_15, ev_23, evA_1, evA_0, ev_0, ev_2, dat_int, List.getElem?_cons_zero, List.getElem?_cons_succ, rs_ok_, lw, val_d, Option.bind_some, ix, Option.map_some, ofO_some, kont_nx_, List.set_cons_succ, List.set_cons_zero, isC_last, if_true, app_last (show (acc.map fr).length < 4000 by simp; omega), xs_lc, evI_0, seqItems]
        rw [lcK_ok (by simp; omega), compL_of (vrow V) (fun c => if !decide (V c = low) then some (vrow V c) else none) R (l := R.map (vrow V)) rfl]
        · simp only [rs_ok_, lcR_eq, kont_nx_, exB_0, List.map_append, List.map_cons, List.map_nil, List.set_cons_succ, List.set_cons_zero]
          congr 5
          have : ∀ R : List (List Int), R.filterMap (fun c => if !decide (V c = low) then some (vrow V c) else none) = (R.filter fun c => !decide (V c = low)).map (vrow V) := fun R => by
            induction R with
            | nil => rfl
            | cons c R ih => by_cases q : V c = low <;> simp [q, ih, List.filterMap_cons, List.filter_cons] <;> simpa using ih
          rw [this]
        · intro c hc
          have ne := ne_fr (V c) low
          have ixc : ixD (vrow V c) (.int 1) = some (fr (V c)) := rfl
          by_cases q : V c = low
          · simp [lcF, compF, wipeP, assignD, ixc, ne_fr, q]
          · simp [lcF, compF, wipeP, assignD, ixc, ne_fr, q]
theorem U_possible (hn : 20 ≤ n) (C : Cn ss) (R : Rk ss rs) (E : En ss es) (hm : m.ok) : run U n "possible_values" [.d (.tuple (sD ss)), .d (.tuple (eD es)), .d (.tuple (sD rs)), .d (meD m)] h = .ok (.d (.list ((pvL (vF ss rs m) (comps es)).map fr))) h := by
  obtain ⟨k, rfl, hk⟩ := sucN hn
  have c := U_checked (n := k) (h := h) (by omega) C R E hm
  have cl := comps_len C E
  have idc : ∀ Γ c σ h t own, compL (lcF Γ (.nm t) own (.lit (.bl true)) c σ) ((comps es).map (vrow (vF ss rs m))) h = compL (lcF Γ (.nm t) own (.lit (.bl true)) c σ) ((comps es).map (vrow (vF ss rs m))) h := fun _ _ _ _ _ _ => rfl
  rw [u_possible_values]
  simp only [c_possible_values, xs_cons, ex_0, ex_3, ev_23, evA_1, evA_0, ev_0, List.getElem?_cons_zero, List.getElem?_cons_succ, rs_ok_, c, kont_nx_, List.set_cons_succ, List.set_cons_zero, evP, xs_lc, evI_0, seqItems, ofO_some]
  rw [lcK_ok (by simp; omega), compM_of (vrow (vF ss rs m)) (vrow (vF ss rs m)) (comps es) (l := (comps es).map (vrow (vF ss rs m))) rfl (fun c _ => by simp [lcF, compF, wipeP, assignD])]
  simp only [rs_ok_, lcR_eq, ev_4, evD_0, List.length_nil, Nat.zero_le, if_true]
  obtain ⟨v5, v7, v8, e⟩ := pv_loop (h := h) (show 10 ≤ k by omega) (vF ss rs m) (some (.d (.tuple (sD ss)))) (some (.d (.tuple (eD es)))) (some (.d (.tuple (sD rs)))) (some (.d (meD m))) (some (.d (.list ((comps es).map (vrow (vF ss rs m)))))) (comps es).length (comps es) [] whlMost none none (Nat.le_refl _) (by unfold whlMost; omega) (vF_bd C R E hm) (by simp; omega)
  simp only [pvB, List.map_nil] at e
  simp only [rs_ok_, toCell, parSet, kont_nx_, List.set_cons_succ, List.set_cons_zero, xs_cons, xs_whl, e, ex_8, ev_0, List.getElem?_cons_zero, List.getElem?_cons_succ, kont_rt_, List.nil_append, fn_cell]
  rfl
end
end J
end JPos

section JMono
set_option Elab.async false
set_option linter.all false
set_option maxRecDepth 100000
set_option autoImplicit false
set_option maxHeartbeats 8000000
/-! J.Mono: changed judgements; completions with more relevant documents. -/
namespace J
open PySem
/-! ### all values -/
theorem mem_pvN (V : List Int → Rat) : ∀ (k : Nat) (rows : List (List Int)), rows.length ≤ k → ∀ c ∈ rows, V c ∈ pvN V k rows
  | 0, rows, hl, c, hc => by
    obtain rfl : rows = [] := by cases rows <;> simp at hl ⊢
    cases hc
  | k + 1, [], _, c, hc => nomatch hc
  | k + 1, r :: rows, hl, c, hc => by
    simp only [pvN, List.mem_cons]
    by_cases q : V c = V (loB V r (r :: rows))
    · exact .inl q
    · refine .inr (mem_pvN V k _ ?_ c (List.mem_filter.mpr ⟨hc, by simp [q]⟩))
      have := filt_lt V r rows
      simp only [List.length_cons] at hl
      omega
theorem mem_pvL (V : List Int → Rat) {rows : List (List Int)} {c : List Int} (hc : c ∈ rows) : V c ∈ pvL V rows := mem_pvN V _ rows (Nat.le_refl _) c hc
theorem pvN_mem (V : List Int → Rat) : ∀ (k : Nat) (rows : List (List Int)) (q : Rat), q ∈ pvN V k rows → ∃ c ∈ rows, V c = q
  | 0, _, _, h => nomatch h
  | _ + 1, [], _, h => nomatch h
  | k + 1, r :: rows, q, h => by
    simp only [pvN, List.mem_cons] at h
    rcases h with rfl | h
    · have := pickB_mem (fun x b => decide (V x < V b)) (r :: rows) r
      refine ⟨loB V r (r :: rows), ?_, rfl⟩
      simp only [List.mem_cons] at this ⊢
      exact this.elim .inl id
    · obtain ⟨c, hc, e⟩ := pvN_mem V k _ q h
      exact ⟨c, (List.mem_filter.mp hc).1, e⟩
/-! ### changed judgements -/
def chg {α : Type} (ss : List Str) (es : List α) (s : Str) (e : α) : List α := List.zipWith (fun t x => if t = s then e else x) ss es
theorem chg_len {α : Type} (ss : List Str) (es : List α) (s : Str) (e : α) (h : ss.length = es.length) : (chg ss es s e).length = es.length := by
  simp [chg, h]
theorem chg_out {α : Type} : ∀ (ss : List Str) (es : List α) (s : Str) (e : α), ss.length = es.length → s ∉ ss → chg ss es s e = es
  | [], [], _, _, _, _ => rfl
  | t :: ss, x :: es, s, e, hl, hs => by
    simp only [List.mem_cons, not_or] at hs
    simp only [List.length_cons, Nat.add_right_cancel_iff] at hl
    show (if t = s then e else x) :: chg ss es s e = _
    rw [if_neg (Ne.symm hs.1), chg_out ss es s e hl hs.2]
theorem putE_chg {α : Type} : ∀ (ss : List Str) (es : List α) (j : Nat) (s : Str) (e : α), ss.length = es.length → ss.Nodup → ss[j]? = some s → putE es j e = chg ss es s e
  | [], _, j, _, _, _, _, hj => by simp at hj
  | t :: ss, [], _, _, _, hl, _, _ => by simp at hl
  | t :: ss, x :: es, 0, s, e, hl, nd, hj => by
    simp only [List.length_cons, Nat.add_right_cancel_iff] at hl
    simp only [List.getElem?_cons_zero, Option.some.injEq] at hj
    subst hj
    show e :: es = (if t = t then e else x) :: chg ss es t e
    rw [if_pos rfl, chg_out ss es t e hl (List.nodup_cons.mp nd).1]
  | t :: ss, x :: es, j + 1, s, e, hl, nd, hj => by
    simp only [List.length_cons, Nat.add_right_cancel_iff] at hl
    simp only [List.getElem?_cons_succ] at hj
    have ih := putE_chg ss es j s e hl (List.nodup_cons.mp nd).2 hj
    show x :: putE es j e = (if t = s then e else x) :: chg ss es s e
    rw [ih, if_neg]
    rintro rfl
    exact (List.nodup_cons.mp nd).1 (List.mem_of_getElem? hj)
theorem putE_eD (es : List (Option Int)) (j : Nat) (e : Option Int) : putE (eD es) j (oD e) = eD (putE es j e) := by
  cases e <;> simp [putE, eD, oD]
theorem En.chg {ss : List Str} {es : List (Option Int)} (E : En ss es) (s : Str) {e : Option Int} (he : e = none ∨ e = some 0 ∨ e = some 1) : En ss (chg ss es s e) := by
  refine ⟨by rw [chg_len _ _ _ _ E.el]; exact E.el, fun x hx => ?_⟩
  have : ∀ (ss : List Str) (es : List (Option Int)), x ∈ J.chg ss es s e → x = e ∨ x ∈ es := fun ss => by
    induction ss with
    | nil => intro es h; cases es <;> cases h
    | cons t ss ih =>
      intro es h
      cases es with
      | nil => cases h
      | cons y es =>
        rcases List.mem_cons.mp (show x ∈ (if t = s then e else y) :: J.chg ss es s e from h) with q | q
        · split at q
          · exact .inl q
          · exact .inr (by rw [q]; simp)
        · rcases ih es q with z | z
          · exact .inl z
          · exact .inr (List.mem_cons_of_mem _ z)
  rcases this ss es hx with rfl | z
  · exact he
  · exact E.e01 x z
theorem openS_sub {ss : List Str} {es : List (Option Int)} : ∀ s ∈ openS ss es, s ∈ ss := fun s hs => by
  unfold openS at hs
  obtain ⟨p, hp, e⟩ := List.mem_filterMap.mp hs
  obtain ⟨a, b⟩ := p
  cases b with
  | none => simp only [Option.some.injEq] at e; subst e; exact (List.of_mem_zip hp).1
  | some i => cases e
theorem openS_cons (t : Str) (ss : List Str) (x : Option Int) (es : List (Option Int)) : openS (t :: ss) (x :: es) = match x with | none => t :: openS ss es | some _ => openS ss es := by
  cases x <;> rfl
theorem openS_chg : ∀ (ss : List Str) (es : List (Option Int)) (s : Str) (v : Int), openS ss (chg ss es s (some v)) = (openS ss es).filter fun t => decide (t ≠ s)
  | [], _, _, _ => rfl
  | _ :: _, [], _, _ => rfl
  | t :: ss, x :: es, s, v => by
    show openS (t :: ss) ((if t = s then some v else x) :: chg ss es s (some v)) = _
    rw [openS_cons, openS_cons, openS_chg ss es s v]
    by_cases q : t = s
    · subst q; cases x <;> simp [List.filter_cons]
    · cases x <;> simp [q, List.filter_cons]
theorem openS_nd {ss : List Str} {es : List (Option Int)} (nd : ss.Nodup) : (openS ss es).Nodup := by
  induction ss generalizing es with
  | nil => exact List.nodup_nil
  | cons t ss ih =>
    cases es with
    | nil => exact List.nodup_nil
    | cons x es =>
      rw [openS_cons]
      have h := List.nodup_cons.mp nd
      cases x with
      | some i => exact ih h.2
      | none => exact List.nodup_cons.mpr ⟨fun z => h.1 (openS_sub _ z), ih h.2⟩
/-- a further judgement has fewer completions -/
theorem comps_chg : ∀ {ss : List Str} {es : List (Option Int)} {s : Str} {v : Int} {c : List Int}, ss.length = es.length → ss.Nodup → s ∈ openS ss es → (v = 0 ∨ v = 1) → isCp c (chg ss es s (some v)) → isCp c es
  | [], [], _, _, _, _, _, _, _, h => h
  | t :: ss, x :: es, s, v, c, hl, nd, hs, hv, h => by
    simp only [List.length_cons, Nat.add_right_cancel_iff] at hl
    have hnd := List.nodup_cons.mp nd
    have h' : isCp c ((if t = s then some v else x) :: chg ss es s (some v)) := h
    cases c with
    | nil => cases h'
    | cons a c =>
      rw [openS_cons] at hs
      by_cases q : t = s
      · subst q
        rw [if_pos rfl, chg_out ss es t _ hl hnd.1] at h'
        refine ⟨?_, h'.2⟩
        cases x with
        | none => have := h'.1; simp [opts] at this ⊢; omega
        | some i => exact absurd (openS_sub _ hs) hnd.1
      · rw [if_neg q] at h'
        refine ⟨h'.1, comps_chg hl hnd.2 ?_ hv h'.2⟩
        cases x with
        | none => rcases List.mem_cons.mp hs with z | z
                  · exact absurd z.symm q
                  · exact z
        | some i => exact hs
theorem open_nil : ∀ {ss : List Str} {es : List (Option Int)}, ss.length = es.length → openS ss es = [] → ∃ cs : List Int, es = cs.map some
  | [], [], _, _ => ⟨[], rfl⟩
  | t :: ss, x :: es, hl, h => by
    simp only [List.length_cons, Nat.add_right_cancel_iff] at hl
    rw [openS_cons] at h
    cases x with
    | none => cases h
    | some i =>
      obtain ⟨cs, rfl⟩ := open_nil hl h
      exact ⟨i :: cs, rfl⟩
section
variable {n : Nat} {h : PH} {ss rs : List Str} {es : List (Option Int)}
theorem uJ : HJ U := { int := rfl, doc := rfl, asc := rfl, col := rfl, rcol := rfl, jud := rfl, rjud := rfl, rdoc := rfl, chg := rfl, wj := rfl }
theorem U_with (hn : 5 ≤ n) (C : Cn ss) (E : En ss es) {s : Str} (hs : s ∈ ss) {e : Option Int} (he : e = none ∨ e = some 0 ∨ e = some 1) : run U n "with_judgement" [.k (.tuple (sD ss)), .d (.tuple (eD es)), .d (.str s), .d (oD e)] h = .ok (.d (.tuple (eD (chg ss es s e)))) h := by
  obtain ⟨k, rfl⟩ := Nat.exists_eq_add_of_le' hn
  obtain ⟨j, hj⟩ := List.getElem?_of_mem hs
  have := wj_ok uJ k h ss C.sm C.ok C.nd (eD es) (judB_es E) (by rw [eD_len]; have := E.el; have := C.len; omega) j s hj (oD e) (by rcases he with rfl | rfl | rfl <;> rfl)
  rw [this, putE_eD, putE_chg ss es j s e E.el C.nd hj]
def asm (es : List (Option Int)) : List Int := es.map fun e => e.getD 0
theorem asm_mem : ∀ es : List (Option Int), isCp (asm es) es
  | [] => trivial
  | e :: es => ⟨by cases e <;> simp [opts], asm_mem es⟩
theorem U_assumed (hn : 10 ≤ n) (C : Cn ss) (E : En ss es) : run U n "assumed" [.d (.tuple (sD ss)), .d (.tuple (eD es))] h = .ok (.d (.tuple (iD (asm es)))) h := by
  obtain ⟨k, rfl, hk⟩ := sucN hn
  have rj := U_rjud_e (n := k) (h := h) (by omega) C E
  have l := E.el
  have l7 := C.len
  rw [u_assumed]
  simp only [c_assumed, xs_cons, ex_5, ex_8, ev_23, evA_1, evA_0, ev_0, List.getElem?_cons_zero, List.getElem?_cons_succ, rs_ok_, rj, kont_nx_, ev_18, xs_lc, evI_0, seqItems, ofO_some]
  rw [lcK_ok (by rw [eD_len]; omega), compM_of oD (fun e => .int (e.getD 0)) es (l := eD es) rfl]
  · simp [asm, iD, Function.comp_def]
  · intro e he
    cases e <;> simp [lcF, compF, wipeP, assignD, oD]
end
/-! ### more relevant documents -/
def Pw : List Int → List Int → Prop
  | [], [] => True
  | x :: xs, y :: ys => x ≤ y ∧ Pw xs ys
  | _, _ => False
theorem Pw.asm : ∀ {es : List (Option Int)} {c : List Int}, E01 es → isCp c es → Pw (asm es) c
  | [], [], _, _ => trivial
  | e :: es, x :: c, E, h => by
    refine ⟨?_, Pw.asm (fun e he => E e (List.mem_cons_of_mem _ he)) h.2⟩
    have := h.1
    cases e <;> simp [opts] at this ⊢ <;> omega
theorem Pw.ent : ∀ {ss : List Str} {xs ys : List Int}, Pw xs ys → ∀ r, entI ss xs r ≤ entI ss ys r
  | [], _, _, _, r => by simp [entI, J.ent]
  | s :: ss, [], [], _, r => by simp [entI, J.ent]
  | s :: ss, x :: xs, y :: ys, h, r => by
    by_cases q : s = r
    · subst q; rw [entI_cons_eq, entI_cons_eq]; exact h.1
    · rw [entI_cons_ne q, entI_cons_ne q]; exact Pw.ent h.2 r
theorem Pw.hits {ss : List Str} {xs ys : List Int} (h : Pw xs ys) : ∀ rs : List Str, Pw (hitsI ss xs rs) (hitsI ss ys rs)
  | [] => trivial
  | r :: rs => ⟨h.ent r, Pw.hits h rs⟩
theorem Pw.take : ∀ {xs ys : List Int}, Pw xs ys → ∀ k, Pw (xs.take k) (ys.take k)
  | [], [], _, k => by simp [Pw]
  | x :: xs, y :: ys, h, 0 => trivial
  | x :: xs, y :: ys, h, k + 1 => ⟨h.1, Pw.take h.2 k⟩
theorem Pw.sum : ∀ {xs ys : List Int}, Pw xs ys → xs.sum ≤ ys.sum
  | [], [], _ => Int.le_refl _
  | x :: xs, y :: ys, h => by
    have := Pw.sum h.2
    have := h.1
    simp only [List.sum_cons]; omega
theorem inv_nn (k : Nat) : (0 : Rat) ≤ (k : Rat)⁻¹ := by
  have e : (k : Rat)⁻¹ = mkRat 1 k := by rw [Rat.mkRat_eq_div, Rat.div_def]; simp
  rw [e]
  exact mk0 1 k (by decide)
theorem mk_mono {a b : Int} (h : a ≤ b) (k : Nat) : mkRat a k ≤ mkRat b k := by
  rw [Rat.mkRat_eq_div, Rat.mkRat_eq_div, Rat.div_def, Rat.div_def]
  exact Rat.mul_le_mul_of_nonneg_right (Rat.intCast_le_intCast.mpr h) (inv_nn k)
theorem mk_anti {i j : Nat} (hi : 0 < i) (h : i ≤ j) : mkRat 1 j ≤ mkRat 1 i := by
  have hi' : (0 : Rat) < (i : Rat) := Rat.natCast_pos.mpr hi
  have hj' : (0 : Rat) < (j : Rat) := Rat.natCast_pos.mpr (by omega)
  have hij : (i : Rat) ≤ (j : Rat) := Rat.natCast_le_natCast.mpr h
  rw [Rat.mkRat_eq_div, Rat.mkRat_eq_div]
  have a : (i : Rat) * (i : Rat)⁻¹ = 1 := Rat.mul_inv_cancel _ (by intro z; rw [z] at hi'; exact absurd hi' Rat.lt_irrefl)
  have b : (j : Rat) * (j : Rat)⁻¹ = 1 := Rat.mul_inv_cancel _ (by intro z; rw [z] at hj'; exact absurd hj' Rat.lt_irrefl)
  have p := inv_nn i
  have q := inv_nn j
  rw [Rat.div_def, Rat.div_def]
  have s1 := Rat.mul_le_mul_of_nonneg_right hij (Rat.mul_nonneg p q)
  have e1 : (i : Rat) * ((i : Rat)⁻¹ * (j : Rat)⁻¹) = (j : Rat)⁻¹ := by rw [← Rat.mul_assoc, a, Rat.one_mul]
  have e2 : (j : Rat) * ((i : Rat)⁻¹ * (j : Rat)⁻¹) = (i : Rat)⁻¹ := by rw [Rat.mul_comm (i : Rat)⁻¹, ← Rat.mul_assoc, b, Rat.one_mul]
  rw [e1, e2] at s1
  simpa using s1
theorem Pw.gain : ∀ {xs ys : List Int} (i : Nat), Pw xs ys → gainQ i xs ≤ gainQ i ys
  | [], [], _, _ => Rat.le_refl
  | x :: xs, y :: ys, i, h => by
    have h1 := Pw.gain (i + 1) h.2
    have h2 := mk_mono h.1 (i + 1)
    show mkRat x (i + 1) + gainQ (i + 1) xs ≤ mkRat y (i + 1) + gainQ (i + 1) ys
    grind
theorem Pw.rcp : ∀ {xs ys : List Int} (i : Nat), B01 xs → B01 ys → Pw xs ys → idxQ i (xs.findIdx? (fun x => x == 1)) ≤ idxQ i (ys.findIdx? (fun x => x == 1))
  | [], [], _, _, _, _ => Rat.le_refl
  | x :: xs, y :: ys, i, hx, hy, h => by
    have ih := Pw.rcp (i + 1) (fun z hz => hx z (List.mem_cons_of_mem _ hz)) (fun z hz => hy z (List.mem_cons_of_mem _ hz)) h.2
    have sh : ∀ zs : List Int, idxQ i ((zs.findIdx? (fun x => x == 1)).map (· + 1)) = idxQ (i + 1) (zs.findIdx? (fun x => x == 1)) := fun zs => by
      cases zs.findIdx? (fun x => x == 1) with
      | none => rfl
      | some j => simp only [Option.map_some, idxQ]; congr 1; omega
    rcases hx x List.mem_cons_self with rfl | rfl <;> rcases hy y List.mem_cons_self with rfl | rfl
    · simp only [List.findIdx?_cons]
      simpa [sh] using ih
    · simp only [List.findIdx?_cons]
      cases e : xs.findIdx? (fun x => x == 1) with
      | none => simpa [idxQ, e] using mk0 1 (i + 1) (by decide)
      | some j => simpa [idxQ, e] using mk_anti (show 0 < i + 1 by omega) (show i + 1 ≤ i + (j + 1) + 1 by omega)
    · have := h.1; omega
    · simp only [List.findIdx?_cons]
      exact Rat.le_refl
theorem Pw.val {ss : List Str} {xs ys : List Int} {r r' : Nat} (h : Pw xs ys) (hx : B01 xs) (hy : B01 ys) : (∀ k, valQ xs r (.prec k) ≤ valQ ys r' (.prec k)) ∧ (∀ k, valQ xs r (.gain k) ≤ valQ ys r' (.gain k)) ∧ valQ xs r .rcp ≤ valQ ys r' .rcp := by
  refine ⟨fun k => mk_mono (h.take k).sum k, fun k => (h.take k).gain 0, ?_⟩
  have := Pw.rcp 0 hx hy h
  have e : ∀ zs : List Int, rcpQ zs = idxQ 0 (zs.findIdx? (fun x => x == 1)) := fun zs => by
    unfold rcpQ
    cases zs.findIdx? (fun x => x == 1) <;> simp [idxQ]
  show rcpQ xs ≤ rcpQ ys
  rw [e, e]
  exact this
end J
end JMono

section JLaw
set_option Elab.async false
set_option linter.all false
set_option maxRecDepth 100000
set_option autoImplicit false
set_option maxHeartbeats 8000000
/-! J.Law: a law's turns. -/
namespace J
open PySem
@[simp] theorem seq_L (xs : List D) : seqItems (.list xs) = some xs := rfl
@[simp] theorem seq_T (xs : List D) : seqItems (.tuple xs) = some xs := rfl
/-- a block of a turn goes through -/
def Ends (ns : List Int) (w j : Nat) (r : Rs Fl) : Prop := ∃ σ h, r = .ok (.nx σ) h ∧ Fr ns w j σ h
section
variable {ns : List Int} {w j : Nat}
theorem Ends_nx {vs : List (Option PV)} {xs : List Int} (lv : vs.length = w) (hb : xs.length ≤ 1000 * j) : Ends ns w j (.ok (.nx (some (.d (.list (iD ns))) :: some (.cell 0) :: vs)) [.lst (iD xs)]) := ⟨_, _, rfl, Fr_mk lv hb⟩
theorem for_preH {α : Type} (i : α → D) (I : List α → PEnv → PH → Prop) {f : D → PEnv → PH → Rs Fl} : ∀ (xs pre : List α) (σ : PEnv) (h : PH), I pre σ h → (∀ p x q σ h, xs = p ++ x :: q → I (pre ++ p) σ h → ∃ σ' h', f (i x) σ h = .ok (.nx σ') h' ∧ I (pre ++ p ++ [x]) σ' h') → ∃ σ' h', forL f (xs.map i) σ h = .ok (.nx σ') h' ∧ I (pre ++ xs) σ' h'
  | [], pre, σ, h, h0, _ => ⟨σ, h, rfl, by simpa using h0⟩
  | x :: xs, pre, σ, h, h0, st => by
    obtain ⟨σ1, h1, e1, I1⟩ := st [] x xs σ h rfl (by simpa using h0)
    obtain ⟨σ2, h2, e2, I2⟩ := for_preH i I xs (pre ++ [x]) σ1 h1 (by simpa using I1) fun p y q σ h e I => by
      obtain ⟨σ', h', a, b⟩ := st (x :: p) y q σ h (by rw [e]; rfl) (by simpa using I)
      exact ⟨σ', h', a, by simpa using b⟩
    exact ⟨σ2, h2, by rw [List.map_cons, forL_cons f _ _ e1, e2], by simpa using I2⟩
theorem Ends_for {α : Type} (i : α → D) (I : List α → PEnv → PH → Prop) {f : D → PEnv → PH → Rs Fl} {K : Fl → PH → Rs Fl} (xs : List α) {l : List D} (hl : l = xs.map i) {σ : PEnv} {h : PH} (h0 : I [] σ h) (hs : ∀ p x q σ h, xs = p ++ x :: q → I p σ h → ∃ σ' h', f (i x) σ h = .ok (.nx σ') h' ∧ I (p ++ [x]) σ' h') (hk : ∀ σ' h', I xs σ' h' → Ends ns w j (K (.nx σ') h')) : Ends ns w j ((forL f l σ h).bind K) := by
  subst hl
  obtain ⟨σ', h', e, I'⟩ := for_preH i I xs [] σ h h0 (by simpa using hs)
  rw [e]
  exact hk σ' h' (by simpa using I')
/-- a law: its loop, then true -/
theorem law_frame {Γ : Fns} {b : CB} {k : Nat} (ns : List Int) (q : Int) (hq : q = k) (hk : k ≤ 100) (step : ∀ j : Nat, j < 100 → ∀ (vs : List (Option PV)) (xs : List Int), vs.length = w → xs.length ≤ 1000 * j → Ends ns w (j + 1) (exB Γ b (some (.d (.list (iD ns))) :: some (.cell 0) :: vs.set 0 (some (.d (.int (j : Int))))) [.lst (iD xs)])) {r : CB} (rest : ∀ (vs : List (Option PV)) (xs : List Int), vs.length = w → xs.length ≤ 1000 * k → ∃ h, exB Γ r (some (.d (.list (iD ns))) :: some (.cell 0) :: vs) [.lst (iD xs)] = .ok (.rt (.d (.bool true))) h) :
    ∃ h', finish 0 (exB Γ (.cons (.asgC 1 (.lst .nil)) (.cons (.for_ (.rng (.lit (.int q))) (.nm 2) b) r)) (some (.d (.list (iD ns))) :: none :: List.replicate w none) []) = .ok (.d (.bool true)) h' := by
  subst hq
  rw [xb_asgC (xs := []) (h1 := []) (by rfl)]
  simp only [List.set_cons_succ, List.set_cons_zero, List.nil_append, List.length_nil]
  rw [xb_for (xs := rangeD 0 k) (h1 := [.lst []]) (rng1_ev (by rfl) (by omega))]
  have go : ∀ (m j : Nat) (σ : PEnv) (h : PH), j + m ≤ 100 → Fr ns w j σ h → ∃ σ' h', forL (fun x σ h => (ofO (assignD (.nm 2) x σ) h).bind fun σ' h => exB Γ b σ' h) (rangeD (j : Int) m) σ h = .ok (.nx σ') h' ∧ Fr ns w (j + m) σ' h' := by
    intro m
    induction m with
    | zero => exact fun j σ h _ I => ⟨σ, h, rfl, I⟩
    | succ m ih =>
      intro j σ h hj I
      obtain ⟨vs, xs, lv, rfl, rfl, lx⟩ := I
      obtain ⟨σ1, h1, e1, I1⟩ := step j (by omega) vs xs lv lx
      obtain ⟨σ2, h2, e2, I2⟩ := ih (j + 1) σ1 h1 (by omega) I1
      refine ⟨σ2, h2, ?_, by rw [show j + (m + 1) = j + 1 + m by omega]; exact I2⟩
      rw [rangeD, forL_cons _ _ _ (σ' := σ1) (h1 := h1)]
      · exact e2
      · simp only [assignD, ofO_some, rs_ok, List.set_cons_succ]
        exact e1
  obtain ⟨σ', h', e, I⟩ := go k 0 (some (.d (.list (iD ns))) :: some (.cell 0) :: List.replicate w none) [.lst []] (by omega) ⟨List.replicate w none, [], by simp, rfl, rfl, by simp⟩
  rw [show ((0 : Nat) : Int) = 0 from rfl] at e
  obtain ⟨vs, xs, lv, rfl, rfl, lx⟩ := I
  obtain ⟨h2, e2⟩ := rest vs xs lv (by simpa using lx)
  rw [e, rs_ok, kont_nx, e2]
  exact ⟨_, rfl⟩
theorem rest_true {Γ : Fns} {σ : PEnv} {h : PH} : ∃ h', exB Γ (.cons (.ret (.lit (.bl true))) .nil) σ h = .ok (.rt (.d (.bool true))) h' := ⟨h, by rw [xb_ret (by rfl)]; rfl⟩
theorem dr_shuf {n : Nat} {ns : List Int} (hf : 2 ≤ n) (hn : ns.length ≤ 63) (xs : List Int) (hl : xs.length ≤ 1000000) (us : List Str) (hu : us.length ≤ 20) : ∃ (ws : List Str) (ys : List Int), run U n "_law_shuffled" [.d (.list (iD ns)), .cell 0, .d (.tuple (sD us))] [.lst (iD xs)] = .ok (.d (.list (sD ws))) [.lst (iD ys)] ∧ ws.Perm us ∧ ys.length ≤ xs.length + 40 := by
  obtain ⟨k, rfl⟩ := Nat.exists_eq_add_of_le' hf
  obtain ⟨vs, ys, e, p, l⟩ := shuffled_ok uD.draw uD.shuf k ns hn [.lst (iD xs)] 0 xs rfl (.tuple (sD us)) (sD us) rfl (by rw [List.length_map]; omega) (by rw [List.length_map]; omega)
  obtain ⟨ws, rfl, pw⟩ := perm_sD p
  rw [List.length_map] at l
  exact ⟨ws, ys, e, pw, by omega⟩
end
/-- a list of so many slots, slot by slot -/
theorem vs7 {α : Type} {vs : List α} (h : vs.length = 7) : ∃ a b c d e f g, vs = [a, b, c, d, e, f, g] := by
  match vs, h with
  | [a, b, c, d, e, f, g], _ => exact ⟨a, b, c, d, e, f, g, rfl⟩
theorem in_frs (q : Rat) (ps : List Rat) : cmpD .nin (fr q) (.list (ps.map fr)) = some (!decide (q ∈ ps)) := by
  have sh : SeqAt.shaped (.list (ps.map fr)) = true := by
    unfold SeqAt.shaped
    rw [Bool.and_eq_true]
    refine ⟨?_, decide_eq_true ?_⟩
    · simp only [PyData.canLay0]
      refine canAll fun x hx => ?_
      obtain ⟨p, _, rfl⟩ := List.mem_map.mp hx
      have := shaped_fr p
      unfold SeqAt.shaped at this
      rw [Bool.and_eq_true] at this
      exact this.1
    · simp only [PyData.depth]
      have := depthAll_le (xs := ps.map fr) (m := 2) fun x hx => by
        obtain ⟨p, _, rfl⟩ := List.mem_map.mp hx
        simp [fr, PyData.depth, PyData.depthAll]
      omega
  simp only [cmpD, shaped_fr, sh, Bool.and_self, if_true]
  congr 2
  rw [List.any_map]
  rw [Bool.eq_iff_iff, List.any_eq_true]
  simp only [Function.comp, fr_eqv, decide_eq_true_eq]
  exact ⟨fun ⟨p, hp, e⟩ => e ▸ hp, fun h => ⟨q, h, rfl⟩⟩
end J
end JLaw

section P07
set_option Elab.async false
set_option linter.all false
set_option maxRecDepth 100000
set_option autoImplicit false
set_option maxHeartbeats 8000000
/-! k07: the law. -/
namespace J
open PySem
theorem law_step (ns : List Int) (hn : ns.length ≤ 63) (j : Nat) (hj : j < 100) (vs : List (Option PV)) (xs : List Int) (lv : vs.length = 12) (lx : xs.length ≤ 1000 * j) : Ends ns 12 (j + 1) (exB (run cT 199) L0 (some (.d (.list (iD ns))) :: some (.cell 0) :: vs.set 0 (some (.d (.int (j : Int))))) [.lst (iD xs)]) := by
  match vs, lv with
  | [v2, v3, v4, v5, v6, v7, v8, v9, v10, v11, v12, v13], _ =>
  obtain ⟨ss, ys1, e1, C, l7, b1⟩ := dr_coll (n := 199) (by decide) hn xs (by omega) 7 (by decide) (by decide)
  obtain ⟨es, ys2, e2, E, b2⟩ := dr_ents (n := 199) (by decide) hn ys1 (by omega) C
  obtain ⟨rs, ys3, e3, R, b3⟩ := dr_rank (n := 199) (by decide) hn ys2 (by omega) C
  obtain ⟨m, ys4, e4, hm, b4⟩ := dr_meas (n := 199) (by decide) hn ys3 (by omega)
  obtain ⟨y, ys5, e5, hy, b5⟩ := dr_pick (n := 199) (by decide) hn ys4 (by omega) (rD (comps es)) (by simp [rD, comps_ne])
  obtain ⟨c, hc, rfl⟩ := List.mem_map.mp hy
  have F := comps_fu E c hc
  have ou : (openS ss es).length ≤ 20 := by
    have := len_sub (openS_nd (es := es) C.nd) openS_sub
    have := C.len
    omega
  obtain ⟨ws, ys6, e6, pw, b6⟩ := dr_shuf (n := 199) (by decide) hn ys5 (by omega) (openS ss es) ou
  have Flo := comps_fu E _ (loC_mem (vF ss rs m) es)
  have Fhi := comps_fu E _ (hiC_mem (vF ss rs m) es)
  have bl := vQ_bd C R Flo hm
  have bh := vQ_bd C R Fhi hm
  have bo := vQ_bd C R F hm
  have q1 := U_lbelow (n := 199) (h := [.lst (iD ys5)]) (by decide) bo bl (by decide) (by decide)
  have q2 := U_lbelow (n := 199) (h := [.lst (iD ys5)]) (by decide) bh bo (by decide) (by decide)
  rw [decide_eq_false (Rat.not_lt.mpr (loC_le (vF ss rs m) hc))] at q1
  rw [decide_eq_false (Rat.not_lt.mpr (hiC_ge (vF ss rs m) hc))] at q2
  have q3 := in_frs (vF ss rs m c) (pvL (vF ss rs m) (comps es))
  rw [decide_eq_true (mem_pvL (vF ss rs m) hc)] at q3
  simp only [L0, L1, L2, L3, L4, L5, L6, L7, L8, L9, L10, L11]
  simp [st0, st1, st2, st3, st4, st5, st6, st7, st8, st9, st10, st11, e1, e2, e3, e4, e5, e6, evP, parSet, U_least, U_greatest, U_completions, U_value, U_possible, U_least_c, U_greatest_c, U_unjudged, C, E, R, hm, F, Flo, Fhi, q1, q2, q3, ne_fr]
  refine Ends_for PyData.str (fun p σ h => ∃ es' ys v9 v12 v13, σ = [some (.d (.list (iD ns))), some (.cell 0), some (.d (.int (j : Int))), some (.k (.tuple (sD ss))), some (.d (meD m)), some (.d (fr (vF ss rs m (loC (vF ss rs m) es')))), some (.d (fr (vF ss rs m (hiC (vF ss rs m) es')))), some (.d (fr (vF ss rs m c))), some (.d (.tuple (eD es'))), v9, some (.d (.tuple (eD es))), some (.d (.tuple (sD rs))), v12, v13] ∧ h = [.lst (iD ys)] ∧ En ss es' ∧ openS ss es' = (openS ss es).filter (fun t => decide (t ∉ p)) ∧ ys.length ≤ ys6.length + 2 * p.length) ws rfl ⟨es, ys6, _, _, _, rfl, rfl, E, (List.filter_eq_self.mpr (by simp)).symm, by simp⟩ ?_ ?_
  · rintro p s q σ h hw ⟨es', ys, v9, v12, v13, rfl, rfl, E', ho, hl⟩
    have nd : ws.Nodup := pw.nodup_iff.mpr (openS_nd C.nd)
    have sw : s ∈ openS ss es := pw.mem_iff.mp (by rw [hw]; simp)
    have sp : s ∉ p := by
      rw [hw] at nd
      exact fun z => (List.nodup_append.mp nd).2.2 s z s List.mem_cons_self rfl
    have so : s ∈ openS ss es' := by rw [ho]; exact List.mem_filter.mpr ⟨sw, by simp [sp]⟩
    have lw : p.length ≤ 20 := by
      have : ws.length = (openS ss es).length := pw.length_eq
      rw [hw] at this
      simp at this
      omega
    obtain ⟨r, zs, ed, r0, r2, bz⟩ := dr_draw (n := 199) (by decide) hn ys (by omega) 2 (by decide)
    have rv : r = 0 ∨ r = 1 := by omega
    have re : (some r : Option Int) = none ∨ (some r : Option Int) = some 0 ∨ (some r : Option Int) = some 1 := by rcases rv with rfl | rfl <;> simp
    have w := U_with (n := 199) (h := [.lst (iD zs)]) (by decide) C E' (openS_sub s so) re
    simp only [oD] at w
    have E2 := E'.chg s re
    have sub : ∀ d ∈ comps (chg ss es' s (some r)), d ∈ comps es' := fun d hd => mem_comps.mpr (comps_chg E'.el C.nd so rv (mem_comps.mp hd))
    have bd : ∀ es, En ss es → Bd 300 (vF ss rs m (loC (vF ss rs m) es)) ∧ Bd 300 (vF ss rs m (hiC (vF ss rs m) es)) := fun es E => ⟨vQ_bd C R (comps_fu E _ (loC_mem _ es)) hm, vQ_bd C R (comps_fu E _ (hiC_mem _ es)) hm⟩
    have q1 := U_lbelow (n := 199) (h := [.lst (iD zs)]) (by decide) (bd _ E2).1 (bd _ E').1 (by decide) (by decide)
    have q2 := U_lbelow (n := 199) (h := [.lst (iD zs)]) (by decide) (bd _ E').2 (bd _ E2).2 (by decide) (by decide)
    rw [decide_eq_false (Rat.not_lt.mpr (loC_le (vF ss rs m) (sub _ (loC_mem _ _))))] at q1
    rw [decide_eq_false (Rat.not_lt.mpr (hiC_ge (vF ss rs m) (sub _ (hiC_mem _ _))))] at q2
    refine ⟨_, _, ?_, chg ss es' s (some r), zs, some (.d (.str s)), some (.d (fr (vF ss rs m (loC (vF ss rs m) (chg ss es' s (some r)))))), some (.d (fr (vF ss rs m (hiC (vF ss rs m) (chg ss es' s (some r)))))), rfl, rfl, E2, ?_, ?_⟩
    · simp [forF, assignD, evP, parSet, ed, w, U_least, U_greatest, C, E2, R, hm, q1, q2]
    · rw [openS_chg, ho, List.filter_filter]
      congr 1
      funext t
      simp only [List.mem_append, List.mem_singleton, not_or, Bool.decide_and]
      rw [Bool.and_comm]
    · simp; omega
  · rintro σ h ⟨es', ys, v9, v12, v13, rfl, rfl, E', ho, hl⟩
    have o0 : openS ss es' = [] := by
      rw [ho, List.filter_eq_nil_iff]
      intro t ht
      simpa using pw.mem_iff.mpr ht
    obtain ⟨cs, rfl⟩ := open_nil E'.el o0
    have lo : loC (vF ss rs m) (cs.map some) = cs := by
      have := loC_mem (vF ss rs m) (cs.map some)
      rw [comps_full] at this
      simpa using this
    have hi : hiC (vF ss rs m) (cs.map some) = cs := by
      have := hiC_mem (vF ss rs m) (cs.map some)
      rw [comps_full] at this
      simpa using this
    have ys_len : ys.length ≤ 1000 * (j + 1) := by
      have : ws.length = (openS ss es).length := pw.length_eq
      omega
    have FA : Fu ss (asm es) := comps_fu E _ (mem_comps.mpr (asm_mem es))
    have asml : ∀ (k : Me), (k = .rcp ∨ (∃ i, k = .prec i) ∨ ∃ i, k = .gain i) → m = k → vF ss rs m (asm es) = vF ss rs m (loC (vF ss rs m) es) := fun k hk e => by
      subst e
      refine Rat.le_antisymm ?_ (loC_le _ (mem_comps.mpr (asm_mem es)))
      have pwc := Pw.asm E.e01 (mem_comps.mp (loC_mem (vF ss rs m) es))
      have vv := Pw.val (ss := ss) (r := (asm es).sum.toNat) (r' := (loC (vF ss rs m) es).sum.toNat) (Pw.hits (ss := ss) pwc rs) (hits_01 FA.c01 rs) (hits_01 Flo.c01 rs)
      rcases hk with rfl | ⟨i, rfl⟩ | ⟨i, rfl⟩
      · exact vv.2.2
      · exact vv.1 i
      · exact vv.2.1 i
    have kin : ∀ (z : Bool), cmpD .in_ ((fun d => match d with | .tuple (x :: _) => x | _ => .none) (meD m)) (.tuple [.str (Str.ofString "precision"), .str (Str.ofString "reciprocal"), .str (Str.ofString "gain")]) = some z → True := fun _ _ => trivial
    simp only [L12, L13]
    cases m with
    | avg =>
      have k : cmpD .in_ (.str (Str.ofString "average")) (.tuple [.str (Str.ofString "precision"), .str (Str.ofString "reciprocal"), .str (Str.ofString "gain")]) = some false := by decide +kernel
      simp [st12, st13, lo, hi, ne_fr, meD, k]
      exact Ends_nx rfl ys_len
    | rcl i =>
      have k : cmpD .in_ (.str (Str.ofString "recall")) (.tuple [.str (Str.ofString "precision"), .str (Str.ofString "reciprocal"), .str (Str.ofString "gain")]) = some false := by decide +kernel
      simp [st12, st13, lo, hi, ne_fr, meD, k]
      exact Ends_nx rfl ys_len
    | share i =>
      have k : cmpD .in_ (.str (Str.ofString "share")) (.tuple [.str (Str.ofString "precision"), .str (Str.ofString "reciprocal"), .str (Str.ofString "gain")]) = some false := by decide +kernel
      simp [st12, st13, lo, hi, ne_fr, meD, k]
      exact Ends_nx rfl ys_len
    | rcp =>
      have k : cmpD .in_ (.str (Str.ofString "reciprocal")) (.tuple [.str (Str.ofString "precision"), .str (Str.ofString "reciprocal"), .str (Str.ofString "gain")]) = some true := by decide +kernel
      have v := U_value (n := 199) (h := [.lst (iD ys)]) (by decide) C R FA hm
      have l := U_least (n := 199) (h := [.lst (iD ys)]) (by decide) C R E hm
      have a := asml .rcp (by simp) rfl
      simp only [meD] at v l
      simp [st12, st13, lo, hi, ne_fr, meD, k, U_assumed, C, E, v, l, a]
      exact Ends_nx rfl ys_len
    | prec i =>
      have k : cmpD .in_ (.str (Str.ofString "precision")) (.tuple [.str (Str.ofString "precision"), .str (Str.ofString "reciprocal"), .str (Str.ofString "gain")]) = some true := by decide +kernel
      have v := U_value (n := 199) (h := [.lst (iD ys)]) (by decide) C R FA hm
      have l := U_least (n := 199) (h := [.lst (iD ys)]) (by decide) C R E hm
      have a := asml (.prec i) (by simp) rfl
      simp only [meD] at v l
      simp [st12, st13, lo, hi, ne_fr, meD, k, U_assumed, C, E, v, l, a]
      exact Ends_nx rfl ys_len
    | gain i =>
      have k : cmpD .in_ (.str (Str.ofString "gain")) (.tuple [.str (Str.ofString "precision"), .str (Str.ofString "reciprocal"), .str (Str.ofString "gain")]) = some true := by decide +kernel
      have v := U_value (n := 199) (h := [.lst (iD ys)]) (by decide) C R FA hm
      have l := U_least (n := 199) (h := [.lst (iD ys)]) (by decide) C R E hm
      have a := asml (.gain i) (by simp) rfl
      simp only [meD] at v l
      simp [st12, st13, lo, hi, ne_fr, meD, k, U_assumed, C, E, v, l, a]
      exact Ends_nx rfl ys_len
theorem law_pure : ∀ ns : List Int, ns.length ≤ 63 → ∃ h', run cT 200 "law" [.d (.list (ns.map PyData.int))] [] = .ok (.d (.bool true)) h' := by
  intro ns hn
  rw [run_eq (c := c_law.c) rfl _ _ _ rfl, body_eq]
  exact law_frame (w := 12) (k := 7) ns 7 rfl (by decide) (law_step ns hn) (fun _ _ _ _ => rest_true)
end J
theorem PySem.Challenge.cw_judgedranks_k07_whole_bounds_holds : PySem.Challenge.rw_judgedranks_k07_whole_bounds.Holds :=
  J.to_law J.law_pure
end P07
