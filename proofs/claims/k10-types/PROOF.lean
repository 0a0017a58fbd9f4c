import PyProof.Rows.All
import Wide.All
import OpenK.AllK
import Wide.FinOn
import PySem.PyData
import PyProof.P3Statements
import PyProof.Lay0
import PyProof.EqLayable
import PyProof.ReprReads
import KE.LtData
import HandS.Base
import HandS.List
import HandS.Wide
import HandS.IsInst
import HandS.Exc
import KE.DataCmp
import PyProof.P3In
import PyProof.StrOps2
import PyProof.Rows.InDataRows
import HandS.Text
import HandS.TupAny
import HandS.TupMul
import HandS.Style
import HandS.RaiseMore
import PyProof.CallFns
import HandS.Dict
import HandS.Ends
import HandS.Codes
import HandS.Comp
import HandS.Iter
import HandS.SortKw
import KE.DataMinMax
import HandS.Words
import HandS.EndBits
import PySem.Challenge.RW_flowreprise_k10_types_and_values
set_option Elab.async false
set_option linter.all false
/-! Cr1: the core language, its values and its evaluator. -/
namespace Cr
open PySem L2

/-- a value: PyData; a mutable object is its location, written as a dict of one pair -/
abbrev D := PyData
def loc (n : Nat) : D := .dict [(.int (n : Int), .none)]

/-- what stands at a location -/
inductive Ob where
  | lst (xs : List D)
  | dic (kvs : List (Key × D))
  | ins (c : Nat) (fs : List (Str × D))
abbrev Sto := List Ob
abbrev Fr := List (Option D)

inductive Out (α : Type) where
  | ok (a : α) (S : Sto)
  | ex (c : Nat) (fs : List (Str × D)) (S : Sto)
  | bad

def Out.bind {α β : Type} (o : Out α) (f : α → Sto → Out β) : Out β :=
  match o with
  | .ok a S => f a S
  | .ex c fs S => .ex c fs S
  | .bad => .bad
@[simp] theorem bind_ok {α β : Type} (a : α) (S : Sto) (f : α → Sto → Out β) : (Out.ok a S).bind f = f a S := id rfl
@[simp] theorem bind_ex {α β : Type} (c : Nat) (fs : List (Str × D)) (S : Sto) (f : α → Sto → Out β) : (Out.ex c fs S : Out α).bind f = .ex c fs S := id rfl
@[simp] theorem bind_bad {α β : Type} (f : α → Sto → Out β) : (Out.bad : Out α).bind f = .bad := id rfl

/-- nothing is raised -/
def Out.nox {α : Type} (o : Out α) : Out α :=
  match o with
  | .ok a S => .ok a S
  | _ => .bad
@[simp] theorem nox_ok {α : Type} (a : α) (S : Sto) : (Out.ok a S).nox = .ok a S := id rfl
@[simp] theorem nox_bad {α : Type} : (Out.bad : Out α).nox = .bad := id rfl
/-- built-in functions and types that are called -/
inductive Bi where
  | abs | int | str | len | tuple | list | repr | max | maxd | min | all | any | sorted
  deriving DecidableEq
/-- methods of built-in types -/
inductive Mt where
  | append | pop0 | popAt | join | replace
  deriving DecidableEq

/-- expressions -/
inductive CE where
  | var (i : Nat)
  | con (p : D)
  | glb (g : Nat)
  | bop (op : Operator) (a b : CE)
  | cmp (op : CmpOp) (a b : CE)
  | chn (o1 o2 : CmpOp) (a b c : CE)
  | and (a b : CE)
  | or (a b : CE)
  | not (a : CE)
  | neg (a : CE)
  | ite (c a b : CE)
  | tup (xs : List CE)
  | lst (al : Bool) (xs : List CE)
  | dsp (xs : List CE)
  | lc (al : Bool) (tg : Nat) (it : CE) (ifs : List CE) (elt : CE)
  | lr (al : Bool) (tg : Nat) (rg : List CE) (ifs : List CE) (elt : CE)
  | idx (a b : CE)
  | sli (a : CE) (lo hi : Option CE)
  | call (f : Nat) (xs : List CE)
  | blt (b : Bi) (xs : List CE)
  | mth (m : Mt) (o : CE) (xs : List CE)
  | isi (a : CE) (t : String)
  | mxd (a : CE) (k : Int)

/-- targets -/
inductive CT where
  | nm (i : Nat)
  | tup (is : List Nat)
  | sub (o i : CE)

/-- statements -/
inductive CS where
  | exp (e : CE)
  | asg (t : CT) (e : CE)
  | par (i j : Nat) (a b : CE)
  | aug (i : Nat) (op : Operator) (e : CE)
  | ret (e : CE)
  | ife (c : CE) (a b : List CS)
  | whl (c : CE) (b : List CS)
  | fro (t : CT) (it : CE) (b : List CS)
  | frr (t : CT) (rg : List CE) (b : List CS)
  | brk | cnt | pss

/-- a def: how many slots, how many of them parameters; may new lists be let go at its end; the body -/
structure Fn where
  n : Nat
  p : Nat
  cut : Bool
  body : List CS

/-! ### reading -/
def lv (S : Sto) (d : D) : D := match d with
  | .dict [(.int n, .none)] => match S[n.toNat]? with
    | some (.lst xs) => .list xs
    | _ => d
  | d => d
/-- a list that is tracked -/
def lvT (S : Sto) (d : D) : Option (List D) := match d with
  | .list xs => some xs
  | .dict [(.int n, .none)] => match S[n.toNat]? with
    | some (.lst xs) => some xs
    | _ => none
  | _ => none
/-- the items of a list or tuple -/
def items (S : Sto) (d : D) : Option (List D) := match lv S d with
  | .list xs => some xs
  | .tuple xs => some xs
  | _ => none
def tyN (d : D) : Option String := match d with
  | .none => some "NoneType"
  | .bool _ => some "bool"
  | .int _ => some "int"
  | .str _ => some "str"
  | .list _ => some "list"
  | .tuple _ => some "tuple"
  | .dict _ => none
def isNon : D → Bool
  | .none => true
  | _ => false
/-- data that == and its like read -/
def plain (d : D) : Bool := d.canLay0 && decide (d.depth ≤ 64)

/-! ### operations -/
def repS (k : Int) (x : Str) : Str := ⟨((List.replicate k.toNat x.cps.toList).flatten).toArray⟩
def addD (x y : D) (S : Sto) : Out D := match x, y with
  | .int i, .int j => .ok (.int (i + j)) S
  | .str a, .str b => if a.length + b.length ≤ sizeLine then .ok (.str (a ++ b)) S else .bad
  | .tuple a, .tuple b => if a.length + b.length ≤ sizeLine then .ok (.tuple (a ++ b)) S else .bad
  | x, y => match lvT S x, lvT S y with
    | some a, some b => if a.length + b.length ≤ sizeLine then .ok (.list (a ++ b)) S else .bad
    | _, _ => .bad
def mulD (x y : D) (S : Sto) : Out D := match x, y with
  | .int i, .int j => if i.natAbs.log2 + j.natAbs.log2 < 1000000 then .ok (.int (i * j)) S else .bad
  | .str a, .int k => if 0 ≤ k ∧ k ≤ 1000 ∧ a.length ≤ 1000 then .ok (.str (repS k a)) S else .bad
  | .tuple a, .int k => if a ≠ [] ∧ 2 ≤ k ∧ k ≤ 1000 ∧ a.length ≤ 1000 then .ok (.tuple (List.replicate k.toNat a).flatten) S else .bad
  | x, .int k => match lvT S x with
    | some a => if -(2 ^ 63) ≤ k ∧ k < 2 ^ 63 ∧ a.length * k.toNat ≤ sizeLine then .ok (.list (List.replicate k.toNat a).flatten) S else .bad
    | none => .bad
  | _, _ => .bad
def binD (op : Operator) (x y : D) (S : Sto) : Out D := match op with
  | .Add => addD x y S
  | .Mult => mulD x y S
  | .Sub => match x, y with
    | .int i, .int j => .ok (.int (i - j)) S
    | _, _ => .bad
  | .FloorDiv => match x, y with
    | .int i, .int j => if j ≠ 0 ∧ j.natAbs.log2 < 9000 then .ok (.int (i.fdiv j)) S else .bad
    | _, _ => .bad
  | .Mod => match x, y with
    | .int i, .int j => if j ≠ 0 then .ok (.int (i.fmod j)) S else .bad
    | _, _ => .bad
  | .Pow => match x, y with
    | .int i, .int j => if 0 ≤ j ∧ j ≤ 1000000 ∧ i.natAbs < 2 ^ 64 then .ok (.int (i ^ j.toNat)) S else .bad
    | _, _ => .bad
  | _ => .bad
def inD (x : D) (ys : List D) : Bool := ys.any fun y => PyData.eqv y x
def cmpD (op : CmpOp) (x y : D) (S : Sto) : Out D := match op with
  | .Eq => if plain (lv S x) = true ∧ plain (lv S y) = true then .ok (.bool (PyData.eqv (lv S x) (lv S y))) S else .bad
  | .NotEq => if plain (lv S x) = true ∧ plain (lv S y) = true then .ok (.bool (!PyData.eqv (lv S x) (lv S y))) S else .bad
  | .Lt => if plain x = true ∧ plain y = true ∧ PySem.W.alike x y = true ∧ isNon x = false then .ok (.bool (PySem.W.dataLt x y)) S else .bad
  | .Gt => if plain x = true ∧ plain y = true ∧ PySem.W.alike x y = true ∧ isNon x = false then .ok (.bool (PySem.W.dataLt y x)) S else .bad
  | .LtE => if plain x = true ∧ plain y = true ∧ PySem.W.alike x y = true ∧ isNon x = false then .ok (.bool (!PySem.W.dataLt y x)) S else .bad
  | .GtE => if plain x = true ∧ plain y = true ∧ PySem.W.alike x y = true ∧ isNon x = false then .ok (.bool (!PySem.W.dataLt x y)) S else .bad
  | .Is => match y with
    | .none => match x with
      | .none => .ok (.bool true) S
      | _ => .ok (.bool false) S
    | .bool b => match x with
      | .bool a => .ok (.bool (decide (a = b))) S
      | _ => .ok (.bool false) S
    | _ => .bad
  | .IsNot => match y with
    | .none => match x with
      | .none => .ok (.bool false) S
      | _ => .ok (.bool true) S
    | .bool b => match x with
      | .bool a => .ok (.bool (!decide (a = b))) S
      | _ => .ok (.bool true) S
    | _ => .bad
  | .In => match lv S y with
    | .list ys => if plain (.list ys) = true ∧ plain x = true then .ok (.bool (inD x ys)) S else .bad
    | .tuple ys => if plain (.tuple ys) = true ∧ plain x = true then .ok (.bool (inD x ys)) S else .bad
    | .str b => match x with
      | .str a => .ok (.bool (!(Builtin.Str.occurrences b a 0 b.length 1).isEmpty)) S
      | _ => .bad
    | _ => .bad
  | .NotIn => match lv S y with
    | .list ys => if plain (.list ys) = true ∧ plain x = true then .ok (.bool (!inD x ys)) S else .bad
    | .tuple ys => if plain (.tuple ys) = true ∧ plain x = true then .ok (.bool (!inD x ys)) S else .bad
    | .str b => match x with
      | .str a => .ok (.bool (!(!(Builtin.Str.occurrences b a 0 b.length 1).isEmpty))) S
      | _ => .bad
    | _ => .bad
def keyOf : D → Option Key
  | .int i => some (.inl i)
  | .str x => some (.inr x)
  | _ => none
def dicOf (S : Sto) : D → Option (List (Key × D))
  | .dict [(.int n, .none)] => match S[n.toNat]? with
    | some (.dic kvs) => some kvs
    | _ => none
  | _ => none
def getK (kvs : List (Key × D)) (k : Key) : Option D := (kvs.find? fun p => decide (p.1 = k)).map (·.2)
def idxD (x y : D) (S : Sto) : Out D := match dicOf S x with
  | some kvs => match (keyOf y).bind (getK kvs) with
    | some v => .ok v S
    | none => .bad
  | none => match y with
    | .int i => match lv S x with
      | .list xs => match atI xs i with
        | some v => .ok v S
        | none => .bad
      | .tuple xs => match atI xs i with
        | some v => .ok v S
        | none => .bad
      | .str z => if z.length ≤ sizeLine then match atI z.cps.toList i with
        | some c => .ok (.str ⟨#[c]⟩) S
        | none => .bad
        else .bad
      | _ => .bad
    | _ => .bad
def cutL {α : Type} (xs : List α) (lo hi : Option Int) : List α := (xs.drop (HT.sIx xs.length 0 lo)).take (HT.sIx xs.length xs.length hi - HT.sIx xs.length 0 lo)
def partD (o : Option D) : Option (Option Int) := match o with
  | none => some none
  | some (.int i) => some (some i)
  | _ => none
def sliD (x : D) (lo hi : Option Int) (S : Sto) : Out D := match lv S x with
  | .list xs => .ok (.list (cutL xs lo hi)) S
  | .tuple xs => .ok (.tuple (cutL xs lo hi)) S
  | .str z => if z.length ≤ sizeLine then .ok (.str ⟨(cutL z.cps.toList lo hi).toArray⟩) S else .bad
  | _ => .bad
def boolsOf : List D → Option (List Bool)
  | [] => some []
  | .bool b :: r => (boolsOf r).map (b :: ·)
  | _ => none
def intsOf : List D → Option (List Int)
  | [] => some []
  | .int b :: r => (intsOf r).map (b :: ·)
  | _ => none
def maxI (n : Int) : List Int → Int
  | [] => n
  | m :: r => maxI (if m > n then m else n) r
def minI (n : Int) : List Int → Int
  | [] => n
  | m :: r => minI (if m < n then m else n) r
def bltD (b : Bi) (xs : List D) (S : Sto) : Out D := match b, xs with
  | .abs, [.int i] => .ok (.int (if i < 0 then -i else i)) S
  | .int, [.int i] => .ok (.int i) S
  | .int, [.bool k] => .ok (.int (if k then 1 else 0)) S
  | .str, [.int i] => if i.natAbs.log2 < 1920 then .ok (.str (toString i)) S else .bad
  | .str, [.str a] => .ok (.str a) S
  | .len, [x] => match lv S x with
    | .str a => if a.length ≤ sizeLine then .ok (.int a.length) S else .bad
    | .list a => .ok (.int a.length) S
    | .tuple a => .ok (.int a.length) S
    | _ => .bad
  | .tuple, [x] => match lv S x with
    | .list a => .ok (.tuple a) S
    | .tuple a => .ok (.tuple a) S
    | _ => .bad
  | .list, [x] => match lv S x with
    | .list a => .ok (.list a) S
    | .tuple a => .ok (.list a) S
    | _ => .bad
  | .repr, [.bool k] => .ok (.str (if k then "True" else "False")) S
  | .all, [x] => match lv S x with
    | .list a => match boolsOf a with
      | some bs => .ok (.bool (bs.all id)) S
      | none => .bad
    | _ => .bad
  | .any, [x] => match lv S x with
    | .list a => match boolsOf a with
      | some bs => .ok (.bool (bs.any id)) S
      | none => .bad
    | _ => .bad
  | .max, [x] => match lv S x with
    | .list a => match intsOf a with
      | some (n :: r) => .ok (.int (maxI n r)) S
      | _ => .bad
    | _ => .bad
  | .min, [x] => match lv S x with
    | .list a => match intsOf a with
      | some (n :: r) => .ok (.int (minI n r)) S
      | _ => .bad
    | _ => .bad
  | _, _ => .bad
def locOf : D → Option Nat
  | .dict [(.int n, .none)] => some n.toNat
  | _ => none
def mthD (m : Mt) (x : D) (xs : List D) (S : Sto) : Out D := match m, xs with
  | .append, [y] => match locOf x with
    | some n => match S[n]? with
      | some (.lst a) => if a.length < sizeLine then .ok .none (S.set n (.lst (a ++ [y]))) else .bad
      | _ => .bad
    | none => .bad
  | .pop0, [] => match locOf x with
    | some n => match S[n]? with
      | some (.lst a) => match a[a.length - 1]? with
        | some y => .ok y (S.set n (.lst a.dropLast))
        | none => .bad
      | _ => .bad
    | none => .bad
  | .popAt, [.int i] => match locOf x with
    | some n => match S[n]? with
      | some (.lst a) => if -(2 ^ 63) ≤ i ∧ i < 2 ^ 63 then match PySem.seqIndex? i a.length with
        | some k => match a[k]? with
          | some y => .ok y (S.set n (.lst (a.eraseIdx k)))
          | none => .bad
        | none => .bad
        else .bad
      | _ => .bad
    | none => .bad
  | _, _ => .bad
/-- a new object -/
def newO (o : Ob) (S : Sto) : Out D := .ok (loc S.length) (S ++ [o])
def mkL (al : Bool) (xs : List D) (S : Sto) : Out D := if xs.length ≤ sizeLine then (if al = true then newO (.lst xs) S else .ok (.list xs) S) else .bad
def putK {α : Type} (kvs : List (Key × α)) (k : Key) (v : α) : List (Key × α) := if kvs.any (fun p => decide (p.1 = k)) = true then kvs.map (fun p => if p.1 = k then (k, v) else p) else kvs ++ [(k, v)]

/-- k1, v1, k2, v2 .. as pairs -/
def pairsOf : List D → Option (List (Key × D))
  | [] => some []
  | k :: v :: r => (keyOf k).bind fun k => (pairsOf r).map ((k, v) :: ·)
  | _ => none
def mergeD {α : Type} (kvs more : List (Key × α)) : List (Key × α) := more.foldl (fun acc kv => putK acc kv.1 kv.2) kvs
def mkD (ys : List D) (S : Sto) : Out D := match pairsOf ys with
  | some ps => if ps.length ≤ 15 then newO (.dic (mergeD [] ps)) S else .bad
  | none => .bad

/-- by a truth -/
def onB {α : Type} (d : D) (S : Sto) (t f : Sto → Out α) : Out α := match d with
  | .bool true => t S
  | .bool false => f S
  | _ => .bad
@[simp] theorem onB_true {α : Type} (S : Sto) (t f : Sto → Out α) : onB (.bool true) S t f = t S := id rfl
@[simp] theorem onB_false {α : Type} (S : Sto) (t f : Sto → Out α) : onB (.bool false) S t f = f S := id rfl
def asB (d : D) (S : Sto) : Out D := match d with
  | .bool b => .ok (.bool b) S
  | _ => .bad
def notD (d : D) (S : Sto) : Out D := match d with
  | .bool k => .ok (.bool (!k)) S
  | _ => .bad
def negD (d : D) (S : Sto) : Out D := match d with
  | .int i => .ok (.int (-i)) S
  | _ => .bad
def isiD (t : String) (d : D) (S : Sto) : Out D := match (tyN (lv S d)).bind fun n => kitB n t with
  | some b => .ok (.bool b) S
  | none => .bad
/-- max(.., default=k) -/
def mxD (k : Int) (x : D) (S : Sto) : Out D := match lv S x with
  | .list a => match intsOf a with
    | some [] => .ok (.int k) S
    | some (n :: r) => .ok (.int (r.foldl max n)) S
    | none => .bad
  | _ => .bad
/-- what a method is called on -/
def recvB (m : Mt) (x : D) (S : Sto) : Bool := match m with
  | .join => match x with
    | .str _ => true
    | _ => false
  | .replace => match x with
    | .str _ => true
    | _ => false
  | _ => match locOf x with
    | some n => match S[n]? with
      | some (.lst _) => true
      | _ => false
    | none => false
/-- a slice's part -/
def prtD (l : Option D) (S : Sto) : Out (Option Int) := match partD l with
  | some l => .ok l S
  | none => .bad

/-! ### loops -/
open Classical in
/-- the walked object still holds the items -/
noncomputable def stays (d : D) (xs : List D) (S : Sto) : Bool := decide (lv S d = .list xs ∨ lv S d = .tuple xs ∨ d = .none)
noncomputable def lcL (d : D) (all : List D) (step : D → Sto → Out (Option D)) : List D → Sto → Out (List D)
  | [], S => .ok [] S
  | x :: xs, S => (step x S).bind fun r S1 => if stays d all S1 = true then (lcL d all step xs S1).bind fun rs S2 => .ok (r.toList ++ rs) S2 else .bad
def rngL (lo : Int) (n : Nat) : List D := (List.range n).map fun i => .int (lo + (i : Nat))
def small62 (i : Int) : Prop := -(2 ^ 62) ≤ i ∧ i < 2 ^ 62
instance (i : Int) : Decidable (small62 i) := by unfold small62; infer_instance
/-- what is walked: the object (none where there is none) and the items -/
def walked (x : D) (S : Sto) : Out (D × List D) := match lv S x with
  | .list xs => .ok (x, xs) S
  | .tuple xs => .ok (x, xs) S
  | .str z => .ok (.none, z.cps.toList.map fun c => .str ⟨#[c]⟩) S
  | _ => .bad
def rangeD (xs : List D) (S : Sto) : Out (D × List D) := match xs with
  | [.int j] => if small62 j then .ok (.none, rngL 0 j.toNat) S else .bad
  | [.int i, .int j] => if small62 i ∧ small62 j then .ok (.none, rngL i (j - i).toNat) S else .bad
  | _ => .bad

/-! ### expressions -/
section
variable (R : Nat → List D → Sto → Out D)
mutual
noncomputable def evE : CE → Fr → Sto → Out D
  | .var i, σ, S => match σ[i]? with
    | some (some d) => .ok d S
    | _ => .bad
  | .con p, _, S => .ok p S
  | .glb _, _, _ => .bad
  | .bop op a b, σ, S => (evE a σ S).bind fun x S1 => (evE b σ S1).bind fun y S2 => binD op x y S2
  | .cmp op a b, σ, S => (evE a σ S).bind fun x S1 => (evE b σ S1).bind fun y S2 => cmpD op x y S2
  | .chn o1 o2 a b c, σ, S => (evE a σ S).bind fun x S1 => (evE b σ S1).bind fun y S2 => (cmpD o1 x y S2).bind fun t S3 =>
      onB t S3 (fun S3 => (evE c σ S3).bind fun z S4 => cmpD o2 y z S4) fun S3 => .ok (.bool false) S3
  | .and a b, σ, S => (evE a σ S).bind fun x S1 => onB x S1 (fun S1 => evE b σ S1) fun S1 => .ok (.bool false) S1
  | .or a b, σ, S => (evE a σ S).bind fun x S1 => onB x S1 (fun S1 => .ok (.bool true) S1) fun S1 => evE b σ S1
  | .not a, σ, S => (evE a σ S).bind fun x S1 => notD x S1
  | .neg a, σ, S => (evE a σ S).bind fun x S1 => negD x S1
  | .ite c a b, σ, S => (evE c σ S).bind fun x S1 => onB x S1 (fun S1 => evE a σ S1) fun S1 => evE b σ S1
  | .tup xs, σ, S => (evEs xs σ S).bind fun ys S1 => if ys.length ≤ sizeLine then .ok (.tuple ys) S1 else .bad
  | .lst al xs, σ, S => (evEs xs σ S).bind fun ys S1 => mkL al ys S1
  | .dsp xs, σ, S => (evEs xs σ S).bind fun ys S1 => mkD ys S1
  | .lc al tg it ifs elt, σ, S => ((evE it σ S).bind fun x S1 => walked x S1).bind fun p S1 =>
      (lcL p.1 p.2 (fun x S2 => ((evT ifs ((σ.set tg none).set tg (some x)) S2).bind fun t S3 => if t = true then (evE elt ((σ.set tg none).set tg (some x)) S3).bind fun y S4 => .ok (some y) S4 else .ok none S3).nox) p.2 S1).bind fun ys S5 => mkL al ys S5
  | .lr al tg rg ifs elt, σ, S => ((evEs rg σ S).bind fun x S1 => rangeD x S1).bind fun p S1 =>
      (lcL p.1 p.2 (fun x S2 => ((evT ifs ((σ.set tg none).set tg (some x)) S2).bind fun t S3 => if t = true then (evE elt ((σ.set tg none).set tg (some x)) S3).bind fun y S4 => .ok (some y) S4 else .ok none S3).nox) p.2 S1).bind fun ys S5 => mkL al ys S5
  | .idx a b, σ, S => (evE a σ S).bind fun x S1 => (evE b σ S1).bind fun y S2 => idxD x y S2
  | .sli a lo hi, σ, S => (evE a σ S).bind fun x S1 => ((evO lo σ S1).bind prtD).bind fun l S2 => ((evO hi σ S2).bind prtD).bind fun h S3 => sliD x l h S3
  | .call f xs, σ, S => (evEs xs σ S).bind fun ys S1 => R f ys S1
  | .blt b xs, σ, S => (evEs xs σ S).bind fun ys S1 => bltD b ys S1
  | .mth m o xs, σ, S => (evE o σ S).bind fun x S1 => if recvB m x S1 = true then (evEs xs σ S1).bind fun ys S2 => mthD m x ys S2 else .bad
  | .isi a t, σ, S => (evE a σ S).bind fun x S1 => isiD t x S1
  | .mxd a k, σ, S => (evE a σ S).bind fun x S1 => mxD k x S1
noncomputable def evEs : List CE → Fr → Sto → Out (List D)
  | [], _, S => .ok [] S
  | a :: r, σ, S => (evE a σ S).bind fun x S1 => (evEs r σ S1).bind fun xs S2 => .ok (x :: xs) S2
noncomputable def evO : Option CE → Fr → Sto → Out (Option D)
  | none, _, S => .ok none S
  | some a, σ, S => (evE a σ S).bind fun x S1 => .ok (some x) S1
/-- the tests of a comprehension -/
noncomputable def evT : List CE → Fr → Sto → Out Bool
  | [], _, S => .ok true S
  | a :: r, σ, S => (evE a σ S).bind fun x S1 => onB x S1 (fun S1 => evT r σ S1) fun S1 => .ok false S1
end
end

/-! ### statements -/
inductive SO where
  | nx (σ : Fr) (S : Sto)
  | rt (d : D) (S : Sto)
  | bk (σ : Fr) (S : Sto)
  | ct (σ : Fr) (S : Sto)
  | ex (c : Nat) (fs : List (Str × D)) (σ : Fr) (S : Sto)
  | bad
def onS (d : D) (S : Sto) (t f : Sto → SO) : SO := match d with
  | .bool true => t S
  | .bool false => f S
  | _ => .bad
@[simp] theorem onS_true (S : Sto) (t f : Sto → SO) : onS (.bool true) S t f = t S := id rfl
@[simp] theorem onS_false (S : Sto) (t f : Sto → SO) : onS (.bool false) S t f = f S := id rfl
def SO.seq (o : SO) (f : Fr → Sto → SO) : SO := match o with
  | .nx σ S => f σ S
  | .rt d S => .rt d S
  | .bk σ S => .bk σ S
  | .ct σ S => .ct σ S
  | .ex c fs σ S => .ex c fs σ S
  | .bad => .bad
/-- an expression in a statement -/
def Out.st {α : Type} (o : Out α) (σ : Fr) (f : α → Sto → SO) : SO := match o with
  | .ok a S => f a S
  | .ex c fs S => .ex c fs σ S
  | .bad => .bad
@[simp] theorem st_ok {α : Type} (a : α) (S : Sto) (σ : Fr) (f : α → Sto → SO) : (Out.ok a S).st σ f = f a S := id rfl
@[simp] theorem st_ex {α : Type} (c : Nat) (fs : List (Str × D)) (S : Sto) (σ : Fr) (f : α → Sto → SO) : (Out.ex c fs S : Out α).st σ f = .ex c fs σ S := id rfl
@[simp] theorem st_bad {α : Type} (σ : Fr) (f : α → Sto → SO) : (Out.bad : Out α).st σ f = .bad := id rfl
@[simp] theorem seq_nx (σ : Fr) (S : Sto) (f : Fr → Sto → SO) : (SO.nx σ S).seq f = f σ S := id rfl
@[simp] theorem seq_rt (d : D) (S : Sto) (f : Fr → Sto → SO) : (SO.rt d S).seq f = .rt d S := id rfl
@[simp] theorem seq_bad (f : Fr → Sto → SO) : SO.bad.seq f = .bad := id rfl
/-- a loop's turn is over -/
def SO.again (o : SO) (f : Fr → Sto → SO) : SO := match o with
  | .nx σ S => f σ S
  | .ct σ S => f σ S
  | .bk σ S => .nx σ S
  | .rt d S => .rt d S
  | .ex c fs σ S => .ex c fs σ S
  | .bad => .bad
@[simp] theorem again_nx (σ : Fr) (S : Sto) (f : Fr → Sto → SO) : (SO.nx σ S).again f = f σ S := id rfl
@[simp] theorem again_ct (σ : Fr) (S : Sto) (f : Fr → Sto → SO) : (SO.ct σ S).again f = f σ S := id rfl
@[simp] theorem again_bk (σ : Fr) (S : Sto) (f : Fr → Sto → SO) : (SO.bk σ S).again f = .nx σ S := id rfl
@[simp] theorem again_rt (d : D) (S : Sto) (f : Fr → Sto → SO) : (SO.rt d S).again f = .rt d S := id rfl
noncomputable def frL (d : D) (all : List D) (step : D → Fr → Sto → SO) : List D → Fr → Sto → SO
  | [], σ, S => .nx σ S
  | x :: xs, σ, S => (step x σ S).again fun σ1 S1 => if stays d all S1 = true then frL d all step xs σ1 S1 else .bad
def whL (c : Fr → Sto → Out D) (step : Fr → Sto → SO) : Nat → Fr → Sto → SO
  | 0, _, _ => .bad
  | n + 1, σ, S => (c σ S).st σ fun t S1 => onS t S1 (fun S1 => (step σ S1).again fun σ1 S2 => whL c step n σ1 S2) fun S1 => .nx σ S1
def setD (x i v : D) (S : Sto) : Out Unit := match locOf x, i with
  | some n, .int k => match S[n]? with
    | some (.lst a) => match ixN a.length k with
      | some j => .ok () (S.set n (.lst (a.set j v)))
      | none => .bad
    | _ => .bad
  | _, _ => .bad
def augD (op : Operator) (x y : D) (S : Sto) : Out D := match op, x, y with
  | .Add, .int i, .int j => .ok (.int (i + j)) S
  | .Sub, .int i, .int j => .ok (.int (i - j)) S
  | .Add, .str a, .str b => if a.length + b.length ≤ sizeLine then .ok (.str (a ++ b)) S else .bad
  | _, _, _ => .bad
def setAll : List Nat → List D → Fr → Option Fr
  | [], [], σ => some σ
  | i :: is, x :: xs, σ => setAll is xs (σ.set i (some x))
  | _, _, _ => none
section
variable (W : Nat) (R : Nat → List D → Sto → Out D)
/-- a value goes to a target -/
noncomputable def evG : CT → D → Fr → Sto → SO
  | .nm i, x, σ, S => .nx (σ.set i (some x)) S
  | .tup is, x, σ, S => match x with
    | .tuple xs => match setAll is xs σ with
      | some σ1 => .nx σ1 S
      | none => .bad
    | _ => .bad
  | .sub o i, x, σ, S => (evE R o σ S).st σ fun ov S1 => (evE R i σ S1).st σ fun iv S2 => (setD ov iv x S2).st σ fun _ S3 => .nx σ S3
mutual
noncomputable def evS : CS → Fr → Sto → SO
  | .exp e, σ, S => (evE R e σ S).st σ fun _ S1 => .nx σ S1
  | .asg t e, σ, S => (evE R e σ S).st σ fun x S1 => evG R t x σ S1
  | .par i j a b, σ, S => (evE R a σ S).st σ fun x S1 => (evE R b σ S1).st σ fun y S2 => .nx ((σ.set i (some x)).set j (some y)) S2
  | .aug i op e, σ, S => match σ[i]? with
    | some (some x) => (evE R e σ S).st σ fun y S1 => (augD op x y S1).st σ fun z S2 => .nx (σ.set i (some z)) S2
    | _ => .bad
  | .ret e, σ, S => (evE R e σ S).st σ fun x S1 => .rt x S1
  | .ife c a b, σ, S => (evE R c σ S).st σ fun t S1 => onS t S1 (fun S1 => evB a σ S1) fun S1 => evB b σ S1
  | .whl c b, σ, S => whL (evE R c) (evB b) W σ S
  | .fro t it b, σ, S => ((evE R it σ S).bind fun x S1 => walked x S1).st σ fun p S1 => frL p.1 p.2 (fun x σ1 S2 => (evG R t x σ1 S2).seq (evB b)) p.2 σ S1
  | .frr t rg b, σ, S => ((evEs R rg σ S).bind fun x S1 => rangeD x S1).st σ fun p S1 => frL p.1 p.2 (fun x σ1 S2 => (evG R t x σ1 S2).seq (evB b)) p.2 σ S1
  | .brk, σ, S => .bk σ S
  | .cnt, σ, S => .ct σ S
  | .pss, σ, S => .nx σ S
noncomputable def evB : List CS → Fr → Sto → SO
  | [], σ, S => .nx σ S
  | c :: r, σ, S => (evS c σ S).seq (evB r)
end
end

/-! ### defs -/
mutual
def frz (φ : Int → Option D) : D → Option D
  | .tuple xs => (frzA φ xs).map .tuple
  | .list xs => (frzA φ xs).map .list
  | .dict kvs => match kvs with
    | [(.int n, .none)] => φ n
    | _ => none
  | d => some d
def frzA (φ : Int → Option D) : List D → Option (List D)
  | [] => some []
  | x :: xs => (frz φ x).bind fun y => (frzA φ xs).map (y :: ·)
end
def phi (n : Nat) (S : Sto) : Nat → Int → Option D
  | 0, i => if i.toNat < n then some (.dict [(.int i, .none)]) else none
  | k + 1, i => if i.toNat < n then some (.dict [(.int i, .none)]) else match S[i.toNat]? with
    | some (.lst xs) => (frzA (phi n S k) xs).map .list
    | _ => none
mutual
def lowD (n : Nat) : D → Bool
  | .tuple xs => lowA n xs
  | .list xs => lowA n xs
  | .dict kvs => match kvs with
    | [(.int i, .none)] => decide (i.toNat < n)
    | _ => false
  | _ => true
def lowA (n : Nat) : List D → Bool
  | [] => true
  | x :: xs => lowD n x && lowA n xs
end
def lowO (n : Nat) : Ob → Bool
  | .lst xs => lowA n xs
  | .dic kvs => kvs.all fun p => lowD n p.2
  | .ins _ fs => fs.all fun p => lowD n p.2
open Classical in
/-- a def's end: objects that nothing outside holds are let go -/
noncomputable def cutF (fl : Bool) (S0 : Sto) (d : D) (S : Sto) : Out D :=
  if fl = false ∨ S.length = S0.length then .ok d S
  else match frz (phi S0.length S 6) d with
    | some d' => if S.take S0.length = S0 ∨ (S.take S0.length).all (lowO S0.length) = true then .ok d' (S.take S0.length) else .bad
    | none => .bad
def start0 (n : Nat) (xs : List D) : Fr := xs.map some ++ List.replicate (n - xs.length) none
noncomputable def callN (T : Nat → Option Fn) (W : Nat) : Nat → Nat → List D → Sto → Out D
  | 0, _, _, _ => .bad
  | n + 1, f, xs, S => match T f with
    | none => .bad
    | some fn => if xs.length = fn.p then (match evB W (callN T W n) fn.body (start0 fn.n xs) S with
        | .nx _ S' => cutF fn.cut S .none S'
        | .rt d S' => cutF fn.cut S d S'
        | .ex c fs _ S' => .ex c fs S'
        | _ => .bad)
      else .bad
end Cr
set_option Elab.async false
set_option linter.all false
/-! Cr2: what the evaluator's values and stores are in the abstract heap; readings made of evaluator runs. -/
namespace Cr
open PySem L2

/-! ### values and stores in the abstract heap -/
/-- the addresses of the locations, in order; the addresses that no value may name -/
structure Lo where
  ls : List Addr
  bl : List Addr
def Lo.out (ρ : Lo) (a : Addr) : Prop := a ∉ ρ.ls ∧ a ∉ ρ.bl
def Lo.add (ρ : Lo) (p : Addr) : Lo := ⟨ρ.ls ++ [p], ρ.bl⟩
/-- a list, a tuple of the written part -/
def KL (K : PySem.W.Frag) (a : Addr) (vs : List V) : Prop :=
  ∃ (its : List Value) (n : Nat), K.lookup a = some { cls := .type "list", data := .seq its.toArray n } ∧ vs.length ≤ sizeLine ∧ Vals vs its
def KT (K : PySem.W.Frag) (a : Addr) (vs : List V) : Prop :=
  ∃ (o : Obj) (its : Array Value) (n : Nat), K.lookup a = some o ∧ o.cls = .type "tuple" ∧ o.data = .seq its n ∧ its.size ≤ sizeLine ∧ Vals vs its.toList
def LL (K : PySem.W.Frag) (ρ : Lo) (H : Hp) (a : Addr) (vs : List V) : Prop := (ρ.out a ∧ Rd H a (.lst vs)) ∨ KL K a vs
def TpL (K : PySem.W.Frag) (ρ : Lo) (H : Hp) (a : Addr) (vs : List V) : Prop := (ρ.out a ∧ Rd H a (.tup vs)) ∨ KT K a vs
/-- a list that is read, with its own object -/
def RL (K : PySem.W.Frag) (H : Hp) (a : Addr) (vs : List V) : Prop := Rd H a (.lst vs) ∨ KL K a vs
theorem LL.rl {K : PySem.W.Frag} {ρ : Lo} {H : Hp} {a : Addr} {vs : List V} (h : LL K ρ H a vs) : RL K H a vs := h.elim (fun x => .inl x.2) .inr
theorem KL.sq {K : PySem.W.Frag} {H : Hp} {a : Addr} {vs : List V} (h : KL K a vs) : SqL K H a vs := by
  obtain ⟨its, n, h1, h2, h3⟩ := h
  refine .inr ⟨_, its.toArray, n, h1, rfl, rfl, rfl, ?_, by simpa using h3⟩
  have := h3.length
  simp only [List.size_toArray]; omega
theorem RL.sq {K : PySem.W.Frag} {H : Hp} {a : Addr} {vs : List V} (h : RL K H a vs) : SqL K H a vs := h.elim (fun x => .inl x) KL.sq
theorem TpL.sq {K : PySem.W.Frag} {ρ : Lo} {H : Hp} {a : Addr} {vs : List V} (h : TpL K ρ H a vs) : SqT K H a vs := h.elim (fun x => .inl x.2) .inr

mutual
def Rep (K : PySem.W.Frag) (ρ : Lo) (H : Hp) : D → V → Prop
  | .none, v => v = .non
  | .bool b, v => v = .bl b
  | .int i, v => v = .int i
  | .str x, v => v = .str x
  | .tuple xs, v => ∃ a vs, v = .ref a ∧ TpL K ρ H a vs ∧ Reps K ρ H xs vs
  | .list xs, v => ∃ a vs, v = .ref a ∧ LL K ρ H a vs ∧ Reps K ρ H xs vs
  | .dict kvs, v => ∃ (n : Nat) (a : Addr), kvs = [(.int (n : Int), .none)] ∧ ρ.ls[n]? = some a ∧ v = .ref a
def Reps (K : PySem.W.Frag) (ρ : Lo) (H : Hp) : List D → List V → Prop
  | [], vs => vs = []
  | x :: xs, vs => ∃ v r, vs = v :: r ∧ Rep K ρ H x v ∧ Reps K ρ H xs r
end

def ObR (K : PySem.W.Frag) (ca : Nat → Addr) (ρ : Lo) (H : Hp) (a : Addr) : Ob → Prop
  | .lst ds => ∃ vs, H a = some (.lst vs) ∧ Reps K ρ H ds vs
  | .dic kvs => ∃ kvs', H a = some (.dK kvs') ∧ kvs'.map (·.1) = kvs.map (·.1) ∧ (kvs.map (·.1)).Nodup ∧ Reps K ρ H (kvs.map (·.2)) (kvs'.map (·.2))
  | .ins c fs => ∃ dx fs', H a = some (.ins (ca c) dx fs') ∧ fs'.map (·.1) = fs.map (·.1) ∧ Reps K ρ H (fs.map (·.2)) (fs'.map (·.2))
structure Rel (K : PySem.W.Frag) (ca : Nat → Addr) (ρ : Lo) (S : Sto) (H : Hp) : Prop where
  nd : ρ.ls.Nodup
  ln : ρ.ls.length = S.length
  ob : ∀ (i : Nat) (a : Addr) (o : Ob), ρ.ls[i]? = some a → S[i]? = some o → ObR K ca ρ H a o
  bl : ∀ b ∈ ρ.bl, b ∉ ρ.ls ∧ H b ≠ none

/-- later -/
structure Ext (ρ : Lo) (H : Hp) (ρ' : Lo) (H' : Hp) : Prop where
  pre : ∃ τ, ρ' = ⟨ρ.ls ++ τ, ρ.bl⟩ ∧ ∀ a ∈ τ, H a = none
  old : ∀ a o, a ∉ ρ.ls → H a = some o → H' a = some o
  som : ∀ a, H a ≠ none → H' a ≠ none
theorem Ext.refl {ρ : Lo} {H : Hp} : Ext ρ H ρ H := ⟨⟨[], by simp, fun _ h => nomatch h⟩, fun _ _ _ h => h, fun _ h => h⟩
theorem Ext.trans {ρ ρ' ρ'' : Lo} {H H' H'' : Hp} (a : Ext ρ H ρ' H') (b : Ext ρ' H' ρ'' H'') : Ext ρ H ρ'' H'' := by
  obtain ⟨τ, rfl, h1⟩ := a.pre
  obtain ⟨τ', rfl, h2⟩ := b.pre
  refine ⟨⟨τ ++ τ', by simp, fun x hx => ?_⟩, fun x o hx e => ?_, fun x hx => b.som x (a.som x hx)⟩
  · rcases List.mem_append.mp hx with q | q
    · exact h1 x q
    · cases e : H x with
      | none => rfl
      | some o => exact absurd (h2 x q) (a.som x (by rw [e]; exact fun z => nomatch z))
  · refine b.old x o (fun q => ?_) (a.old x o hx e)
    rcases List.mem_append.mp q with q | q
    · exact hx q
    · rw [h1 x q] at e; cases e
theorem Ext.notin {ρ ρ' : Lo} {H H' : Hp} (e : Ext ρ H ρ' H') {a : Addr} (ha : ρ.out a) (hs : H a ≠ none) : ρ'.out a := by
  obtain ⟨τ, rfl, h1⟩ := e.pre
  refine ⟨fun q => ?_, ha.2⟩
  rcases List.mem_append.mp q with q | q
  · exact ha.1 q
  · exact hs (h1 a q)
theorem Rd.ne {H : Hp} {a : Addr} {u : HO} (h : Rd H a u) : H a ≠ none := by
  rcases h with h | ⟨o, h⟩ <;> rw [h] <;> exact fun z => nomatch z
theorem Ext.rd {ρ ρ' : Lo} {H H' : Hp} (e : Ext ρ H ρ' H') {a : Addr} {u : HO} (ha : ρ.out a) (h : Rd H a u) : ρ'.out a ∧ Rd H' a u :=
  ⟨e.notin ha (Rd.ne h), h.elim (fun q => .inl (e.old a _ ha.1 q)) fun ⟨o, q⟩ => .inr ⟨o, e.old a _ ha.1 q⟩⟩
section
variable {K : PySem.W.Frag} {ca : Nat → Addr} {ρ ρ' : Lo} {H H' : Hp}
mutual
theorem Rep.ext (e : Ext ρ H ρ' H') : ∀ (d : D) (v : V), Rep K ρ H d v → Rep K ρ' H' d v
  | .none, _, h => h
  | .bool _, _, h => h
  | .int _, _, h => h
  | .str _, _, h => h
  | .tuple xs, v, h => by
    obtain ⟨a, vs, h1, h2, h3⟩ := h
    exact ⟨a, vs, h1, h2.elim (fun q => .inl (e.rd q.1 q.2)) .inr, Reps.ext e xs vs h3⟩
  | .list xs, v, h => by
    obtain ⟨a, vs, h1, h2, h3⟩ := h
    exact ⟨a, vs, h1, h2.elim (fun q => .inl (e.rd q.1 q.2)) .inr, Reps.ext e xs vs h3⟩
  | .dict kvs, v, h => by
    obtain ⟨n, a, h1, h2, h3⟩ := h
    obtain ⟨τ, e1, _⟩ := e.pre
    refine ⟨n, a, h1, ?_, h3⟩
    rw [e1, List.getElem?_append_left (List.getElem?_eq_some_iff.mp h2).1]
    exact h2
theorem Reps.ext (e : Ext ρ H ρ' H') : ∀ (ds : List D) (vs : List V), Reps K ρ H ds vs → Reps K ρ' H' ds vs
  | [], _, h => h
  | x :: xs, vs, h => by
    obtain ⟨v, r, h1, h2, h3⟩ := h
    exact ⟨v, r, h1, Rep.ext e x v h2, Reps.ext e xs r h3⟩
end
theorem Reps.length : ∀ {ds : List D} {vs : List V}, Reps K ρ H ds vs → vs.length = ds.length
  | [], _, h => by rw [show _ = [] from h]; rfl
  | x :: xs, vs, h => by
    obtain ⟨v, r, rfl, _, h3⟩ := h
    simp [Reps.length h3]
theorem Reps.get : ∀ {ds : List D} {vs : List V} {i : Nat} {d : D}, Reps K ρ H ds vs → ds[i]? = some d → ∃ v, vs[i]? = some v ∧ Rep K ρ H d v
  | [], _, _, _, _, e => by simp at e
  | x :: xs, vs, 0, d, h, e => by
    obtain ⟨v, r, rfl, h2, h3⟩ := h
    simp at e; subst e
    exact ⟨v, rfl, h2⟩
  | x :: xs, vs, i + 1, d, h, e => by
    obtain ⟨v, r, rfl, h2, h3⟩ := h
    simpa using Reps.get (i := i) (d := d) h3 (by simpa using e)
theorem Reps.getV : ∀ {ds : List D} {vs : List V} {i : Nat} {v : V}, Reps K ρ H ds vs → vs[i]? = some v → ∃ d, ds[i]? = some d ∧ Rep K ρ H d v := fun {ds vs i v} h e => by
  have hi := (List.getElem?_eq_some_iff.mp e).1
  rw [h.length] at hi
  obtain ⟨v', h1, h2⟩ := h.get (List.getElem?_eq_getElem hi)
  rw [e] at h1; cases h1
  exact ⟨_, List.getElem?_eq_getElem hi, h2⟩
theorem Reps.append : ∀ {ds : List D} {vs : List V} {es : List D} {ws : List V}, Reps K ρ H ds vs → Reps K ρ H es ws → Reps K ρ H (ds ++ es) (vs ++ ws)
  | [], _, _, _, h, q => by rw [show _ = [] from h]; exact q
  | x :: xs, vs, es, ws, h, q => by
    obtain ⟨v, r, rfl, h2, h3⟩ := h
    exact ⟨v, r ++ ws, rfl, h2, h3.append q⟩
theorem Reps.take : ∀ {ds : List D} {vs : List V} (n : Nat), Reps K ρ H ds vs → Reps K ρ H (ds.take n) (vs.take n)
  | _, _, 0, _ => by simp [Reps]
  | [], _, n + 1, h => by rw [show _ = [] from h]; simp [Reps]
  | x :: xs, vs, n + 1, h => by
    obtain ⟨v, r, rfl, h2, h3⟩ := h
    exact ⟨v, r.take n, rfl, h2, h3.take n⟩
theorem Reps.drop : ∀ {ds : List D} {vs : List V} (n : Nat), Reps K ρ H ds vs → Reps K ρ H (ds.drop n) (vs.drop n)
  | _, _, 0, h => h
  | [], _, n + 1, h => by rw [show _ = [] from h]; simp [Reps]
  | x :: xs, vs, n + 1, h => by
    obtain ⟨v, r, rfl, h2, h3⟩ := h
    exact h3.drop n
theorem Reps.set {d : D} {v : V} (q : Rep K ρ H d v) : ∀ {ds : List D} {vs : List V} (n : Nat), Reps K ρ H ds vs → Reps K ρ H (ds.set n d) (vs.set n v)
  | [], _, _, h => by rw [show _ = [] from h]; simp [Reps]
  | x :: xs, vs, 0, h => by
    obtain ⟨w, r, rfl, h2, h3⟩ := h
    exact ⟨v, r, rfl, q, h3⟩
  | x :: xs, vs, n + 1, h => by
    obtain ⟨w, r, rfl, h2, h3⟩ := h
    exact ⟨w, r.set n v, rfl, h2, h3.set q n⟩
theorem Reps.eraseIdx : ∀ {ds : List D} {vs : List V} (n : Nat), Reps K ρ H ds vs → Reps K ρ H (ds.eraseIdx n) (vs.eraseIdx n)
  | [], _, _, h => by rw [show _ = [] from h]; simp [Reps]
  | x :: xs, vs, 0, h => by
    obtain ⟨w, r, rfl, h2, h3⟩ := h
    exact h3
  | x :: xs, vs, n + 1, h => by
    obtain ⟨w, r, rfl, h2, h3⟩ := h
    exact ⟨w, r.eraseIdx n, rfl, h2, h3.eraseIdx n⟩
theorem Reps.dropLast {ds : List D} {vs : List V} (h : Reps K ρ H ds vs) : Reps K ρ H ds.dropLast vs.dropLast := by
  rw [List.dropLast_eq_take, List.dropLast_eq_take, h.length]
  exact h.take _
theorem Reps.one {d : D} {v : V} (h : Rep K ρ H d v) : Reps K ρ H [d] [v] := ⟨v, [], rfl, h, rfl⟩
theorem Reps.rep {ds : List D} {vs : List V} (h : Reps K ρ H ds vs) : ∀ k : Nat, Reps K ρ H (List.replicate k ds).flatten (List.replicate k vs).flatten
  | 0 => by simp [Reps]
  | k + 1 => by
    rw [List.replicate_succ, List.replicate_succ, List.flatten_cons, List.flatten_cons]
    exact h.append (Reps.rep h k)
theorem Reps.nil_of {vs : List V} (h : Reps K ρ H [] vs) : vs = [] := h
theorem Reps.cons_of {d : D} {ds : List D} {vs : List V} (h : Reps K ρ H (d :: ds) vs) : ∃ v r, vs = v :: r ∧ Rep K ρ H d v ∧ Reps K ρ H ds r := h
theorem ObR.ext {a : Addr} {o : Ob} (e : Ext ρ H ρ' H') (ha : H' a = H a) (h : ObR K ca ρ H a o) : ObR K ca ρ' H' a o := by
  cases o with
  | lst ds =>
    obtain ⟨vs, h1, h2⟩ := h
    exact ⟨vs, ha.trans h1, Reps.ext e _ _ h2⟩
  | dic kvs =>
    obtain ⟨vs, h1, h2, h3, h4⟩ := h
    exact ⟨vs, ha.trans h1, h2, h3, Reps.ext e _ _ h4⟩
  | ins c fs =>
    obtain ⟨dx, vs, h1, h2, h3⟩ := h
    exact ⟨dx, vs, ha.trans h1, h2, Reps.ext e _ _ h3⟩
end
end Cr
set_option Elab.async false
set_option linter.all false
/-! Cr3: reading, allocating and writing; readings made of evaluator runs. -/
namespace Cr
open PySem L2
section
variable {K : PySem.W.Frag} {ca : Nat → Addr} {ρ ρ' : Lo} {S : Sto} {H H' : Hp}

theorem Rel.at (r : Rel K ca ρ S H) {i : Nat} {a : Addr} (h : ρ.ls[i]? = some a) : ∃ o, S[i]? = some o ∧ ObR K ca ρ H a o := by
  have hi := (List.getElem?_eq_some_iff.mp h).1
  rw [r.ln] at hi
  exact ⟨_, List.getElem?_eq_getElem hi, r.ob i a _ h (List.getElem?_eq_getElem hi)⟩
theorem ObR.ne {a : Addr} {o : Ob} (h : ObR K ca ρ H a o) : H a ≠ none := by
  cases o with
  | lst ds => obtain ⟨vs, h1, _⟩ := h; rw [h1]; exact fun z => nomatch z
  | dic ds => obtain ⟨vs, h1, _⟩ := h; rw [h1]; exact fun z => nomatch z
  | ins c fs => obtain ⟨dx, vs, h1, _⟩ := h; rw [h1]; exact fun z => nomatch z
theorem Rel.notin (r : Rel K ca ρ S H) {p : Addr} (h : H p = none) : ρ.out p := by
  refine ⟨fun q => ?_, fun q => (r.bl p q).2 h⟩
  obtain ⟨i, hi⟩ := List.getElem?_of_mem q
  obtain ⟨o, _, ho⟩ := r.at hi
  exact ho.ne h
theorem Rel.loc (r : Rel K ca ρ S H) {n : Nat} {o : Ob} {v : V} (h : Rep K ρ H (loc n) v) (hs : S[n]? = some o) : ∃ a, v = .ref a ∧ ρ.ls[n]? = some a ∧ ObR K ca ρ H a o := by
  obtain ⟨m, a, e, h1, h2⟩ := h
  have e' : (n : Int) = (m : Int) := by
    have := List.cons.inj e
    have := (Prod.mk.inj this.1).1
    exact PyData.int.inj this
  have e2 : n = m := by omega
  subst e2
  exact ⟨a, h2, h1, r.ob n a o h1 hs⟩
/-- the forms of a location -/
theorem loc_of {kvs : List (D × D)} {v : V} (h : Rep K ρ H (.dict kvs) v) : ∃ n : Nat, (PyData.dict kvs) = loc n := by
  obtain ⟨n, a, h1, _⟩ := h
  exact ⟨n, by rw [h1]; rfl⟩
theorem lv_loc (n : Nat) : lv S (loc n) = (match S[n]? with | some (.lst xs) => .list xs | _ => loc n) := by
  unfold lv loc
  simp only [Int.toNat_natCast]
  all_goals rfl
theorem lvT_loc (n : Nat) : lvT S (loc n) = (match S[n]? with | some (.lst xs) => some xs | _ => none) := by
  unfold lvT loc
  simp only [Int.toNat_natCast]
  all_goals rfl
theorem locOf_loc (n : Nat) : locOf (loc n) = some n := by
  unfold locOf loc
  simp only [Int.toNat_natCast]
theorem lv_ndict {d : D} (h : ∀ kvs, d ≠ .dict kvs) : lv S d = d := by
  cases d with
  | dict kvs => exact absurd rfl (h kvs)
  | _ => rfl
/-- what lv gives, in the heap -/
theorem lv_list (r : Rel K ca ρ S H) {d : D} {v : V} {xs : List D} (h : Rep K ρ H d v) (e : lv S d = .list xs) : ∃ a vs, v = .ref a ∧ RL K H a vs ∧ Reps K ρ H xs vs := by
  cases d with
  | list ys =>
    have e' : PyData.list ys = .list xs := e
    cases e'
    obtain ⟨a, vs, h1, h2, h3⟩ := h
    exact ⟨a, vs, h1, h2.rl, h3⟩
  | dict kvs =>
    obtain ⟨n, en⟩ := loc_of h
    rw [en] at h e
    rw [lv_loc] at e
    cases hs : S[n]? with
    | none => rw [hs] at e; cases e
    | some o =>
      cases o with
      | lst ys =>
        rw [hs] at e
        have e' : PyData.list ys = .list xs := e
        cases e'
        obtain ⟨a, h1, _, vs, h3, h4⟩ := r.loc h hs
        exact ⟨a, vs, h1, .inl (.inl h3), h4⟩
      | _ => rw [hs] at e; cases e
  | _ => cases e
theorem lv_ty {d : D} (e : ∀ xs, lv S d ≠ .list xs) : lv S d = d := by
  unfold lv
  split
  · rename_i n
    split
    · rename_i xs hs
      have := e xs
      unfold lv at this
      simp only [hs] at this
      exact absurd rfl this
    · rfl
  · rfl
theorem lv_of {d e : D} (h : lv S d = e) (hn : ∀ xs, e ≠ .list xs) : d = e := by
  rw [← h]
  exact (lv_ty fun xs z => hn xs (h.symm.trans z)).symm
theorem lvT_list (r : Rel K ca ρ S H) {d : D} {v : V} {xs : List D} (h : Rep K ρ H d v) (e : lvT S d = some xs) : ∃ a vs, v = .ref a ∧ RL K H a vs ∧ Reps K ρ H xs vs := by
  refine lv_list r h ?_
  cases d with
  | list ys => cases e; rfl
  | dict kvs =>
    obtain ⟨n, en⟩ := loc_of h
    rw [en] at e ⊢
    rw [lvT_loc] at e
    rw [lv_loc]
    cases hs : S[n]? with
    | none => rw [hs] at e; cases e
    | some o =>
      cases o with
      | lst ys => rw [hs] at e; cases e; rfl
      | _ => rw [hs] at e; cases e
  | _ => cases e

/-! ### pure data -/
mutual
theorem Rep.dp : ∀ (d : D) (v : V), Rep K ρ H d v → d.canLay0 = true → Dp K H v d
  | .none, v, h, _ => by rw [show v = _ from h]; exact .non
  | .bool b, v, h, _ => by rw [show v = _ from h]; exact .bl b
  | .int i, v, h, _ => by rw [show v = _ from h]; exact .int i
  | .str x, v, h, _ => by rw [show v = _ from h]; exact .str x
  | .tuple xs, v, h, c => by
    obtain ⟨a, vs, rfl, h2, h3⟩ := h
    exact .tup h2.sq (Reps.dp xs vs h3 (by simpa [PyData.canLay0] using c))
  | .list xs, v, h, c => by
    obtain ⟨a, vs, rfl, h2, h3⟩ := h
    exact .lst h2.rl.sq (Reps.dp xs vs h3 (by simpa [PyData.canLay0] using c))
  | .dict kvs, v, h, c => by simp [PyData.canLay0] at c
theorem Reps.dp : ∀ (ds : List D) (vs : List V), Reps K ρ H ds vs → PyData.canLayAll0 ds = true → DpAll K H vs ds
  | [], vs, h, _ => by rw [show vs = _ from h]; exact .nil
  | d :: ds, vs, h, c => by
    obtain ⟨v, r, rfl, h2, h3⟩ := h
    have c' : d.canLay0 = true ∧ PyData.canLayAll0 ds = true := by simpa [PyData.canLayAll0, Bool.and_eq_true] using c
    exact .cons (Rep.dp d v h2 c'.1) (Reps.dp ds r h3 c'.2)
end
theorem Rel.dp (r : Rel K ca ρ S H) {d : D} {v : V} (h : Rep K ρ H d v) (c : plain (lv S d) = true) : Dp K H v (lv S d) ∧ SeqAt.shaped (lv S d) = true := by
  have hc : (lv S d).canLay0 = true := by
    unfold plain at c
    exact (Bool.and_eq_true_iff.mp c).1
  refine ⟨?_, c⟩
  cases e : lv S d with
  | list xs =>
    obtain ⟨a, vs, rfl, h1, h2⟩ := lv_list r h e
    rw [e] at hc
    exact .lst h1.sq (Reps.dp xs vs h2 (by simpa [PyData.canLay0] using hc))
  | _ =>
    have := lv_of e (fun _ z => nomatch z)
    subst this
    rw [e] at hc
    exact Rep.dp _ v h hc

/-! ### new objects -/
theorem Ext.new (ho : HO) {p : Addr} (hp : H p = none) : Ext ρ H ρ (upd H p ho) :=
  ⟨⟨[], by simp, fun _ h => nomatch h⟩, fun a o _ e => by rw [upd_ne (ne_of_none e hp)]; exact e, fun a ha => by
    by_cases q : a = p
    · subst q; exact absurd hp ha
    · rw [upd_ne q]; exact ha⟩
theorem Rel.ext (r : Rel K ca ρ S H) (e : Ext ρ H ρ H') (h : ∀ a ∈ ρ.ls, H' a = H a) : Rel K ca ρ S H' :=
  ⟨r.nd, r.ln, fun i a o h1 h2 => (r.ob i a o h1 h2).ext e (h a (List.mem_of_getElem? h1)), fun b hb => ⟨(r.bl b hb).1, e.som b (r.bl b hb).2⟩⟩
theorem Rel.new (r : Rel K ca ρ S H) (ho : HO) {p : Addr} (hp : H p = none) : Rel K ca ρ S (upd H p ho) :=
  r.ext (.new ho hp) fun a ha => upd_ne fun q => (r.notin hp).1 (q ▸ ha)
theorem rep_newL (r : Rel K ca ρ S H) {p : Addr} (hp : H p = none) {ds : List D} {vs : List V} (h : Reps K ρ H ds vs) : Rep K ρ (upd H p (.lst vs)) (.list ds) (.ref p) :=
  ⟨p, vs, rfl, .inl ⟨r.notin hp, .inl upd_same⟩, Reps.ext (.new _ hp) ds vs h⟩
theorem rep_newT (r : Rel K ca ρ S H) {p : Addr} (hp : H p = none) {ds : List D} {vs : List V} (h : Reps K ρ H ds vs) : Rep K ρ (upd H p (.tup vs)) (.tuple ds) (.ref p) :=
  ⟨p, vs, rfl, .inl ⟨r.notin hp, .inl upd_same⟩, Reps.ext (.new _ hp) ds vs h⟩
/-- a new location -/
theorem Ext.alloc (ho : HO) {p : Addr} (hp : H p = none) : Ext ρ H (ρ.add p) (upd H p ho) :=
  ⟨⟨[p], rfl, fun a h => by rw [List.mem_singleton.mp h]; exact hp⟩, (Ext.new (ρ := ρ) ho hp).old, (Ext.new (ρ := ρ) ho hp).som⟩
theorem Rel.alloc (r : Rel K ca ρ S H) {ho : HO} {o : Ob} {p : Addr} (hp : H p = none) (hob : ObR K ca (ρ.add p) (upd H p ho) p o) : Rel K ca (ρ.add p) (S ++ [o]) (upd H p ho) := by
  refine ⟨?_, by simp [Lo.add, r.ln], fun i a o' h1 h2 => ?_, fun b hb => ?_⟩
  · show (ρ.ls ++ [p]).Nodup
    rw [List.nodup_append]
    exact ⟨r.nd, by simp, fun a ha b hb => by rw [List.mem_singleton.mp hb]; rintro rfl; exact (r.notin hp).1 ha⟩
  · have h1 : (ρ.ls ++ [p])[i]? = some a := h1
    by_cases hi : i < ρ.ls.length
    · rw [List.getElem?_append_left hi] at h1
      rw [List.getElem?_append_left (by rw [← r.ln]; exact hi)] at h2
      exact (r.ob i a o' h1 h2).ext (.alloc ho hp) (upd_ne fun q => (r.notin hp).1 (q ▸ List.mem_of_getElem? h1))
    · have hl := r.ln
      rw [List.getElem?_append_right (by omega)] at h1 h2
      have e0 : i - ρ.ls.length = 0 := by
        cases q : i - ρ.ls.length with
        | zero => rfl
        | succ k => rw [q] at h1; simp at h1
      rw [e0] at h1
      rw [← r.ln, e0] at h2
      simp at h1 h2
      subst h1; subst h2
      exact hob
  · refine ⟨fun q => ?_, (Ext.alloc (ρ := ρ) ho hp).som b (r.bl b hb).2⟩
    rcases List.mem_append.mp q with q | q
    · exact (r.bl b hb).1 q
    · rw [List.mem_singleton.mp q] at hb
      exact (r.bl p hb).2 hp
theorem Rel.allocL (r : Rel K ca ρ S H) {p : Addr} (hp : H p = none) {ds : List D} {vs : List V} (h : Reps K ρ H ds vs) : Rel K ca (ρ.add p) (S ++ [.lst ds]) (upd H p (.lst vs)) :=
  r.alloc hp ⟨vs, upd_same, Reps.ext (.alloc _ hp) ds vs h⟩
theorem Rel.locNew (r : Rel K ca ρ S H) {p : Addr} {H' : Hp} : Rep K (ρ.add p) H' (Cr.loc S.length) (.ref p) :=
  ⟨S.length, p, rfl, by rw [← r.ln]; simp [Lo.add], rfl⟩
/-- an object written -/
theorem Ext.write (ho : HO) {p : Addr} (hp : p ∈ ρ.ls) : Ext ρ H ρ (upd H p ho) :=
  ⟨⟨[], by simp, fun _ h => nomatch h⟩, fun a o ha e => by rw [upd_ne fun q => ha (by rw [q]; exact hp)]; exact e, fun a ha => by
    by_cases q : a = p
    · rw [q, upd_same]; exact fun z => nomatch z
    · rw [upd_ne q]; exact ha⟩
theorem Rel.write (r : Rel K ca ρ S H) {n : Nat} {a : Addr} (ha : ρ.ls[n]? = some a) {ho : HO} {o : Ob} (hob : ObR K ca ρ (upd H a ho) a o) : Rel K ca ρ (S.set n o) (upd H a ho) := by
  refine ⟨r.nd, by simp [r.ln], fun i b o' h1 h2 => ?_, fun b hb => ⟨(r.bl b hb).1, (Ext.write (H := H) ho (List.mem_of_getElem? ha)).som b (r.bl b hb).2⟩⟩
  have hn := (List.getElem?_eq_some_iff.mp ha).1
  by_cases hi : n = i
  · subst hi
    rw [ha] at h1; cases h1
    rw [List.getElem?_set_self (by rw [← r.ln]; exact hn)] at h2
    cases h2
    exact hob
  · rw [List.getElem?_set_ne hi] at h2
    refine (r.ob i b o' h1 h2).ext (.write ho (List.mem_of_getElem? ha)) (upd_ne fun q => ?_)
    subst q
    exact hi ((List.getElem?_inj hn r.nd).mp (ha.trans h1.symm))
theorem Rel.writeL (r : Rel K ca ρ S H) {n : Nat} {a : Addr} (ha : ρ.ls[n]? = some a) {ds : List D} {vs : List V} (h : Reps K ρ H ds vs) : Rel K ca ρ (S.set n (.lst ds)) (upd H a (.lst vs)) :=
  r.write ha ⟨vs, upd_same, Reps.ext (.write _ (List.mem_of_getElem? ha)) ds vs h⟩
end

/-! ### frames, wishes, readings -/
structure FRel (K : PySem.W.Frag) (ρ : Lo) (H : Hp) (s : Fr) (σ : St) : Prop where
  len : s.length = σ.length
  at_ : ∀ (i : Nat) (d : D), s[i]? = some (some d) → ∃ v, σ[i]? = some (some v) ∧ Rep K ρ H d v
/-- the fixed things: the written part, the classes' addresses -/
structure Kx where
  K : PySem.W.Frag
  ca : Nat → Addr
/-- store, frame and abstract heap fit -/
structure At (k : Kx) (ρ : Lo) (S : Sto) (s : Fr) (σ : St) (H : Hp) : Prop where
  rel : Rel k.K k.ca ρ S H
  fr : FRel k.K ρ H s σ
/-- an exception of the evaluator, in the heap -/
def Exn (k : Kx) (ρ : Lo) (H : Hp) (c : Nat) (fs : List (Str × D)) (cls : Value) (d : Option Addr) : Prop :=
  ∃ dx fs', cls = .ref (k.ca c) ∧ d = some dx ∧ H dx = some (.xd fs') ∧ fs'.map (·.1) = fs.map (·.1) ∧ Reps k.K ρ H (fs.map (·.2)) (fs'.map (·.2))
/-- what must follow a run that ends so -/
def post {α β : Type} (k : Kx) (RepA : Lo → Hp → α → β → Prop) (W : WX) (σ : St) (ρ : Lo) (H : Hp) (o : Out α) (Q : β → Hp → Prop) : Prop :=
  match o with
  | .ok d S => ∀ v ρ' H', Ext ρ H ρ' H' → Rel k.K k.ca ρ' S H' → RepA ρ' H' d v → Q v H'
  | .ex c fs S => ∀ ρ' H' cls d, Ext ρ H ρ' H' → Rel k.K k.ca ρ' S H' → Exn k ρ' H' c fs cls d → W cls d σ H'
  | .bad => False
abbrev postE (k : Kx) := post (α := D) (β := V) k (fun ρ H d v => Rep k.K ρ H d v)
abbrev postA (k : Kx) := post (α := List D) (β := List V) k (fun ρ H d v => Reps k.K ρ H d v)
abbrev postB (k : Kx) := post (α := Bool) (β := Bool) k (fun _ _ d v => d = v)
def tE (k : Kx) (W : WX) (m : Fr → Sto → Out D) : TE := fun σ H Q => ∃ ρ S s, At k ρ S s σ H ∧ postE k W σ ρ H (m s S) Q
def tA (k : Kx) (W : WX) (m : Fr → Sto → Out (List D)) : TA := fun σ H Q => ∃ ρ S s, At k ρ S s σ H ∧ postA k W σ ρ H (m s S) Q
def tT (k : Kx) (W : WX) (m : Fr → Sto → Out D) : TT := fun σ H Q => ∃ ρ S s, At k ρ S s σ H ∧ post k (fun _ _ (d : D) (b : Bool) => d = .bool b) W σ ρ H ((m s S).bind asB) Q
section
variable {k : Kx} {W : WX} {σ : St} {ρ ρ' : Lo} {H H' : Hp} {S : Sto} {s : Fr}
theorem FRel.ext (f : FRel k.K ρ H s σ) (e : Ext ρ H ρ' H') : FRel k.K ρ' H' s σ :=
  ⟨f.len, fun i d h => let ⟨v, h1, h2⟩ := f.at_ i d h; ⟨v, h1, Rep.ext e d v h2⟩⟩
theorem At.ext (a : At k ρ S s σ H) (e : Ext ρ H ρ' H') {S' : Sto} (r : Rel k.K k.ca ρ' S' H') : At k ρ' S' s σ H' := ⟨r, a.fr.ext e⟩
theorem post.mono {α β : Type} {RepA : Lo → Hp → α → β → Prop} {o : Out α} {Q Q' : β → Hp → Prop} (h : post k RepA W σ ρ H o Q) (e : Ext ρ H ρ' H') (hQ : ∀ v H, Q v H → Q' v H) : post k RepA W σ ρ' H' o Q' := by
  cases o with
  | ok d S => exact fun v ρ2 H2 e2 r2 p => hQ _ _ (h v ρ2 H2 (e.trans e2) r2 p)
  | ex c fs S => exact fun ρ2 H2 cls d e2 r2 p => h ρ2 H2 cls d (e.trans e2) r2 p
  | bad => exact h
/-- a first part, then the rest -/
theorem post.bind {α β γ δ : Type} {RepA : Lo → Hp → α → β → Prop} {RepC : Lo → Hp → γ → δ → Prop} {o : Out α} {f : α → Sto → Out γ} {Q : δ → Hp → Prop} (h : post k RepC W σ ρ H (o.bind f) Q) :
    post k RepA W σ ρ H o fun x H1 => ∃ d ρ1 S1, Ext ρ H ρ1 H1 ∧ Rel k.K k.ca ρ1 S1 H1 ∧ RepA ρ1 H1 d x ∧ post k RepC W σ ρ1 H1 (f d S1) Q := by
  cases o with
  | ok d S => exact fun v ρ2 H2 e2 r2 p => ⟨d, ρ2, S, e2, r2, p, h.mono e2 fun _ _ q => q⟩
  | ex c fs S => exact h
  | bad => exact h
theorem post.imp {α β : Type} {RepA : Lo → Hp → α → β → Prop} {o : Out α} {Q Q' : β → Hp → Prop} (h : post k RepA W σ ρ H o Q) (hQ : ∀ v H, Q v H → Q' v H) : post k RepA W σ ρ H o Q' := h.mono .refl hQ
/-- one expression is run, the rest follows -/
theorem tE_step {γ δ : Type} {RepC : Lo → Hp → γ → δ → Prop} {m : Fr → Sto → Out D} {f : D → Sto → Out γ} {Q : δ → Hp → Prop} (a : At k ρ S s σ H) (h : post k RepC W σ ρ H ((m s S).bind f) Q) :
    tE k W m σ H fun x H1 => ∃ d ρ1 S1, At k ρ1 S1 s σ H1 ∧ Ext ρ H ρ1 H1 ∧ Rep k.K ρ1 H1 d x ∧ post k RepC W σ ρ1 H1 (f d S1) Q :=
  ⟨ρ, S, s, a, (post.bind h).imp fun x H1 ⟨d, ρ1, S1, e, r, p, q⟩ => ⟨d, ρ1, S1, a.ext e r, e, p, q⟩⟩
theorem tA_step {γ δ : Type} {RepC : Lo → Hp → γ → δ → Prop} {m : Fr → Sto → Out (List D)} {f : List D → Sto → Out γ} {Q : δ → Hp → Prop} (a : At k ρ S s σ H) (h : post k RepC W σ ρ H ((m s S).bind f) Q) :
    tA k W m σ H fun x H1 => ∃ d ρ1 S1, At k ρ1 S1 s σ H1 ∧ Ext ρ H ρ1 H1 ∧ Reps k.K ρ1 H1 d x ∧ post k RepC W σ ρ1 H1 (f d S1) Q :=
  ⟨ρ, S, s, a, (post.bind h).imp fun x H1 ⟨d, ρ1, S1, e, r, p, q⟩ => ⟨d, ρ1, S1, a.ext e r, e, p, q⟩⟩
end
/-! ### weakening -/
theorem PE.imp {X : Cx} {e : Expr} {t t' : TE} (h : PE X e t) (w : ∀ σ H Q, t' σ H Q → t σ H Q) : PE X e t' := ⟨fun pins s σ H Q I q => h.run pins s σ H Q I (w σ H Q q)⟩
theorem PT.imp {X : Cx} {e : Expr} {t t' : TT} (h : PT X e t) (w : ∀ σ H Q, t' σ H Q → t σ H Q) : PT X e t' := ⟨fun pins s σ H Q I q => h.run pins s σ H Q I (w σ H Q q)⟩
theorem PA.imp {X : Cx} {e : List Expr} {t t' : TA} (h : PA X e t) (w : ∀ σ H Q, t' σ H Q → t σ H Q) : PA X e t' := ⟨fun pos pins s σ H Q I q => h.run pos pins s σ H Q I (w σ H Q q)⟩
theorem PS.imp {X : Cx} {e : Stmt} {t t' : TS} (h : PS X e t) (w : ∀ D σ H, t' D σ H → t D σ H) : PS X e t' := ⟨fun pins s σ H D I q => h.run pins s σ H D I (w D σ H q)⟩
theorem PSs.imp {X : Cx} {e : List Stmt} {t t' : TS} (h : PSs X e t) (w : ∀ D σ H, t' D σ H → t D σ H) : PSs X e t' := ⟨fun pins s σ H D I q => h.run pins s σ H D I (w D σ H q)⟩
end Cr
set_option Elab.async false
set_option linter.all false
set_option maxHeartbeats 1000000
/-! Cr4: the operations of the evaluator keep their promise. -/
namespace Cr
open PySem L2 PyProof.Rows
/-- an operation that does not raise has ended -/
def post0 (k : Kx) (ρ : Lo) (H : Hp) (o : Out D) (Q : VK) : Prop :=
  match o with
  | .ok d S => ∀ v ρ' H', Ext ρ H ρ' H' → Rel k.K k.ca ρ' S H' → Rep k.K ρ' H' d v → Q v H'
  | .ex _ _ _ => False
  | .bad => False
def rB (k : Kx) (f : D → D → Sto → Out D) : R2 := fun x y H Q => ∃ ρ S d e, Rel k.K k.ca ρ S H ∧ Rep k.K ρ H d x ∧ Rep k.K ρ H e y ∧ post0 k ρ H (f d e S) Q
def NoEx {α : Type} (o : Out α) : Prop := ∀ c fs S, o ≠ .ex c fs S
theorem post.to0 {k : Kx} {W : WX} {σ : L2.St} {ρ : Lo} {H : Hp} {o : Out D} {Q : VK} (h : postE k W σ ρ H o Q) (n : NoEx o) : post0 k ρ H o Q := by
  cases o with
  | ok d S => exact h
  | ex c fs S => exact absurd rfl (n c fs S)
  | bad => exact h
theorem add_nx (x y : D) (S : Sto) : NoEx (addD x y S) := by unfold addD; (intro c fs S' h; repeat' (first | (cases h; done) | split at h))
theorem mul_nx (x y : D) (S : Sto) : NoEx (mulD x y S) := by unfold mulD; (intro c fs S' h; repeat' (first | (cases h; done) | split at h))
theorem bin_nx (op : Operator) (x y : D) (S : Sto) : NoEx (binD op x y S) := by
  intro c fs S' h
  unfold binD at h
  repeat' (first | exact add_nx _ _ _ _ _ _ h | exact mul_nx _ _ _ _ _ _ h | (cases h; done) | split at h)
theorem cmp_nx (op : CmpOp) (x y : D) (S : Sto) : NoEx (cmpD op x y S) := by
  cases op <;> (unfold cmpD; (intro c fs S' h; repeat' (first | (cases h; done) | split at h)))
theorem idx_nx (x y : D) (S : Sto) : NoEx (idxD x y S) := by unfold idxD; (intro c fs S' h; repeat' (first | (cases h; done) | split at h))
theorem sli_nx (x : D) (l h : Option Int) (S : Sto) : NoEx (sliD x l h S) := by unfold sliD; (intro c fs S' h; repeat' (first | (cases h; done) | split at h))
theorem blt_nx (b : Bi) (xs : List D) (S : Sto) : NoEx (bltD b xs S) := by unfold bltD; (intro c fs S' h; repeat' (first | (cases h; done) | split at h))
theorem mth_nx (m : Mt) (x : D) (xs : List D) (S : Sto) : NoEx (mthD m x xs S) := by unfold mthD; (intro c fs S' h; repeat' (first | (cases h; done) | split at h))
theorem mkL_nx (al : Bool) (xs : List D) (S : Sto) : NoEx (mkL al xs S) := by unfold mkL newO; (intro c fs S' h; repeat' (first | (cases h; done) | split at h))
theorem aug_nx (op : Operator) (x y : D) (S : Sto) : NoEx (augD op x y S) := by unfold augD; (intro c fs S' h; repeat' (first | (cases h; done) | split at h))

section
variable {X : Cx} {ca : Nat → Addr} {pins : List (Addr × Obj)} {σ : L2.St} {H : Hp} {s : Shared} {ρ : Lo} {S : Sto}
abbrev kx (X : Cx) (ca : Nat → Addr) : Kx := ⟨X.K, ca⟩
theorem RL.obj (I : Inv X pins σ H s) {a : Addr} {vs : List V} (h : RL X.K H a vs) : ∃ (its : List Value) (n : Nat), Vals vs its ∧ s.heap.get? a = some { cls := .type "list", data := .seq its.toArray n } ∧ vs.length ≤ sizeLine := by
  rcases h with h | ⟨its, n, h1, h2, h3⟩
  · obtain ⟨z, its, n, r, e⟩ := h.ok I.hok
    exact ⟨its, n, r, e, z⟩
  · exact ⟨its, n, h3, I.kIn a _ h1, h2⟩
/-- list + list -/
theorem cat_rl : OpR X (binaryOp .Add) (fun x y H Q => ∃ l b xs zs, x = .ref l ∧ y = .ref b ∧ RL X.K H l xs ∧ RL X.K H b zs ∧ xs.length + zs.length ≤ sizeLine ∧ ∀ p, H p = none → Q (.ref p) (upd H p (.lst (xs ++ zs)))) := by
  intro pins s σ H x y v u Q I rx ry h
  obtain ⟨l, b, xs, zs, rfl, rfl, hH, hB, hz, q⟩ := h
  cases rx
  cases ry
  obtain ⟨i1, n1, r1, e1, z1⟩ := RL.obj I hH
  obtain ⟨i2, n2, r2, e2, z2⟩ := RL.obj I hB
  have l1 := r1.length
  have l2 := r2.length
  have ea : i1.toArray ++ i2.toArray = (i1 ++ i2).toArray := by simp
  refine PySem.P.add_list e1 e2 ?_ (by rw [List.size_toArray, List.size_toArray]; omega)
  rw [ea]
  exact ⟨.ref _, _, I.lnew (t' := s.toks) (r1.append r2) (by rw [List.length_append]; omega), rfl, q _ I.fresh⟩
theorem add_ok : OpR X (binaryOp .Add) (rB (kx X ca) addD) := by
  intro pins s σ H x y v u Q I rx ry h
  obtain ⟨ρ, S, d, e, r, p1, p2, h⟩ := h
  unfold addD at h
  split at h
  · rename_i i j
    obtain rfl : x = _ := p1
    obtain rfl : y = _ := p2
    exact op_add pins s σ H _ _ v u Q I rx ry ⟨i, j, rfl, rfl, h _ ρ H .refl r rfl⟩
  · rename_i a b
    obtain rfl : x = _ := p1
    obtain rfl : y = _ := p2
    split at h
    · rename_i hz
      exact op_add_str pins s σ H _ _ v u Q I rx ry ⟨a, b, rfl, rfl, hz, h _ ρ H .refl r rfl⟩
    · exact h.elim
  · rename_i a b
    obtain ⟨c1, vs1, rfl, t1, q1⟩ := p1
    obtain ⟨c2, vs2, rfl, t2, q2⟩ := p2
    split at h
    · rename_i hz
      refine op_catA pins s σ H _ _ v u Q I rx ry ⟨c1, c2, vs1, vs2, rfl, rfl, t1.sq, t2.sq, by rw [q1.length, q2.length]; exact hz, fun e1 => ?_, fun e1 e2 => ?_, fun e1 e2 p hp => ?_⟩
      · have : a = [] := List.length_eq_zero_iff.mp (by rw [← q1.length, e1]; rfl)
        subst this
        exact h _ ρ H .refl r ⟨c2, vs2, rfl, t2, by simpa using q2⟩
      · have : b = [] := List.length_eq_zero_iff.mp (by rw [← q2.length, e2]; rfl)
        subst this
        exact h _ ρ H .refl r ⟨c1, vs1, rfl, t1, by simpa using q1⟩
      · exact h _ ρ _ (.new _ hp) (r.new _ hp) (rep_newT r hp (q1.append q2))
    · exact h.elim
  · split at h
    · rename_i a b ea eb
      split at h
      · rename_i hz
        obtain ⟨c1, vs1, rfl, t1, q1⟩ := lvT_list r p1 ea
        obtain ⟨c2, vs2, rfl, t2, q2⟩ := lvT_list r p2 eb
        refine cat_rl pins s σ H _ _ v u Q I rx ry ⟨c1, c2, vs1, vs2, rfl, rfl, t1, t2, by rw [q1.length, q2.length]; exact hz, fun p hp => ?_⟩
        exact h _ ρ _ (.new _ hp) (r.new _ hp) (rep_newL r hp (q1.append q2))
      · exact h.elim
    · exact h.elim
/-- list * int -/
theorem rep_rl : OpR X (binaryOp .Mult) (fun x y H Q => ∃ l k xs, x = .ref l ∧ y = .int k ∧ RL X.K H l xs ∧ -(2 ^ 63) ≤ k ∧ k < 2 ^ 63 ∧ xs.length * k.toNat ≤ sizeLine ∧ ∀ p, H p = none → Q (.ref p) (upd H p (.lst (List.replicate k.toNat xs).flatten))) := by
  intro pins s σ H x y v u Q I rx ry h
  obtain ⟨l, k, xs, rfl, rfl, hH, h1, h2, hz, q⟩ := h
  cases rx
  obtain ⟨t, rfl⟩ := ry
  obtain ⟨its, n, r, e, z⟩ := RL.obj I hH
  have hl := r.length
  have c1 : its.toArray.size * k.toNat ≤ sizeLine := by rw [List.size_toArray, ← hl]; exact hz
  have c2 : ¬ its.toArray.size * k.toNat > (2 ^ 63 - 1) / 8 := fun q => by
    have h3 : (sizeLine : Nat) ≤ (2 ^ 63 - 1) / 8 := by decide
    omega
  have c3 : ¬ (!Builtin.List.listFitsIndex k) = true := by rw [fitsIndex_both h1 h2]; decide
  have c4 : ¬ Builtin.List.listTooLong (its.toArray.size * k.toNat) = true := by rw [notLongL c1]; decide
  have c5 : ∀ m : Nat, List.foldl (fun x1 x2 => x1 ++ x2) #[] (List.replicate m its.toArray) = (List.replicate m its).flatten.toArray := fun m => by
    have h3 := foldl_rep its m []
    rwa [List.nil_append] at h3
  have c6 : List.foldl (fun x1 x2 => x1 ++ x2) #[] (List.replicate (if its.toArray.isEmpty = true then 0 else k.toNat) its.toArray) = (List.replicate k.toNat its).flatten.toArray := by
    rw [c5]
    cases its with
    | nil => simp
    | cons a r' => simp
  refine wpAny_binaryOp_repeat_ref (T := "list") (U := "int") (by decide) ⟨_, e, rfl⟩ (fun s' => typeIs_int s' k t) noFill_list_mul F.fills_int_mul F.slot_int_rmul repeat_list F.slot_int_index.lookup
    (call_meets F.slot_int_rmul (typeIs_int s k t) F.entry_int_rmul (F.args_int_rmul_2 _ _) (int___rmul___int_list k t l its.toArray n) ⟨e, rfl, ⟨_, e, rfl⟩, ?_⟩)
  refine call_meets F.slot_list_mul ⟨_, e, rfl⟩ F.entry_list_mul (F.args_list_mul_2 _ _) (AutoListH.list___mul___list_int_3 l its.toArray n k t c3 c2 c4) ⟨e, ?_⟩
  rw [c6]
  exact ⟨.ref _, _, I.lnew (t' := s.toks) (r.rep k.toNat) (by rw [PyProof.Rows.lm_len_rep_flat, Nat.mul_comm]; exact hz), rfl, q _ I.fresh⟩

theorem repS_eq (k : Int) (x : Str) : (⟨(List.replicate k.toNat x.cps).foldl (· ++ ·) #[]⟩ : Str) = repS k x := by
  unfold repS
  congr 1
  have h : ∀ (m : Nat) (acc : Array Nat), (List.replicate m x.cps).foldl (· ++ ·) acc = acc ++ ((List.replicate m x.cps.toList).flatten).toArray := by
    intro m
    induction m with
    | zero => intro acc; simp
    | succ m ih =>
      intro acc
      rw [List.replicate_succ, List.foldl_cons, ih, List.replicate_succ, List.flatten_cons]
      apply Array.toList_inj.mp
      simp [List.append_assoc]
  rw [h]
  simp
theorem repS_small {k : Int} (x : Str) (h : k < 1) : repS k x = Str.empty := by
  unfold repS
  have : k.toNat = 0 := by omega
  rw [this]
  rfl
theorem repS_one {k : Int} {x : Str} (h : (k == 1 || x.length == 0) = true) : repS k x = x := by
  apply Str.ext'
  apply Array.toList_inj.mp
  unfold repS
  rcases Bool.or_eq_true_iff.mp h with q | q
  · have : k = 1 := by simpa using q
    subst this
    show (List.replicate 1 x.cps.toList).flatten.toArray.toList = _
    simp
  · have e : x.cps.toList = [] := by
      apply List.length_eq_zero_iff.mp
      have : x.cps.size = 0 := by simpa [Str.length] using q
      simpa using this
    rw [e]
    simp
theorem mul_strR : OpR X (binaryOp .Mult) (fun x y H Q => ∃ a k, x = .str a ∧ y = .int k ∧ 0 ≤ k ∧ k ≤ 1000 ∧ a.length ≤ 1000 ∧ Q (.str (repS k a)) H) := by
  intro pins s σ H x y v u Q I rx ry h
  obtain ⟨a, k, rfl, rfl, h0, h1, h2, q⟩ := h
  obtain ⟨t, rfl⟩ := rx
  obtain ⟨t', rfl⟩ := ry
  have e1 : decide (k < -(2 ^ 63 : Int)) = false := decide_eq_false (by omega)
  have e2 : decide (k ≥ 2 ^ 63) = false := decide_eq_false (by omega)
  refine PySem.P.mul_str (by rw [e1, e2]; rfl) (fun g1 g2 z => ?_) (fun g1 g2 => ?_) ?_
  · have g3 : (0 : Int) < k := by omega
    have g4 : (2 ^ 63 - 1) / 1000 ≤ ((2 : Int) ^ 63 - 1) / k := by
      apply (Int.le_ediv_iff_mul_le g3).mpr
      have g5 : (2 ^ 63 - 1 : Int) / 1000 * k ≤ (2 ^ 63 - 1 : Int) / 1000 * 1000 := Int.mul_le_mul_of_nonneg_left h1 (by decide)
      omega
    omega
  · unfold Builtin.Str.tooLong
    apply decide_eq_false
    have g3 : a.length * k.toNat ≤ 1000 * 1000 := Nat.mul_le_mul h2 (by omega)
    have g4 := sizeLine_eq
    omega
  · split
    · rename_i g
      rw [repS_small a g] at q
      exact ⟨by decide, .str Str.empty, H, I.tok _, ⟨_, rfl⟩, q⟩
    · split
      · rename_i g
        rw [repS_one g] at q
        exact ⟨.str a, H, I, ⟨t, rfl⟩, q⟩
      · rw [repS_eq]
        refine ⟨?_, .str _, H, I.tok _, ⟨_, rfl⟩, q⟩
        have g3 : a.length * k.toNat ≤ 1000 * 1000 := Nat.mul_le_mul h2 (by omega)
        have g4 : (repS k a).length = k.toNat * a.length := by
          unfold repS Str.length
          simp
        have g5 := sizeLine_eq
        rw [g4, Nat.mul_comm]
        omega
end
end Cr
set_option Elab.async false
set_option linter.all false
set_option maxHeartbeats 1000000
/-! Cr5: operators, comparisons, subscripts, built-in functions and methods of the evaluator keep their promise. -/
namespace Cr
open PySem L2 PyProof.Rows
section
variable {X : Cx} {ca : Nat → Addr} {pins : List (Addr × Obj)} {σ : L2.St} {H : Hp} {s : Shared} {ρ : Lo} {S : Sto}
theorem mul_ok : OpR X (binaryOp .Mult) (rB (kx X ca) mulD) := by
  intro pins s σ H x y v u Q I rx ry h
  obtain ⟨ρ, S, d, e, r, p1, p2, h⟩ := h
  unfold mulD at h
  split at h
  · rename_i i j
    obtain rfl : x = _ := p1
    obtain rfl : y = _ := p2
    split at h
    · rename_i hz
      exact op_mulW pins s σ H _ _ v u Q I rx ry ⟨i, j, rfl, rfl, hz, h _ ρ H .refl r rfl⟩
    · exact h.elim
  · rename_i a b
    obtain rfl : x = _ := p1
    obtain rfl : y = _ := p2
    split at h
    · rename_i hz
      exact mul_strR pins s σ H _ _ v u Q I rx ry ⟨a, b, rfl, rfl, hz.1, hz.2.1, hz.2.2, h _ ρ H .refl r rfl⟩
    · exact h.elim
  · rename_i a k
    obtain ⟨c1, vs1, rfl, t1, q1⟩ := p1
    obtain rfl : y = _ := p2
    split at h
    · rename_i hz
      obtain ⟨z1, z2, z3, z4⟩ := hz
      refine op_repT pins s σ H _ _ v u Q I rx ry ⟨c1, k, vs1, rfl, rfl, t1.sq, fun e1 => z1 ?_, z2, z3, by rw [q1.length]; exact z4, fun p hp => ?_⟩
      · exact List.length_eq_zero_iff.mp (by rw [← q1.length, e1]; rfl)
      · exact h _ ρ _ (.new _ hp) (r.new _ hp) (rep_newT r hp (q1.rep _))
    · exact h.elim
  · rename_i k _ _ _
    split at h
    · rename_i a ea
      split at h
      · rename_i hz
        obtain ⟨c1, vs1, rfl, t1, q1⟩ := lvT_list r p1 ea
        obtain rfl : y = _ := p2
        refine rep_rl pins s σ H _ _ v u Q I rx ry ⟨c1, k, vs1, rfl, rfl, t1, hz.1, hz.2.1, by rw [q1.length]; exact hz.2.2, fun p hp => ?_⟩
        exact h _ ρ _ (.new _ hp) (r.new _ hp) (rep_newL r hp (q1.rep _))
      · exact h.elim
    · exact h.elim
  · exact h.elim
theorem fdiv_wide : OpR X (binaryOp .FloorDiv) (rI (fun _ j => j ≠ 0 ∧ j.natAbs.log2 < 9000) fun i j => .int (i.fdiv j)) :=
  opI fun _ _ _ _ _ _ _ hc q => floordiv_int hc.1 q (.inl (PyProof.noPylong_of_log2 hc.2))
theorem bin_ok (op : Operator) : OpR X (binaryOp op) (rB (kx X ca) (binD op)) := by
  intro pins s σ H x y v u Q I rx ry h
  obtain ⟨ρ, S, d, e, r, p1, p2, h⟩ := h
  unfold binD at h
  split at h
  · exact add_ok pins s σ H x y v u Q I rx ry ⟨ρ, S, d, e, r, p1, p2, h⟩
  · exact mul_ok pins s σ H x y v u Q I rx ry ⟨ρ, S, d, e, r, p1, p2, h⟩
  · split at h
    · rename_i i j
      obtain rfl : x = _ := p1
      obtain rfl : y = _ := p2
      exact op_sub pins s σ H _ _ v u Q I rx ry ⟨i, j, rfl, rfl, h _ ρ H .refl r rfl⟩
    · exact h.elim
  · split at h
    · rename_i i j
      obtain rfl : x = _ := p1
      obtain rfl : y = _ := p2
      split at h
      · rename_i hz
        exact fdiv_wide pins s σ H _ _ v u Q I rx ry ⟨i, j, rfl, rfl, hz, h _ ρ H .refl r rfl⟩
      · exact h.elim
    · exact h.elim
  · split at h
    · rename_i i j
      obtain rfl : x = _ := p1
      obtain rfl : y = _ := p2
      split at h
      · rename_i hz
        exact op_modN pins s σ H _ _ v u Q I rx ry ⟨i, j, rfl, rfl, hz, h _ ρ H .refl r rfl⟩
      · exact h.elim
    · exact h.elim
  · split at h
    · rename_i i j
      obtain rfl : x = _ := p1
      obtain rfl : y = _ := p2
      split at h
      · rename_i hz
        exact op_pow pins s σ H _ _ v u Q I rx ry ⟨i, j, rfl, rfl, hz, h _ ρ H .refl r rfl⟩
      · exact h.elim
    · exact h.elim
  · exact h.elim

/-! ### comparisons -/
theorem plain_nl {d : D} (h : plain d = true) : lv S d = d := lv_ndict fun kvs e => by
  subst e
  unfold plain at h
  simp [PyData.canLay0] at h
theorem Rel.dp' (r : Rel X.K ca ρ S H) {d : D} {v : V} (h : Rep X.K ρ H d v) (c : plain d = true) : Dp X.K H v d ∧ SeqAt.shaped d = true := by
  have e := plain_nl (S := S) c
  have q := r.dp h (by rw [e]; exact c)
  rw [e] at q
  exact q
theorem reads_of (I : Inv X pins σ H s) (r : Rel X.K ca ρ S H) {d : D} {v : V} {u : Value} (h : Rep X.K ρ H d v) (c : plain (lv S d) = true) (ru : RelV v u) : ∃ as, Reads s.heap u (lv S d) as :=
  Dp.reads I _ _ _ (r.dp h c).1 ru
theorem depth_plain {d : D} (h : plain d = true) : d.canLay0 = true ∧ d.depth ≤ 64 := by
  unfold plain at h
  have := Bool.and_eq_true_iff.mp h
  exact ⟨this.1, of_decide_eq_true this.2⟩
theorem isNon_ne {d : D} (h : isNon d = false) : d ≠ .none := fun e => by subst e; exact absurd h (by decide)
/-- < > <= >= -/
theorem ord_go {op : CmpOp} {g : D → D → Bool} (hu : X.A.units + 100 < cLine)
    (rule : ∀ (s : Shared) (a b : Value) (da db : PyData) (as bs : List Addr) (Q : Value → Shared → Prop), Reads s.heap a da as → Reads s.heap b db bs → PySem.W.alike da db = true → da ≠ .none → X.A.units + min da.depth db.depth < cLine → Q (.bool (g da db)) s →
      wpAny (model X.prog X.w) X.A (compareOp op a b) Q X.xe s)
    {x y : V} {v u : Value} {Q : VK} (I : Inv X pins σ H s) (rx : RelV x v) (ry : RelV y u) {d e : D} (r : Rel X.K ca ρ S H) (p1 : Rep X.K ρ H d x) (p2 : Rep X.K ρ H e y)
    (h : post0 (kx X ca) ρ H (if plain d = true ∧ plain e = true ∧ PySem.W.alike d e = true ∧ isNon d = false then .ok (.bool (g d e)) S else .bad) Q) :
    wpAny (model X.prog X.w) X.A (compareOp op v u) (EP X pins σ Q) X.xe s := by
  split at h
  · rename_i c
    obtain ⟨c1, c2, c3, c4⟩ := c
    obtain ⟨as, r1⟩ := Dp.reads I _ _ _ (r.dp' p1 c1).1 rx
    obtain ⟨bs, r2⟩ := Dp.reads I _ _ _ (r.dp' p2 c2).1 ry
    refine rule s v u d e as bs _ r1 r2 c3 (isNon_ne c4) ?_ ⟨.bl _, H, I, rfl, h _ ρ H .refl r rfl⟩
    have z1 := (depth_plain c1).2
    have z2 : min d.depth e.depth ≤ d.depth := Nat.min_le_left _ _
    omega
  · exact h.elim
/-- in a list, a tuple -/
theorem in_go (hu : X.A.units + 100 < cLine) (neg : Bool) {x y : V} {v u : Value} {Q : VK} (I : Inv X pins σ H s) (rx : RelV x v) (ry : RelV y u) {d e : D} (r : Rel X.K ca ρ S H) (p1 : Rep X.K ρ H d x) (p2 : Rep X.K ρ H e y)
    {ys : List D} (he : lv S e = .list ys ∨ lv S e = .tuple ys) (c1 : plain (lv S e) = true) (c2 : plain d = true) (q : Q (.bl (if neg = true then !inD d ys else inD d ys)) H) :
    wpAny (model X.prog X.w) X.A (compareOp (if neg = true then .NotIn else .In) v u) (EP X pins σ Q) X.xe s := by
  obtain ⟨as, r1⟩ := Dp.reads I _ _ _ (r.dp' p1 c2).1 rx
  obtain ⟨bs, r2⟩ := reads_of I r p2 c1 ry
  have z0 := depth_plain c1
  have z1 := (depth_plain c2).2
  have z2 : min (PyData.depthAll ys) d.depth ≤ d.depth := Nat.min_le_right _ _
  rcases he with he | he
  · rw [he] at r2 z0
    have hl : PyData.canLayAll0 ys = true := by simpa [PyData.canLay0] using z0.1
    cases neg with
    | false => exact SeqAt.in_list_reads r2 r1 hl (depth_plain c2).1 (by omega) ⟨.bl _, H, I, rfl, q⟩
    | true => exact SeqAt.notIn_list_reads r2 r1 hl (depth_plain c2).1 (by omega) ⟨.bl _, H, I, rfl, q⟩
  · rw [he] at r2 z0
    have hl : PyData.canLayAll0 ys = true := by simpa [PyData.canLay0] using z0.1
    cases neg with
    | false => exact SeqAt.in_tuple_reads r2 r1 hl (depth_plain c2).1 (by omega) ⟨.bl _, H, I, rfl, q⟩
    | true => exact SeqAt.notIn_tuple_reads r2 r1 hl (depth_plain c2).1 (by omega) ⟨.bl _, H, I, rfl, q⟩
theorem non_or {d : D} {x : V} (h : Rep X.K ρ H d x) : (d = .none ∧ x = .non) ∨ (d ≠ .none ∧ x ≠ .non) := by
  cases d with
  | none => exact .inl ⟨rfl, h⟩
  | bool b => exact .inr ⟨(fun z => nomatch z), by rw [show x = _ from h]; exact (fun z => nomatch z)⟩
  | int b => exact .inr ⟨(fun z => nomatch z), by rw [show x = _ from h]; exact (fun z => nomatch z)⟩
  | str b => exact .inr ⟨(fun z => nomatch z), by rw [show x = _ from h]; exact (fun z => nomatch z)⟩
  | tuple b => obtain ⟨a, vs, rfl, _⟩ := h; exact .inr ⟨(fun z => nomatch z), (fun z => nomatch z)⟩
  | list b => obtain ⟨a, vs, rfl, _⟩ := h; exact .inr ⟨(fun z => nomatch z), (fun z => nomatch z)⟩
  | dict b => obtain ⟨n, a, _, _, rfl⟩ := h; exact .inr ⟨(fun z => nomatch z), (fun z => nomatch z)⟩
theorem not_bl {K : PySem.W.Frag} {ρ : Lo} {H : Hp} {d : D} {x : V} {v : Value} {b : Bool} (h : Rep K ρ H d x) (hb : ∀ c, d ≠ .bool c) (rx : RelV x v) : plainIs v (.bool b) = true ∧ v ≠ .bool b := by
  cases d with
  | none => obtain rfl : x = _ := h; obtain rfl : v = _ := rx; exact ⟨rfl, fun z => by cases z⟩
  | bool c => exact absurd rfl (hb c)
  | int c => obtain rfl : x = _ := h; obtain ⟨t, rfl⟩ := rx; exact ⟨rfl, fun z => by cases z⟩
  | str c => obtain rfl : x = _ := h; obtain ⟨t, rfl⟩ := rx; exact ⟨rfl, fun z => by cases z⟩
  | tuple c => obtain ⟨a, vs, rfl, _⟩ := h; obtain rfl : v = _ := rx; exact ⟨rfl, fun z => by cases z⟩
  | list c => obtain ⟨a, vs, rfl, _⟩ := h; obtain rfl : v = _ := rx; exact ⟨rfl, fun z => by cases z⟩
  | dict c => obtain ⟨n, a, _, _, rfl⟩ := h; obtain rfl : v = _ := rx; exact ⟨rfl, fun z => by cases z⟩
theorem cmp_ok (hu : X.A.units + 100 < cLine) (op : CmpOp) : OpR X (compareOp op) (rB (kx X ca) (cmpD op)) := by
  intro pins s σ H x y v u Q I rx ry h
  obtain ⟨ρ, S, d, e, r, p1, p2, h⟩ := h
  cases op with
  | Eq =>
    dsimp only [cmpD] at h
    split at h
    · rename_i c
      have a1 := r.dp p1 c.1
      have a2 := r.dp p2 c.2
      exact op_eqD (by omega) pins s σ H x y v u Q I rx ry ⟨_, _, a1.1, a2.1, a1.2, a2.2, h _ ρ H .refl r rfl⟩
    · exact h.elim
  | NotEq =>
    dsimp only [cmpD] at h
    split at h
    · rename_i c
      have a1 := r.dp p1 c.1
      have a2 := r.dp p2 c.2
      exact op_neD (by omega) pins s σ H x y v u Q I rx ry ⟨_, _, a1.1, a2.1, a1.2, a2.2, h _ ρ H .refl r rfl⟩
    · exact h.elim
  | Lt => exact ord_go (g := fun a b => PySem.W.dataLt a b) hu (fun s a b da db as bs Q r1 r2 h1 h2 h3 q => PySem.W.lt_data r1 r2 h1 h2 h3 q) I rx ry r p1 p2 h
  | Gt => exact ord_go (g := fun a b => PySem.W.dataLt b a) hu (fun s a b da db as bs Q r1 r2 h1 h2 h3 q => PySem.W.gt_data r1 r2 h1 h2 h3 q) I rx ry r p1 p2 h
  | LtE => exact ord_go (g := fun a b => !PySem.W.dataLt b a) hu (fun s a b da db as bs Q r1 r2 h1 h2 h3 q => PySem.W.le_data r1 r2 h1 h2 h3 q) I rx ry r p1 p2 h
  | GtE => exact ord_go (g := fun a b => !PySem.W.dataLt a b) hu (fun s a b da db as bs Q r1 r2 h1 h2 h3 q => PySem.W.ge_data r1 r2 h1 h2 h3 q) I rx ry r p1 p2 h
  | Is =>
    dsimp only [cmpD] at h
    split at h
    · obtain rfl : y = _ := p2
      rcases non_or p1 with ⟨rfl, rfl⟩ | ⟨h1, h2⟩
      · exact op_isN pins s σ H _ _ v u Q I rx ry ⟨rfl, h _ ρ H .refl r rfl⟩
      · refine op_isN pins s σ H _ _ v u Q I rx ry ⟨rfl, ?_⟩
        rw [decide_eq_false h2]
        split at h
        · exact absurd rfl h1
        · exact h _ ρ H .refl r rfl
    · obtain rfl : y = _ := p2
      split at h
      · obtain rfl : x = _ := p1
        exact op_isBl pins s σ H _ _ v u Q I rx ry ⟨_, _, rfl, rfl, h _ ρ H .refl r rfl⟩
      · rename_i hb
        obtain ⟨q1, q2⟩ := not_bl (b := _) p1 hb rx
        obtain rfl : u = _ := ry
        exact wpAny_is_other q1 q2 ⟨.bl false, H, I, rfl, h _ ρ H .refl r rfl⟩
    · exact h.elim
  | IsNot =>
    dsimp only [cmpD] at h
    split at h
    · obtain rfl : y = _ := p2
      rcases non_or p1 with ⟨rfl, rfl⟩ | ⟨h1, h2⟩
      · exact op_notN pins s σ H _ _ v u Q I rx ry ⟨rfl, h _ ρ H .refl r rfl⟩
      · refine op_notN pins s σ H _ _ v u Q I rx ry ⟨rfl, ?_⟩
        rw [decide_eq_false h2]
        split at h
        · exact absurd rfl h1
        · exact h _ ρ H .refl r rfl
    · obtain rfl : y = _ := p2
      split at h
      · obtain rfl : x = _ := p1
        exact op_notBl pins s σ H _ _ v u Q I rx ry ⟨_, _, rfl, rfl, h _ ρ H .refl r rfl⟩
      · rename_i hb
        obtain ⟨q1, q2⟩ := not_bl (b := _) p1 hb rx
        obtain rfl : u = _ := ry
        exact wpAny_isNot_other q1 q2 ⟨.bl true, H, I, rfl, h _ ρ H .refl r rfl⟩
    · exact h.elim
  | In =>
    dsimp only [cmpD] at h
    split at h
    · rename_i ys he
      split at h
      · rename_i c
        exact in_go hu false I rx ry r p1 p2 (.inl he) (by rw [he]; exact c.1) c.2 (h _ ρ H .refl r rfl)
      · exact h.elim
    · rename_i ys he
      split at h
      · rename_i c
        exact in_go hu false I rx ry r p1 p2 (.inr he) (by rw [he]; exact c.1) c.2 (h _ ρ H .refl r rfl)
      · exact h.elim
    · rename_i b he
      obtain rfl := lv_of he (fun _ z => nomatch z)
      obtain rfl : y = _ := p2
      split at h
      · obtain rfl : x = _ := p1
        exact op_in_str pins s σ H _ _ v u Q I rx ry ⟨_, _, rfl, rfl, h _ ρ H .refl r rfl⟩
      · exact h.elim
    · exact h.elim
  | NotIn =>
    dsimp only [cmpD] at h
    split at h
    · rename_i ys he
      split at h
      · rename_i c
        exact in_go hu true I rx ry r p1 p2 (.inl he) (by rw [he]; exact c.1) c.2 (h _ ρ H .refl r rfl)
      · exact h.elim
    · rename_i ys he
      split at h
      · rename_i c
        exact in_go hu true I rx ry r p1 p2 (.inr he) (by rw [he]; exact c.1) c.2 (h _ ρ H .refl r rfl)
      · exact h.elim
    · rename_i b he
      obtain rfl := lv_of he (fun _ z => nomatch z)
      obtain rfl : y = _ := p2
      split at h
      · obtain rfl : x = _ := p1
        exact L2.op_notIn_str pins s σ H _ _ v u Q I rx ry ⟨_, _, rfl, rfl, h _ ρ H .refl r rfl⟩
      · exact h.elim
    · exact h.elim
end
end Cr
set_option Elab.async false
set_option linter.all false
set_option maxHeartbeats 1000000
/-! Cr6: subscripts, slices, built-in functions and methods. -/
namespace Cr
open PySem L2 PyProof.Rows
section
variable {X : Cx} {ca : Nat → Addr} {pins : List (Addr × Obj)} {σ : L2.St} {H : Hp} {s : Shared} {ρ : Lo} {S : Sto}
theorem key_rep {d : D} {k : Key} {v : V} (e : keyOf d = some k) (h : Rep X.K ρ H d v) : v = kV k := by
  cases d with
  | int i => cases e; exact h
  | str x => cases e; exact h
  | _ => cases e
theorem getK_rep : ∀ {kvs : List (Key × D)} {kvs' : List (Key × V)}, kvs'.map (·.1) = kvs.map (·.1) → Reps X.K ρ H (kvs.map (·.2)) (kvs'.map (·.2)) → ∀ {k : Key},
    (∀ {d : D}, getK kvs k = some d → ∃ v, valV kvs' k = some v ∧ Rep X.K ρ H d v) ∧ (getK kvs k = none → valV kvs' k = none)
  | [], [], _, _, k => ⟨(fun e => by cases e), fun _ => rfl⟩
  | [], p :: r, e, _, k => by cases e
  | p :: r, [], e, _, k => by cases e
  | p :: r, q :: t, e, h, k => by
    have e' := List.cons.inj e
    obtain ⟨v, w, e2, h2, h3⟩ := h
    have e2' := List.cons.inj e2
    have ih := getK_rep (k := k) e'.2 (by rw [e2'.2]; exact h3)
    have hk : q.1 = p.1 := e'.1
    by_cases c : p.1 = k
    · have c' : q.1 = k := hk.trans c
      refine ⟨fun {d} g => ⟨q.2, L2.valV_pos c', ?_⟩, fun g => ?_⟩
      · have : getK (p :: r) k = some p.2 := by simp [getK, List.find?_cons, c]
        rw [this] at g; cases g
        have e3 : q.2 = v := e2'.1
        rw [e3]; exact h2
      · have : getK (p :: r) k = some p.2 := by simp [getK, List.find?_cons, c]
        rw [this] at g; cases g
    · have c' : ¬ q.1 = k := fun z => c (hk.symm.trans z)
      have : getK (p :: r) k = getK r k := by simp [getK, List.find?_cons, c]
      rw [this, L2.valV_neg c']
      exact ih
theorem dicOf_rep (r : Rel X.K ca ρ S H) {d : D} {v : V} {kvs : List (Key × D)} (e : dicOf S d = some kvs) (h : Rep X.K ρ H d v) :
    ∃ n a kvs', d = Cr.loc n ∧ S[n]? = some (.dic kvs) ∧ ρ.ls[n]? = some a ∧ v = .ref a ∧ H a = some (.dK kvs') ∧ kvs'.map (·.1) = kvs.map (·.1) ∧ (kvs.map (·.1)).Nodup ∧ Reps X.K ρ H (kvs.map (·.2)) (kvs'.map (·.2)) := by
  cases d with
  | dict ks =>
    obtain ⟨n, en⟩ := loc_of h
    rw [en] at e h ⊢
    unfold dicOf Cr.loc at e
    simp only [Int.toNat_natCast] at e
    cases hs : S[n]? with
    | none => rw [hs] at e; cases e
    | some o =>
      cases o with
      | dic ks' =>
        rw [hs] at e
        cases e
        obtain ⟨a, h1, h2, kvs', h3, h4, h5, h6⟩ := r.loc h hs
        exact ⟨n, a, kvs', rfl, hs, h2, h1, h3, h4, h5, h6⟩
      | _ => rw [hs] at e; cases e
  | _ => cases e
theorem idx_ok (hu : X.A.units + 100 < cLine) : IxR X (rB (kx X ca) idxD) := by
  intro value slice pins s σ H x y v u Q I rx ry h hs
  obtain ⟨ρ, S, d, e, r, p1, p2, h⟩ := h
  unfold idxD at h
  split at h
  · rename_i kvs hk
    split at h
    · rename_i w hw
      obtain ⟨n, a, kvs', rfl, _, _, rfl, g1, g2, _, g4⟩ := dicOf_rep r hk p1
      cases rx
      obtain ⟨key, k1, k2⟩ := Option.bind_eq_some_iff.mp hw
      obtain ⟨z, z1, z2⟩ := (getK_rep g2 g4).1 k2
      have g : DGet H a y (some z) := by
        rw [key_rep k1 p2, ← z1]
        exact DGet.k g1
      exact tail_any (dict_typeIs I g) PySem.F.slot_dict_getitem.lookup (d_getItem (by omega) I g ry fun w' s3 I3 rw' => ⟨z, H, I3, rw', h z ρ H .refl r z2⟩) hs
    · exact h.elim
  · split at h
    · rename_i i
      obtain rfl : y = _ := p2
      split at h
      · rename_i xs he
        split at h
        · rename_i w hw
          obtain ⟨a, vs, rfl, h1, h2⟩ := lv_list r p1 he
          obtain ⟨j, hj, hv⟩ := Option.bind_eq_some_iff.mp hw
          obtain ⟨z, z1, z2⟩ := h2.get hv
          exact ix_list value slice pins s σ H _ _ v u Q I rx ry ⟨a, vs, i, z, rfl, rfl, h1.sq, by rw [atI, h2.length, hj]; exact z1, h z ρ H .refl r z2⟩ hs
        · exact h.elim
      · rename_i xs he
        split at h
        · rename_i w hw
          obtain rfl := lv_of he (fun _ z => nomatch z)
          obtain ⟨a, vs, rfl, h1, h2⟩ := p1
          obtain ⟨j, hj, hv⟩ := Option.bind_eq_some_iff.mp hw
          obtain ⟨z, z1, z2⟩ := h2.get hv
          exact ix_tup value slice pins s σ H _ _ v u Q I rx ry ⟨a, vs, i, z, rfl, rfl, h1.sq, by rw [atI, h2.length, hj]; exact z1, h z ρ H .refl r z2⟩ hs
        · exact h.elim
      · rename_i z he
        obtain rfl := lv_of he (fun _ z => nomatch z)
        obtain rfl : x = _ := p1
        split at h
        · rename_i hz
          split at h
          · rename_i c hc
            exact ix_str value slice pins s σ H _ _ v u Q I rx ry ⟨z, i, c, rfl, rfl, hz, hc, h _ ρ H .refl r rfl⟩ hs
          · exact h.elim
        · exact h.elim
      · exact h.elim
    · exact h.elim
/-! ### slices -/
def rS (k : Kx) : V → Option Int → Option Int → Hp → VK → Prop := fun x lo hi H Q => ∃ ρ S d, Rel k.K k.ca ρ S H ∧ Rep k.K ρ H d x ∧ post0 k ρ H (sliD d lo hi S) Q
theorem cutL_reps {ds : List D} {vs : List V} (h : Reps X.K ρ H ds vs) (lo hi : Option Int) : Reps X.K ρ H (cutL ds lo hi) (cutV vs lo hi) := by
  unfold cutL cutV
  rw [h.length]
  exact (h.drop _).take _
theorem sli_ok : SlR X (rS (kx X ca)) := by
  intro pins s σ H x v vl vu lo hi sl Q I rx hs pl pu h
  obtain ⟨ρ, S, d, r, p1, h⟩ := h
  unfold sliD at h
  split at h
  · rename_i xs he
    obtain ⟨a, vs, rfl, h1, h2⟩ := lv_list r p1 he
    exact sl_list pins s σ H _ v vl vu lo hi sl Q I rx hs pl pu ⟨a, vs, rfl, h1.sq, fun p hp => h _ ρ _ (.new _ hp) (r.new _ hp) (rep_newL r hp (cutL_reps h2 lo hi))⟩
  · rename_i xs he
    obtain rfl := lv_of he (fun _ z => nomatch z)
    obtain ⟨a, vs, rfl, h1, h2⟩ := p1
    refine sl_tupA pins s σ H _ v vl vu lo hi sl Q I rx hs pl pu ⟨a, vs, rfl, h1.sq, fun hw => ?_, fun _ p hp => ?_⟩
    · have e : cutL xs lo hi = xs := by
        unfold cutL
        rw [← h2.length, hw.1, hw.2]
        simp [h2.length]
      rw [e] at h
      exact h _ ρ H .refl r ⟨a, vs, rfl, h1, h2⟩
    · exact h _ ρ _ (.new _ hp) (r.new _ hp) (rep_newT r hp (cutL_reps h2 lo hi))
  · rename_i z he
    obtain rfl := lv_of he (fun _ z => nomatch z)
    obtain rfl : x = _ := p1
    split at h
    · rename_i hz
      exact L2.sl_str pins s σ H _ v vl vu lo hi sl Q I rx hs pl pu ⟨z, rfl, hz, h _ ρ H .refl r rfl⟩
    · exact h.elim
  · exact h.elim
end
end Cr
set_option Elab.async false
set_option linter.all false
set_option maxHeartbeats 1000000
/-! Cr7: built-in functions and methods. -/
namespace Cr
open PySem L2 PyProof.Rows
section
variable {X : Cx} {ca : Nat → Addr} {pins : List (Addr × Obj)} {σ : L2.St} {H : Hp} {s : Shared} {ρ : Lo} {S : Sto}
def rA (k : Kx) (f : List D → Sto → Out D) : List V → Hp → VK → Prop := fun xs H Q => ∃ ρ S ds, Rel k.K k.ca ρ S H ∧ Reps k.K ρ H ds xs ∧ post0 k ρ H (f ds S) Q
def rM (k : Kx) (f : D → List D → Sto → Out D) : V → List V → Hp → VK → Prop := fun x xs H Q => ∃ ρ S d ds, Rel k.K k.ca ρ S H ∧ Rep k.K ρ H d x ∧ Reps k.K ρ H ds xs ∧ post0 k ρ H (f d ds S) Q
def biV : Bi → Value
  | .abs => .builtin "abs" | .int => .type "int" | .str => .type "str" | .len => .builtin "len" | .tuple => .type "tuple" | .list => .type "list" | .repr => .builtin "repr"
  | .max => .builtin "max" | .maxd => .builtin "max" | .min => .builtin "min" | .all => .builtin "all" | .any => .builtin "any" | .sorted => .builtin "sorted"
theorem bools_of : ∀ {ds : List D} {bs : List Bool} {vs : List V}, boolsOf ds = some bs → Reps X.K ρ H ds vs → vs = bs.map V.bl
  | [], _, _, e, h => by cases e; exact h
  | .bool b :: r, _, _, e, h => by
    obtain ⟨v, w, rfl, h2, h3⟩ := h
    obtain ⟨cs, e1, rfl⟩ := Option.map_eq_some_iff.mp (show (boolsOf r).map (b :: ·) = some _ from e)
    rw [show v = _ from h2, bools_of e1 h3]
    rfl
  | .none :: r, _, _, e, h => by cases e
  | .int _ :: r, _, _, e, h => by cases e
  | .str _ :: r, _, _, e, h => by cases e
  | .tuple _ :: r, _, _, e, h => by cases e
  | .list _ :: r, _, _, e, h => by cases e
  | .dict _ :: r, _, _, e, h => by cases e
theorem ints_of : ∀ {ds : List D} {bs : List Int} {vs : List V}, intsOf ds = some bs → Reps X.K ρ H ds vs → vs = bs.map V.int
  | [], _, _, e, h => by cases e; exact h
  | .int b :: r, _, _, e, h => by
    obtain ⟨v, w, rfl, h2, h3⟩ := h
    obtain ⟨cs, e1, rfl⟩ := Option.map_eq_some_iff.mp (show (intsOf r).map (b :: ·) = some _ from e)
    rw [show v = _ from h2, ints_of e1 h3]
    rfl
  | .none :: r, _, _, e, h => by cases e
  | .bool _ :: r, _, _, e, h => by cases e
  | .str _ :: r, _, _, e, h => by cases e
  | .tuple _ :: r, _, _, e, h => by cases e
  | .list _ :: r, _, _, e, h => by cases e
  | .dict _ :: r, _, _, e, h => by cases e
theorem maxI_spec : ∀ (r : List Int) (n : Int), (maxI n r = n ∨ maxI n r ∈ r) ∧ n ≤ maxI n r ∧ ∀ y ∈ r, y ≤ maxI n r
  | [], n => ⟨.inl rfl, Int.le_refl _, fun _ h => nomatch h⟩
  | m :: r, n => by
    obtain ⟨h1, h2, h3⟩ := maxI_spec r (if m > n then m else n)
    have e : maxI n (m :: r) = maxI (if m > n then m else n) r := rfl
    rw [e]
    refine ⟨?_, ?_, fun y hy => ?_⟩
    · rcases h1 with h1 | h1
      · rw [h1]; split
        · exact .inr List.mem_cons_self
        · exact .inl rfl
      · exact .inr (List.mem_cons_of_mem _ h1)
    · split at h2 <;> split <;> omega
    · rcases List.mem_cons.mp hy with rfl | hy
      · split at h2 <;> split <;> omega
      · exact h3 y hy
theorem minI_spec : ∀ (r : List Int) (n : Int), (minI n r = n ∨ minI n r ∈ r) ∧ minI n r ≤ n ∧ ∀ y ∈ r, minI n r ≤ y
  | [], n => ⟨.inl rfl, Int.le_refl _, fun _ h => nomatch h⟩
  | m :: r, n => by
    obtain ⟨h1, h2, h3⟩ := minI_spec r (if m < n then m else n)
    have e : minI n (m :: r) = minI (if m < n then m else n) r := rfl
    rw [e]
    refine ⟨?_, ?_, fun y hy => ?_⟩
    · rcases h1 with h1 | h1
      · rw [h1]; split
        · exact .inr List.mem_cons_self
        · exact .inl rfl
      · exact .inr (List.mem_cons_of_mem _ h1)
    · split at h2 <;> split <;> omega
    · rcases List.mem_cons.mp hy with rfl | hy
      · split at h2 <;> split <;> omega
      · exact h3 y hy
theorem max_one {n : Int} {r : List Int} {m : Int} (h1 : m ∈ n :: r) (h2 : ∀ y ∈ n :: r, y ≤ m) : m = maxI n r := by
  obtain ⟨a, b, c⟩ := maxI_spec r n
  have d1 : maxI n r ∈ n :: r := a.elim (fun e => by rw [e]; exact List.mem_cons_self) fun e => List.mem_cons_of_mem _ e
  have d2 := h2 _ d1
  rcases List.mem_cons.mp h1 with rfl | h1
  · omega
  · have := c m h1; omega
theorem min_one {n : Int} {r : List Int} {m : Int} (h1 : m ∈ n :: r) (h2 : ∀ y ∈ n :: r, m ≤ y) : m = minI n r := by
  obtain ⟨a, b, c⟩ := minI_spec r n
  have d1 : minI n r ∈ n :: r := a.elim (fun e => by rw [e]; exact List.mem_cons_self) fun e => List.mem_cons_of_mem _ e
  have d2 := h2 _ d1
  rcases List.mem_cons.mp h1 with rfl | h1
  · omega
  · have := c m h1; omega
theorem one_of {d : D} {xs : List V} (h : Reps X.K ρ H [d] xs) : ∃ v, xs = [v] ∧ Rep X.K ρ H d v := by
  obtain ⟨v, r, rfl, h2, h3⟩ := h
  rw [show r = [] from h3]
  exact ⟨v, rfl, h2⟩
theorem blt_ok (hc : X.calm = true) (b : Bi) : CallR X (biV b) (rA (kx X ca) (bltD b)) := by
  intro pins s σ H xs us Q I rv h
  obtain ⟨ρ, S, ds, r, p, h⟩ := h
  unfold bltD at h
  split at h
  · obtain ⟨v, rfl, rfl⟩ := one_of p
    exact call_abs pins s σ H _ us Q I rv ⟨_, rfl, h _ ρ H .refl r rfl⟩
  · obtain ⟨v, rfl, rfl⟩ := one_of p
    exact call_int1 pins s σ H _ us Q I rv (.inl ⟨_, rfl, h _ ρ H .refl r rfl⟩)
  · obtain ⟨v, rfl, rfl⟩ := one_of p
    exact call_int1 pins s σ H _ us Q I rv (.inr ⟨_, rfl, h _ ρ H .refl r rfl⟩)
  · obtain ⟨v, rfl, rfl⟩ := one_of p
    split at h
    · rename_i hz
      exact call_str_int pins s σ H _ us Q I rv ⟨_, rfl, hz, h _ ρ H .refl r rfl⟩
    · exact h.elim
  · obtain ⟨v, rfl, rfl⟩ := one_of p
    exact SkE.call_str_str pins s σ H _ us Q I rv ⟨_, rfl, h _ ρ H .refl r rfl⟩
  · rename_i x
    obtain ⟨v, rfl, pv⟩ := one_of p
    split at h
    · rename_i a he
      obtain rfl := lv_of he (fun _ z => nomatch z)
      obtain rfl : v = _ := pv
      split at h
      · rename_i hz
        exact call_len pins s σ H _ us Q I rv ⟨_, _, rfl, ⟨hz, rfl⟩, h _ ρ H .refl r rfl⟩
      · exact h.elim
    · rename_i a he
      obtain ⟨c, vs, rfl, h1, h2⟩ := lv_list r pv he
      exact call_len pins s σ H _ us Q I rv ⟨_, a.length, rfl, .inl ⟨vs, h1.sq, h2.length.symm⟩, h _ ρ H .refl r rfl⟩
    · rename_i a he
      obtain rfl := lv_of he (fun _ z => nomatch z)
      obtain ⟨c, vs, rfl, h1, h2⟩ := pv
      exact call_len pins s σ H _ us Q I rv ⟨_, a.length, rfl, .inr ⟨vs, h1.sq, h2.length.symm⟩, h _ ρ H .refl r rfl⟩
    · exact h.elim
  · rename_i x
    obtain ⟨v, rfl, pv⟩ := one_of p
    split at h
    · rename_i a he
      obtain ⟨c, vs, rfl, h1, h2⟩ := lv_list r pv he
      exact call_tuple_of pins s σ H _ us Q I rv ⟨c, vs, rfl, .inl ⟨h1.sq, fun l hl => h _ ρ _ (.new _ hl) (r.new _ hl) (rep_newT r hl h2)⟩⟩
    · rename_i a he
      obtain rfl := lv_of he (fun _ z => nomatch z)
      obtain ⟨c, vs, rfl, h1, h2⟩ := pv
      exact call_tuple_of pins s σ H _ us Q I rv ⟨c, vs, rfl, .inr ⟨h1.sq, h _ ρ H .refl r ⟨c, vs, rfl, h1, h2⟩⟩⟩
    · exact h.elim
  · rename_i x
    obtain ⟨v, rfl, pv⟩ := one_of p
    split at h
    · rename_i a he
      obtain ⟨c, vs, rfl, h1, h2⟩ := lv_list r pv he
      exact call_list_of pins s σ H _ us Q I rv ⟨c, vs, rfl, .inl h1.sq, fun l hl => h _ ρ _ (.new _ hl) (r.new _ hl) (rep_newL r hl h2)⟩
    · rename_i a he
      obtain rfl := lv_of he (fun _ z => nomatch z)
      obtain ⟨c, vs, rfl, h1, h2⟩ := pv
      exact call_list_of pins s σ H _ us Q I rv ⟨c, vs, rfl, .inr h1.sq, fun l hl => h _ ρ _ (.new _ hl) (r.new _ hl) (rep_newL r hl h2)⟩
    · exact h.elim
  · obtain ⟨v, rfl, rfl⟩ := one_of p
    obtain ⟨u, rfl, ru⟩ := vals1 rv
    cases ru
    exact PySem.P.repr_of_bool ⟨.str _, H, I.tok _, ⟨_, rfl⟩, h _ ρ H .refl r rfl⟩
  · rename_i x
    obtain ⟨v, rfl, pv⟩ := one_of p
    split at h
    · rename_i a he
      obtain ⟨c, vs, rfl, h1, h2⟩ := lv_list r pv he
      split at h
      · rename_i bs hb
        have e := bools_of hb h2
        subst e
        exact cr_all hc pins s σ H _ us Q I rv ⟨c, bs, rfl, h1.sq, h _ ρ H .refl r rfl⟩
      · exact h.elim
    · exact h.elim
  · rename_i x
    obtain ⟨v, rfl, pv⟩ := one_of p
    split at h
    · rename_i a he
      obtain ⟨c, vs, rfl, h1, h2⟩ := lv_list r pv he
      split at h
      · rename_i bs hb
        have e := bools_of hb h2
        subst e
        exact cr_any hc pins s σ H _ us Q I rv ⟨c, bs, rfl, h1.sq, h _ ρ H .refl r rfl⟩
      · exact h.elim
    · exact h.elim
  · rename_i x
    obtain ⟨v, rfl, pv⟩ := one_of p
    split at h
    · rename_i a he
      obtain ⟨c, vs, rfl, h1, h2⟩ := lv_list r pv he
      split at h
      · rename_i n t hb
        have e := ints_of hb h2
        subst e
        refine cr_max hc pins s σ H _ us Q I rv ⟨c, n :: t, rfl, h1.sq, Nat.succ_pos _, fun m m1 m2 => ?_⟩
        rw [max_one m1 m2]
        exact h _ ρ H .refl r rfl
      · exact h.elim
    · exact h.elim
  · rename_i x
    obtain ⟨v, rfl, pv⟩ := one_of p
    split at h
    · rename_i a he
      obtain ⟨c, vs, rfl, h1, h2⟩ := lv_list r pv he
      split at h
      · rename_i n t hb
        have e := ints_of hb h2
        subst e
        refine cr_min hc pins s σ H _ us Q I rv ⟨c, n :: t, rfl, h1.sq, Nat.succ_pos _, fun m m1 m2 => ?_⟩
        rw [min_one m1 m2]
        exact h _ ρ H .refl r rfl
      · exact h.elim
    · exact h.elim
  · exact h.elim
/-! ### methods of lists -/
theorem locOf_rep {d : D} {v : V} {n : Nat} (e : locOf d = some n) (h : Rep X.K ρ H d v) : d = Cr.loc n := by
  cases d with
  | dict kvs =>
    obtain ⟨m, em⟩ := loc_of h
    rw [em] at e ⊢
    rw [locOf_loc] at e
    cases e
    rfl
  | _ => cases e
theorem append_ok : MtR X "list.append" (rM (kx X ca) (mthD .append)) := by
  intro pins s σ H x xs v us Q I rx rv h
  obtain ⟨ρ, S, d, ds, r, p1, p2, h⟩ := h
  unfold mthD at h
  split at h
  · rename_i y _
    obtain ⟨w, rfl, pw⟩ := one_of p2
    split at h
    · rename_i n hn
      obtain rfl := locOf_rep hn p1
      split at h
      · rename_i a hs
        obtain ⟨b, rfl, hb, vs, h1, h2⟩ := r.loc p1 hs
        split at h
        · rename_i hz
          exact mt_append pins s σ H _ _ v us Q I rx rv ⟨b, vs, w, rfl, rfl, h1, by rw [h2.length]; exact hz, h _ ρ _ (.write _ (List.mem_of_getElem? hb)) (r.writeL hb (h2.append (.one pw))) rfl⟩
        · exact h.elim
      · exact h.elim
    · exact h.elim
  · rename_i z; cases z
  · rename_i z; cases z
  · exact h.elim
theorem pop_ok {m : Mt} (hm : m = .pop0 ∨ m = .popAt) : MtR X "list.pop" (rM (kx X ca) (mthD m)) := by
  intro pins s σ H x xs v us Q I rx rv h
  obtain ⟨ρ, S, d, ds, r, p1, p2, h⟩ := h
  unfold mthD at h
  split at h
  · rcases hm with z | z <;> cases z
  · have e : xs = [] := p2
    subst e
    split at h
    · rename_i n hn
      obtain rfl := locOf_rep hn p1
      split at h
      · rename_i a hs
        obtain ⟨b, rfl, hb, vs, h1, h2⟩ := r.loc p1 hs
        split at h
        · rename_i y hy
          obtain ⟨w, w1, w2⟩ := h2.get hy
          refine mt_pop pins s σ H _ _ v us Q I rx rv ⟨b, vs, w, rfl, rfl, h1, by rw [h2.length]; exact w1, ?_⟩
          exact h _ ρ _ (.write _ (List.mem_of_getElem? hb)) (r.writeL hb h2.dropLast) (Rep.ext (.write _ (List.mem_of_getElem? hb)) _ _ w2)
        · exact h.elim
      · exact h.elim
    · exact h.elim
  · rename_i i
    obtain ⟨w, rfl, rfl⟩ := one_of p2
    split at h
    · rename_i n hn
      obtain rfl := locOf_rep hn p1
      split at h
      · rename_i a hs
        obtain ⟨b, rfl, hb, vs, h1, h2⟩ := r.loc p1 hs
        split at h
        · rename_i hz
          split at h
          · rename_i j hj
            split at h
            · rename_i y hy
              obtain ⟨w, w1, w2⟩ := h2.get hy
              refine mt_popAt pins s σ H _ _ v us Q I rx rv ⟨b, vs, i, j, w, rfl, rfl, h1, hz.1, hz.2, by rw [h2.length]; exact hj, w1, ?_⟩
              exact h _ ρ _ (.write _ (List.mem_of_getElem? hb)) (r.writeL hb (h2.eraseIdx j)) (Rep.ext (.write _ (List.mem_of_getElem? hb)) _ _ w2)
            · exact h.elim
          · exact h.elim
        · exact h.elim
      · exact h.elim
    · exact h.elim
  · exact h.elim
/-! ### op= -/
theorem aug_ok (op : Operator) : OpR X (inplaceOp op) (rB (kx X ca) (augD op)) := by
  intro pins s σ H x y v u Q I rx ry h
  obtain ⟨ρ, S, d, e, r, p1, p2, h⟩ := h
  unfold augD at h
  split at h
  · obtain rfl : x = _ := p1
    obtain rfl : y = _ := p2
    exact iop_add pins s σ H _ _ v u Q I rx ry ⟨_, _, rfl, rfl, h _ ρ H .refl r rfl⟩
  · obtain rfl : x = _ := p1
    obtain rfl : y = _ := p2
    exact iop_sub pins s σ H _ _ v u Q I rx ry ⟨_, _, rfl, rfl, h _ ρ H .refl r rfl⟩
  · obtain rfl : x = _ := p1
    obtain rfl : y = _ := p2
    split at h
    · rename_i hz
      exact iop_add_str pins s σ H _ _ v u Q I rx ry ⟨_, _, rfl, rfl, hz, h _ ρ H .refl r rfl⟩
    · exact h.elim
  · exact h.elim
end
end Cr
set_option Elab.async false
set_option linter.all false
set_option maxHeartbeats 1000000
/-! Cr8: calls of defs. -/
namespace Cr
open PySem L2 PyProof.Rows
/-- room for n calls, and no guard of a repr under way -/
structure RoomG (n : Nat) (A : Around) : Prop where
  room : Room n A
  gd : A.guards = some []
theorem RoomG.mono {j n : Nat} {A : Around} (r : RoomG n A) (h : j ≤ n) : RoomG j A := ⟨r.room.mono h, r.gd⟩
theorem guards_deeper (A : Around) (env : Env) : (A.deeper env).guards = A.guards := rfl
theorem RoomG.deeper {n : Nat} {A : Around} (r : RoomG (n + 1) A) (env : Env) : RoomG n (A.deeper env) := ⟨r.room.deeper env, r.gd⟩
/-- a def keeps its promise -/
structure FnG (P : Program) (w : World) (K : PySem.W.Frag) (mg : Str → Option Value) (base : Heap) (n : Nat) (f : Addr) (fd : FuncData) (ps : List Str) (sp : Sp) : Prop where
  len : ∀ vs H Q E, sp vs H Q E → vs.length = ps.length
  run : ∀ (A : Around) (outer : List Env) (s : Shared) (H : Hp) (args : Args) (us : List Value) (vs : List V) (Q : VK) (E : XK), RoomG n A → Env0 P w K mg base A outer s H → BindsTo s fd args (ps.zip us) → Vals vs us → sp vs H Q E →
    codeAny (model P w) A (.call (.ref f) args) (CR (CX P w) outer P w H s Q E) s
/-- what the evaluator's run of a def promises -/
def postF (k : Kx) (ρ : Lo) (H : Hp) (o : Out D) (Q : VK) (E : XK) : Prop :=
  match o with
  | .ok d S => ∀ v ρ' H', Ext ρ H ρ' H' → Rel k.K k.ca ρ' S H' → Rep k.K ρ' H' d v → Q v H'
  | .ex c fs S => ∀ ρ' H' cls d, Ext ρ H ρ' H' → Rel k.K k.ca ρ' S H' → Exn k ρ' H' c fs cls d → E cls d H'
  | .bad => False
def spF (k : Kx) (np : Nat) (g : List D → Sto → Out D) : Sp := fun vs H Q E => ∃ ρ S ds, ds.length = np ∧ Rel k.K k.ca ρ S H ∧ Reps k.K ρ H ds vs ∧ postF k ρ H (g ds S) Q E
/-- a global def, as its callers see it -/
structure GF (P : Program) (w : World) (K : PySem.W.Frag) (mg : Str → Option Value) (base : Heap) (ca : Nat → Addr) (n : Nat) (x : Str) (np : Nat) (g : List D → Sto → Out D) : Prop where
  ex : ∃ (a : Addr) (fd : FuncData) (ps : List Str), ps.length = np ∧ mg x = some (.ref a) ∧ PySem.W.keepIn K (.ref a) = true ∧ Binds K fd ps [] ∧ FnG P w K mg base n a fd ps (spF ⟨K, ca⟩ np g)
section
variable {X : Cx} {ca : Nat → Addr} {W : WX}
theorem call_run {n : Nat} {a : Addr} {fd : FuncData} {ps : List Str} {sp : Sp} {E : XK} {pins : List (Addr × Obj)} {σ : L2.St} {H : Hp} {s : Shared} {Q : VK} {us : List Value} {vs : List V} (F : FnG X.prog X.w X.K X.mg X.base n a fd ps sp) (hr : RoomG n X.A) (hb : Binds X.K fd ps [])
    (tk : Takes X W) (hW : ∀ cls d H', E cls d H' → W cls d σ H') (I : Inv X pins σ H s) (r : Vals vs us) (h : sp vs H Q E) : wpAny (model X.prog X.w) X.A (call (.ref a) us) (EP X pins σ Q) X.xe s := by
  have hl : us.length = ps.length := by rw [← r.length]; exact F.len _ _ _ _ h
  have e0 : us ++ [] = us := List.append_nil us
  have b := hb s us I.kIn (by rw [e0]; exact hl)
  rw [e0] at b
  refine wpAny_call (codeAny_mono (F.run X.A X.stack s H ⟨us, []⟩ us vs Q E hr I.env0 b r h) fun z s' hz => ?_)
  match z, hz with
  | .error e, hz => exact tk e s' (XE.of_call I hW hz)
  | .ok (.ret u), hz => exact I.after hz
theorem pe_callF {n np : Nat} {x : Str} {g : List D → Sto → Out D} {e : Expr} {es : List Expr} {m : Fr → Sto → Out (List D)} {p pos : Pos} (G : GF X.prog X.w X.K X.mg X.base ca n x np g) (hr : RoomG n X.A) (tk : Takes X W) (hg : Gl X x) (hdb : (x == ("__debug__" : Str)) = false)
    (ha : PA X (e :: es) (tA (kx X ca) W m)) (hm : ∀ s S ds S', m s S = .ok ds S' → ds.length = np) (he : starEach (e :: es) X.env = (false, eval e X.env) :: starEach es X.env) (hpl : (backTo pos (starEach es X.env)).any (·.1) = false) :
    PE X (.Call (.Name x p) (e :: es) [] pos) (tE (kx X ca) W fun s S => (m s S).bind fun ys S1 => g ys S1) := by
  obtain ⟨a, fd, ps, hps, hmg, hk, hb, F⟩ := G.ex
  refine ⟨fun pins s σ H Q I h => ?_⟩
  obtain ⟨ρ, S, f, at_, h⟩ := h
  dsimp only at h
  refine wpAny_Call_Name_kw (ld_glob I hg hmg ?_ hdb)
  have hA := ha.run pos pins s σ H (fun vs H1 => ∃ ds ρ1 S1, At (kx X ca) ρ1 S1 f σ H1 ∧ Reps X.K ρ1 H1 ds vs ∧ m f S = .ok ds S1 ∧ postE (kx X ca) W σ ρ1 H1 (g ds S1) Q) I ⟨ρ, S, f, at_, ?_⟩
  · refine PySem.W.callWith_K (h₀ := X.base) I.ok.mod.kin hk (thn hA fun us s1 ⟨vs, H1, I1, r, ds, ρ1, S1, a1, rp, em, q⟩ => ⟨I1.kIn, ?_⟩) he hpl
    refine call_run (E := fun cls d H' => W cls d σ H') F hr hb tk (fun _ _ _ z => z) I1 r ⟨ρ1, S1, ds, hm _ _ _ _ em, a1.rel, rp, ?_⟩
    unfold postF
    cases eg : g ds S1 with
    | ok d S2 => rw [eg] at q; exact q
    | ex c fs S2 => rw [eg] at q; exact q
    | bad => rw [eg] at q; exact q
  · cases em : m f S with
    | ok ds S1 =>
      rw [em] at h
      exact fun vs ρ1 H1 e1 r1 p1 => ⟨ds, ρ1, S1, at_.ext e1 r1, p1, rfl, post.mono h e1 fun _ _ z => z⟩
    | ex c fs S1 => rw [em] at h; exact h
    | bad => rw [em] at h; exact h
theorem pe_callF0 {n : Nat} {x : Str} {g : List D → Sto → Out D} {p pos : Pos} (G : GF X.prog X.w X.K X.mg X.base ca n x 0 g) (hr : RoomG n X.A) (tk : Takes X W) (hg : Gl X x) (hdb : (x == ("__debug__" : Str)) = false) :
    PE X (.Call (.Name x p) [] [] pos) (tE (kx X ca) W fun s S => g [] S) := by
  obtain ⟨a, fd, ps, hps, hmg, hk, hb, F⟩ := G.ex
  refine ⟨fun pins s σ H Q I h => ?_⟩
  obtain ⟨ρ, S, f, at_, h⟩ := h
  dsimp only at h
  refine wpAny_Call_Name_kw (ld_glob I hg hmg ?_ hdb)
  refine PySem.W.callWith_K0 I.kIn hk (call_run (us := []) (E := fun cls d H' => W cls d σ H') F hr hb tk (fun _ _ _ z => z) I .nil ⟨ρ, S, [], rfl, at_.rel, rfl, ?_⟩)
  unfold postF
  cases eg : g [] S with
  | ok d S2 => rw [eg] at h; exact h
  | ex c fs S2 => rw [eg] at h; exact h
  | bad => rw [eg] at h; exact h
end
/-- the rule of a def by its body -/
theorem fnG_of {P : Program} {w : World} {K : PySem.W.Frag} {mg : Str → Option Value} {base : Heap} {n : Nat} {f : Addr} {name qual : Str} {params : Arguments} {body : List Stmt} {scope : Scope} {dV kV doc pm cdv ct oc : Value} {an od : Option Addr}
    {osl : Array (Option Value)} {N ps : List Str} {sp : Sp} (lk : K.lookup f = some ⟨oc, od, .func (PySem.W.fnOf name qual params body scope dV kV doc pm an cdv ct), osl⟩) (hcd : PySem.W.codeIn K cdv qual = true) (S : FnScope N ps scope)
    (len : ∀ vs H Q E, sp vs H Q E → vs.length = ps.length)
    (hbody : ∀ (A : Around) (outer : List Env) (s : Shared) (H : Hp) (vs : List V) (Q : VK) (E : XK), RoomG n (A.deeper (envOfC qual scope s.heap.objs.size f cdv)) → sp vs H Q E →
      ∃ t, PSs (cxOf (CX P w) P w K mg base N qual scope f cdv A outer s H E) body t ∧ t { nx := fun _ H' => Q .non H', rt := Q } (start N vs) H) :
    FnG P w K mg base (n + 1) f (PySem.W.fnOf name qual params body scope dV kV doc pm an cdv ct) ps sp := by
  refine ⟨len, fun A outer s H args us vs Q E hr e0 hb r hsp => ?_⟩
  have hl := len _ _ _ _ hsp
  have KX : K.In s.heap := e0.mod.kin.keeps fun b o e => (e0.bs b o e).1
  refine Att.call_fn KX (e0.mod.nolimit.keeps fun b o e => (e0.bs b o e).1) lk hcd hr.room.depth hb ?_ (fun s1 x => ?_) S.co S.gen S.kind
  · rw [List.all_eq_true]
    rintro ⟨y, v⟩ hy
    rcases S.par y (List.of_mem_zip hy).1 with q | q <;> simp [q]
  · obtain ⟨t, ht, hq⟩ := hbody A outer s H vs Q E (hr.deeper _) hsp
    have I := inv_start (CX := CX P w) (E := E) S hr.room.hd e0 hl r x
    refine wpAny_mono (ht.run [] s1 (start N vs) H _ I hq) (fun fl s' hs => ?_) fun e s' hs => hs
    match fl, hs with
    | .ret u, hs =>
      obtain ⟨v, σ', H', J, rv, q⟩ := hs
      exact ⟨v, H', J.os, J.bare, J.base, J.hok, rv, q⟩
    | .next, hs =>
      obtain ⟨σ', H', J, q⟩ := hs
      exact ⟨.non, H', J.os, J.bare, J.base, J.hok, rfl, q⟩
    | .brk, hs => obtain ⟨_, _, _, q⟩ := hs; exact q.elim
    | .cont, hs => obtain ⟨_, _, _, q⟩ := hs; exact q.elim
end Cr
set_option Elab.async false
set_option linter.all false
set_option maxHeartbeats 1000000
/-! Cr9: what a for or a comprehension walks; comprehensions. -/
namespace Cr
open PySem L2 PyProof.Rows
/-! ### moving values between heaps -/
structure Mv (ρ : Lo) (H : Hp) (ρ' : Lo) (H' : Hp) : Prop where
  rd : ∀ a u, ρ.out a → Rd H a u → ρ'.out a ∧ Rd H' a u
  ls : ∀ (n : Nat) (a : Addr), ρ.ls[n]? = some a → ρ'.ls[n]? = some a
section
variable {K : PySem.W.Frag} {ca : Nat → Addr} {ρ ρ' : Lo} {H H' : Hp} {S : Sto}
mutual
theorem Rep.mv (e : Mv ρ H ρ' H') : ∀ (d : D) (v : V), Rep K ρ H d v → Rep K ρ' H' d v
  | .none, _, h => h
  | .bool _, _, h => h
  | .int _, _, h => h
  | .str _, _, h => h
  | .tuple xs, v, h => by
    obtain ⟨a, vs, h1, h2, h3⟩ := h
    exact ⟨a, vs, h1, h2.elim (fun q => .inl (e.rd _ _ q.1 q.2)) .inr, Reps.mv e xs vs h3⟩
  | .list xs, v, h => by
    obtain ⟨a, vs, h1, h2, h3⟩ := h
    exact ⟨a, vs, h1, h2.elim (fun q => .inl (e.rd _ _ q.1 q.2)) .inr, Reps.mv e xs vs h3⟩
  | .dict kvs, v, h => by
    obtain ⟨n, a, h1, h2, h3⟩ := h
    exact ⟨n, a, h1, e.ls n a h2, h3⟩
theorem Reps.mv (e : Mv ρ H ρ' H') : ∀ (ds : List D) (vs : List V), Reps K ρ H ds vs → Reps K ρ' H' ds vs
  | [], _, h => h
  | x :: xs, vs, h => by
    obtain ⟨v, r, h1, h2, h3⟩ := h
    exact ⟨v, r, h1, Rep.mv e x v h2, Reps.mv e xs r h3⟩
end
theorem ObR.mv {a : Addr} {o : Ob} (e : Mv ρ H ρ' H') (ha : H' a = H a) (h : ObR K ca ρ H a o) : ObR K ca ρ' H' a o := by
  cases o with
  | lst ds =>
    obtain ⟨vs, h1, h2⟩ := h
    exact ⟨vs, ha.trans h1, Reps.mv e _ _ h2⟩
  | dic kvs =>
    obtain ⟨vs, h1, h2, h3, h4⟩ := h
    exact ⟨vs, ha.trans h1, h2, h3, Reps.mv e _ _ h4⟩
  | ins c fs =>
    obtain ⟨dx, vs, h1, h2, h3⟩ := h
    exact ⟨dx, vs, ha.trans h1, h2, Reps.mv e _ _ h3⟩
/-- an address blocked, freed -/
def Lo.blk (ρ : Lo) (a : Addr) : Lo := ⟨ρ.ls, a :: ρ.bl⟩
def Lo.unb (ρ : Lo) : Lo := ⟨ρ.ls, ρ.bl.tail⟩
theorem Mv.blk {a : Addr} {o : HO} (hn : H a = none) : Mv ρ H (ρ.blk a) (upd H a o) :=
  ⟨fun b u ho hr => by
    have hb : b ≠ a := fun q => (Rd.ne hr) (by rw [q]; exact hn)
    refine ⟨⟨ho.1, fun q => ?_⟩, ?_⟩
    · rcases List.mem_cons.mp q with q | q
      · exact hb q
      · exact ho.2 q
    · rcases hr with hr | ⟨z, hr⟩
      · exact .inl (by rw [upd_ne hb]; exact hr)
      · exact .inr ⟨z, by rw [upd_ne hb]; exact hr⟩, fun _ _ h => h⟩
theorem Mv.unb : Mv ρ H ρ.unb H := ⟨fun b u ho hr => ⟨⟨ho.1, fun q => ho.2 (List.mem_of_mem_tail q)⟩, hr⟩, fun _ _ h => h⟩
theorem Mv.poke {a : Addr} {o : HO} (ha : a ∈ ρ.bl) : Mv ρ H ρ (upd H a o) :=
  ⟨fun b u ho hr => by
    have hb : b ≠ a := fun q => ho.2 (by rw [q]; exact ha)
    refine ⟨ho, ?_⟩
    rcases hr with hr | ⟨z, hr⟩
    · exact .inl (by rw [upd_ne hb]; exact hr)
    · exact .inr ⟨z, by rw [upd_ne hb]; exact hr⟩, fun _ _ h => h⟩
theorem Rel.blk (r : Rel K ca ρ S H) {a : Addr} {o : HO} (hn : H a = none) : Rel K ca (ρ.blk a) S (upd H a o) :=
  ⟨r.nd, r.ln, fun i b o' h1 h2 => (r.ob i b o' h1 h2).mv (.blk hn) (upd_ne fun q => (r.notin hn).1 (q ▸ List.mem_of_getElem? h1)), fun b hb => by
    rcases List.mem_cons.mp hb with rfl | hb
    · exact ⟨(r.notin hn).1, by rw [upd_same]; exact fun z => nomatch z⟩
    · exact ⟨(r.bl b hb).1, by rw [upd_ne fun q => (r.bl b hb).2 (by rw [q]; exact hn)]; exact (r.bl b hb).2⟩⟩
theorem Rel.unb (r : Rel K ca ρ S H) : Rel K ca ρ.unb S H :=
  ⟨r.nd, r.ln, fun i b o' h1 h2 => (r.ob i b o' h1 h2).mv .unb rfl, fun b hb => r.bl b (List.mem_of_mem_tail hb)⟩
theorem Rel.poke (r : Rel K ca ρ S H) {a : Addr} {o : HO} (ha : a ∈ ρ.bl) : Rel K ca ρ S (upd H a o) :=
  ⟨r.nd, r.ln, fun i b o' h1 h2 => (r.ob i b o' h1 h2).mv (.poke ha) (upd_ne fun q => (r.bl a ha).1 (q ▸ List.mem_of_getElem? h1)), fun b hb => ⟨(r.bl b hb).1, by
    by_cases q : b = a
    · rw [q, upd_same]; exact fun z => nomatch z
    · rw [upd_ne q]; exact (r.bl b hb).2⟩⟩
theorem FRel.mv {s : Fr} {σ : L2.St} (f : FRel K ρ H s σ) (e : Mv ρ H ρ' H') : FRel K ρ' H' s σ :=
  ⟨f.len, fun i d h => let ⟨v, h1, h2⟩ := f.at_ i d h; ⟨v, h1, Rep.mv e d v h2⟩⟩
/-! ### walking -/
def Walks (K : PySem.W.Frag) (ca : Nat → Addr) (J : It) (d : D) (v : V) (xs : List D) : Prop :=
  ∀ ρ S H, Rel K ca ρ S H → Rep K ρ H d v → stays d xs S = true → ∀ i : Nat, (∀ x, xs[i]? = some x → J.go i H ∧ ∀ y H', J.yld i H y H' → H' = H ∧ Rep K ρ H x y) ∧ (xs.length ≤ i → J.stop i H)
open Classical in
theorem stays_iff {d : D} {xs : List D} {S : Sto} : stays d xs S = true ↔ (lv S d = .list xs ∨ lv S d = .tuple xs ∨ d = .none) := by
  unfold stays
  rw [decide_eq_true_eq]
theorem lv_nt {S S' : Sto} {d : D} {xs ys : List D} (h : lv S d = .list xs) : lv S' d ≠ .tuple ys := fun q => by
  have := lv_of q (fun _ z => nomatch z)
  subst this
  cases h
theorem walks_list {d : D} {a : Addr} {xs : List D} {S0 : Sto} (h0 : lv S0 d = .list xs) : Walks K ca (Itl K a) d (.ref a) xs := by
  intro ρ S H r p st i
  have e : lv S d = .list xs := by
    rcases stays_iff.mp st with q | q | q
    · exact q
    · exact absurd q (lv_nt h0)
    · subst q; cases h0
  obtain ⟨b, vs, eb, h1, h2⟩ := lv_list r p e
  cases eb
  refine ⟨fun x hx => ?_, fun hi => ⟨vs, h1.sq, by rw [h2.length]; exact hi⟩⟩
  obtain ⟨v, hv, pv⟩ := h2.get hx
  exact ⟨⟨vs, v, h1.sq, hv⟩, fun y H' hy => ⟨hy.1, by
    have := hy.2 vs h1.sq
    rw [hv] at this; cases this
    exact pv⟩⟩
theorem walks_tup {a : Addr} {xs : List D} : Walks K ca (Itt K a) (.tuple xs) (.ref a) xs := by
  intro ρ S H r p st i
  obtain ⟨b, vs, eb, h1, h2⟩ := p
  cases eb
  refine ⟨fun x hx => ?_, fun hi => ⟨vs, h1.sq, by rw [h2.length]; exact hi⟩⟩
  obtain ⟨v, hv, pv⟩ := h2.get hx
  exact ⟨⟨vs, v, h1.sq, hv⟩, fun y H' hy => ⟨hy.1, by
    have := hy.2 vs h1.sq
    rw [hv] at this; cases this
    exact pv⟩⟩
theorem walks_str {z : Str} : Walks K ca (Its z) .none .non (z.cps.toList.map fun c => .str ⟨#[c]⟩) := by
  intro ρ S H r p st i
  refine ⟨fun x hx => ?_, fun hi => ?_⟩
  · rw [List.getElem?_map] at hx
    cases e : z.cps.toList[i]? with
    | none => rw [e] at hx; cases hx
    | some c =>
      rw [e] at hx
      cases hx
      have hi := (List.getElem?_eq_some_iff.mp e).1
      rw [Array.length_toList] at hi
      refine ⟨hi, fun y H' hy => ⟨hy.1, ?_⟩⟩
      obtain ⟨_, c', hc, rfl⟩ := hy
      rw [Array.getElem?_toList, hc] at e
      cases e
      exact rfl
  · show z.cps.size ≤ i
    simpa using hi
theorem walks_rng {lo : Int} {n : Nat} : Walks K ca (Itr lo n) .none .non (rngL lo n) := by
  intro ρ S H r p st i
  refine ⟨fun x hx => ?_, fun hi => ?_⟩
  · unfold rngL at hx
    rw [List.getElem?_map] at hx
    cases e : (List.range n)[i]? with
    | none => rw [e] at hx; cases hx
    | some c =>
      rw [e] at hx
      cases hx
      have hi := (List.getElem?_eq_some_iff.mp e).1
      rw [List.length_range] at hi
      have hc : c = i := by
        rw [List.getElem?_range hi] at e
        cases e; rfl
      subst hc
      exact ⟨hi, fun y H' hy => ⟨hy.1, hy.2⟩⟩
  · show n ≤ i
    unfold rngL at hi
    simpa using hi
end
/-- what an iterator is to be -/
def postI (k : Kx) (W : WX) (σ : L2.St) (ρ : Lo) (H : Hp) (o : Out (D × List D)) (R : It → Hp → Prop) : Prop :=
  match o with
  | .ok p S => ∀ v ρ' H' J, Ext ρ H ρ' H' → Rel k.K k.ca ρ' S H' → Rep k.K ρ' H' p.1 v → stays p.1 p.2 S = true → Walks k.K k.ca J p.1 v p.2 → R J H'
  | .ex c fs S => ∀ ρ' H' cls d, Ext ρ H ρ' H' → Rel k.K k.ca ρ' S H' → Exn k ρ' H' c fs cls d → W cls d σ H'
  | .bad => False
def tI (k : Kx) (W : WX) (m : Fr → Sto → Out (D × List D)) : TI := fun σ H R => ∃ ρ S s, At k ρ S s σ H ∧ postI k W σ ρ H (m s S) R
section
variable {X : Cx} {ca : Nat → Addr} {W : WX}
theorem pi_or {tg e : Expr} {w1 w2 : TI} (h1 : PI X tg e w1) (h2 : PI X tg e w2) : PI X tg e (fun σ H R => w1 σ H R ∨ w2 σ H R) :=
  ⟨fun pins s σ H R I h => h.elim (h1.run pins s σ H R I) (h2.run pins s σ H R I)⟩
theorem pi_walked {tg e : Expr} {m : Fr → Sto → Out D} (he : PE X e (tE (kx X ca) W m)) : PI X tg e (tI (kx X ca) W fun s S => (m s S).bind fun x S1 => walked x S1) := by
  have h3 := pi_or (pi_list (tg := tg) he) (pi_or (pi_tup he) (pi_str he))
  refine ⟨fun pins s σ H R I h => h3.run pins s σ H R I ?_⟩
  obtain ⟨ρ, S, f, a, h⟩ := h
  cases em : m f S with
  | bad =>
    dsimp only at h
    rw [em] at h
    exact h.elim
  | ex c fs S1 =>
    dsimp only at h
    rw [em] at h
    refine .inl ⟨ρ, S, f, a, ?_⟩
    rw [em]
    exact h
  | ok d S1 =>
    dsimp only at h
    rw [em] at h
    rw [bind_ok] at h
    unfold walked at h
    split at h
    · rename_i xs hl
      refine .inl ⟨ρ, S, f, a, ?_⟩
      rw [em]
      intro v ρ1 H1 e1 r1 p1
      obtain ⟨b, vs, rfl, h1, h2⟩ := lv_list r1 p1 hl
      exact ⟨b, rfl, ⟨vs, h1.sq⟩, h _ ρ1 H1 _ e1 r1 p1 (stays_iff.mpr (.inl hl)) (walks_list hl)⟩
    · rename_i xs hl
      obtain rfl := lv_of hl (fun _ z => nomatch z)
      refine .inr (.inl ⟨ρ, S, f, a, ?_⟩)
      rw [em]
      intro v ρ1 H1 e1 r1 p1
      obtain ⟨b, vs, rfl, h1, h2⟩ := id p1
      exact ⟨b, rfl, ⟨vs, h1.sq⟩, h _ ρ1 H1 _ e1 r1 p1 (stays_iff.mpr (.inr (.inl hl))) walks_tup⟩
    · rename_i z hl
      obtain rfl := lv_of hl (fun _ z => nomatch z)
      refine .inr (.inr ⟨ρ, S, f, a, ?_⟩)
      rw [em]
      intro v ρ1 H1 e1 r1 p1
      exact ⟨z, p1, h .non ρ1 H1 _ e1 r1 rfl (stays_iff.mpr (.inr (.inr rfl))) walks_str⟩
    · exact h.elim
theorem pi_rng1 {tg a : Expr} {p pos : Pos} {m : Fr → Sto → Out (List D)} (hg : Gl X "range") (hm : X.mg "range" = none) (ha : PA X [a] (tA (kx X ca) W m)) (hs : starEach [a] X.env = [(false, eval a X.env)]) (hl : ∀ s S ds S', m s S = .ok ds S' → ds.length = 1) :
    PI X tg (.Call (.Name "range" p) [a] [] pos) (tI (kx X ca) W fun s S => (m s S).bind fun x S1 => rangeD x S1) := by
  have h1 := pi_range1 (tg := tg) (p := p) (pos := pos) hg hm ha hs
  refine ⟨fun pins s σ H R I h => h1.run pins s σ H R I ?_⟩
  obtain ⟨ρ, S, f, at_, h⟩ := h
  dsimp only at h
  refine ⟨ρ, S, f, at_, ?_⟩
  cases em : m f S with
  | bad => rw [em] at h; exact h.elim
  | ex c fs S1 => rw [em] at h; exact h
  | ok ds S1 =>
    rw [em, bind_ok] at h
    intro vs ρ1 H1 e1 r1 p1
    unfold rangeD at h
    split at h
    · rename_i j
      obtain ⟨v, rfl, rfl⟩ := one_of p1
      split at h
      · rename_i hj
        exact ⟨j, rfl, hj.1, hj.2, h .non ρ1 H1 _ e1 r1 rfl (stays_iff.mpr (.inr (.inr rfl))) walks_rng⟩
      · exact h.elim
    · have := hl _ _ _ _ em
      simp at this
    · exact h.elim
theorem pi_rng2 {tg a b : Expr} {p pos : Pos} {m : Fr → Sto → Out (List D)} (hg : Gl X "range") (hm : X.mg "range" = none) (ha : PA X [a, b] (tA (kx X ca) W m)) (hs : starEach [a, b] X.env = [(false, eval a X.env), (false, eval b X.env)]) (hs2 : starEach [b] X.env = [(false, eval b X.env)])
    (hl : ∀ s S ds S', m s S = .ok ds S' → ds.length = 2) : PI X tg (.Call (.Name "range" p) [a, b] [] pos) (tI (kx X ca) W fun s S => (m s S).bind fun x S1 => rangeD x S1) := by
  have h1 := pi_range2 (tg := tg) (p := p) (pos := pos) hg hm ha hs hs2
  refine ⟨fun pins s σ H R I h => h1.run pins s σ H R I ?_⟩
  obtain ⟨ρ, S, f, at_, h⟩ := h
  dsimp only at h
  refine ⟨ρ, S, f, at_, ?_⟩
  cases em : m f S with
  | bad => rw [em] at h; exact h.elim
  | ex c fs S1 => rw [em] at h; exact h
  | ok ds S1 =>
    rw [em, bind_ok] at h
    intro vs ρ1 H1 e1 r1 p1
    unfold rangeD at h
    split at h
    · have := hl _ _ _ _ em
      simp at this
    · rename_i i j
      obtain ⟨v, w, rfl, rfl, q⟩ := p1
      obtain ⟨v2, rfl, rfl⟩ := one_of q
      split at h
      · rename_i hj
        exact ⟨i, j, rfl, ⟨hj.1.1, hj.1.2, hj.2.1, hj.2.2⟩, h .non ρ1 H1 _ e1 r1 rfl (stays_iff.mpr (.inr (.inr rfl))) walks_rng⟩
      · exact h.elim
    · exact h.elim
end
end Cr
set_option Elab.async false
set_option linter.all false
set_option maxHeartbeats 1000000
/-! Cr10: comprehensions. -/
namespace Cr
open PySem L2 PyProof.Rows
/-- a comprehension's turn -/
def turnE (mT : Fr → Sto → Out Bool) (mE : Fr → Sto → Out D) (σ : Fr) (tg : Nat) (x : D) (S2 : Sto) : Out (Option D) :=
  ((mT ((σ.set tg none).set tg (some x)) S2).bind fun t S3 => if t = true then (mE ((σ.set tg none).set tg (some x)) S3).bind fun y S4 => .ok (some y) S4 else .ok none S3).nox
theorem turnE_nx {mT : Fr → Sto → Out Bool} {mE : Fr → Sto → Out D} {σ : Fr} {tg : Nat} {x : D} {S : Sto} : NoEx (turnE mT mE σ tg x S) := by
  intro c fs S' h
  unfold turnE Out.nox at h
  split at h <;> cases h
theorem turnE_ok {mT : Fr → Sto → Out Bool} {mE : Fr → Sto → Out D} {σ : Fr} {tg : Nat} {x : D} {S S1 : Sto} {r : Option D} (h : turnE mT mE σ tg x S = .ok r S1) :
    ∃ t S3, mT ((σ.set tg none).set tg (some x)) S = .ok t S3 ∧ ((t = true ∧ ∃ y, mE ((σ.set tg none).set tg (some x)) S3 = .ok y S1 ∧ r = some y) ∨ (t = false ∧ S1 = S3 ∧ r = none)) := by
  unfold turnE at h
  cases em : mT ((σ.set tg none).set tg (some x)) S with
  | bad => rw [em] at h; cases h
  | ex c fs S3 => rw [em] at h; cases h
  | ok t S3 =>
    rw [em, bind_ok] at h
    refine ⟨t, S3, rfl, ?_⟩
    cases t with
    | true =>
      rw [if_pos rfl] at h
      cases ee : mE ((σ.set tg none).set tg (some x)) S3 with
      | bad => rw [ee] at h; cases h
      | ex c fs S4 => rw [ee] at h; cases h
      | ok y S4 =>
        rw [ee] at h
        cases h
        exact .inl ⟨rfl, y, rfl, rfl⟩
    | false =>
      rw [if_neg (by decide)] at h
      cases h
      exact .inr ⟨rfl, rfl, rfl⟩
theorem lcL_nx {d : D} {all : List D} {step : D → Sto → Out (Option D)} (hs : ∀ x S, NoEx (step x S)) : ∀ (xs : List D) (S : Sto), NoEx (lcL d all step xs S)
  | [], S, c, fs, S', h => by cases h
  | x :: xs, S, c, fs, S', h => by
    unfold lcL at h
    cases e : step x S with
    | bad => rw [e] at h; cases h
    | ex c' fs' S1 => exact hs x S _ _ _ e
    | ok r S1 =>
      rw [e, bind_ok] at h
      split at h
      · cases e2 : lcL d all step xs S1 with
        | bad => rw [e2] at h; cases h
        | ex c' fs' S2 => exact lcL_nx hs xs S1 _ _ _ e2
        | ok rs S2 => rw [e2] at h; cases h
      · cases h
section
variable {k : Kx} {W : WX} {σ : L2.St} {ρ : Lo} {H : Hp} {Q : VK}
/-- a turn of the loop is through -/
theorem lcL_step {d : D} {all : List D} {step : D → Sto → Out (Option D)} (hs : ∀ x S, NoEx (step x S)) {x : D} {xs : List D} {S : Sto} {f : List D → Sto → Out D} (h : postE k W σ ρ H ((lcL d all step (x :: xs) S).bind f) Q) :
    ∃ r S1, step x S = .ok r S1 ∧ stays d all S1 = true ∧ postE k W σ ρ H ((lcL d all step xs S1).bind fun rs S5 => f (r.toList ++ rs) S5) Q := by
  rw [lcL] at h
  cases e : step x S with
  | bad => rw [e] at h; exact h.elim
  | ex c fs S1 => exact absurd e (hs x S c fs S1)
  | ok r S1 =>
    rw [e, bind_ok] at h
    split at h
    · rename_i st
      refine ⟨r, S1, rfl, st, ?_⟩
      cases e2 : lcL d all step xs S1 with
      | bad => rw [e2] at h; exact h
      | ex c fs S2 => rw [e2] at h; exact h
      | ok rs S2 => rw [e2] at h; exact h
    · exact h.elim
theorem lcL_len {d : D} {all : List D} {step : D → Sto → Out (Option D)} (hs : ∀ x S, NoEx (step x S)) {xs : List D} {S : Sto} {al : Bool} {ys : List D} (h : postE k W σ ρ H ((lcL d all step xs S).bind fun rs S5 => mkL al (ys ++ rs) S5) Q) : ys.length ≤ sizeLine := by
  cases e : lcL d all step xs S with
  | bad => rw [e] at h; exact h.elim
  | ex c fs S1 => exact absurd e (lcL_nx hs xs S c fs S1)
  | ok rs S1 =>
    rw [e, bind_ok] at h
    unfold mkL at h
    split at h
    · rename_i hz
      rw [List.length_append] at hz
      omega
    · exact h.elim
end
theorem wipe_one (σ : L2.St) (tg : Nat) : wipe σ [tg] = σ.set tg none := rfl
theorem FRel.wipe1 {K : PySem.W.Frag} {ρ : Lo} {H : Hp} {s : Fr} {σ : L2.St} (f : FRel K ρ H s σ) (tg : Nat) : FRel K ρ H (s.set tg none) (σ.set tg none) := by
  refine ⟨by simp [f.len], fun i d h => ?_⟩
  by_cases e : tg = i
  · subst e
    by_cases hi : tg < s.length
    · rw [List.getElem?_set_self hi] at h; cases h
    · rw [List.getElem?_eq_none (by simpa using hi)] at h; cases h
  · rw [List.getElem?_set_ne e] at h ⊢
    exact f.at_ i d h
theorem FRel.put {K : PySem.W.Frag} {ρ : Lo} {H : Hp} {s : Fr} {σ : L2.St} (f : FRel K ρ H s σ) (i : Nat) {d : D} {v : V} (p : Rep K ρ H d v) : FRel K ρ H (s.set i (some d)) (σ.set i (some v)) := by
  refine ⟨by simp [f.len], fun j e h => ?_⟩
  by_cases q : i = j
  · subst q
    by_cases hi : i < s.length
    · rw [List.getElem?_set_self hi] at h
      cases h
      exact ⟨v, by rw [List.getElem?_set_self (by rw [← f.len]; exact hi)], p⟩
    · rw [List.getElem?_eq_none (by simpa using hi)] at h; cases h
  · rw [List.getElem?_set_ne q] at h ⊢
    exact f.at_ j e h
section
variable {X : Cx} {ca : Nat → Addr} {W : WX}
abbrev noW : WX := fun _ _ _ _ => False
theorem lc_imp {tg : Nat} {mI : Fr → Sto → Out (D × List D)} {mT : Fr → Sto → Out Bool} {mE : Fr → Sto → Out D} {al : Bool} {σ : L2.St} {H : Hp} {Q : VK}
    (h : tE (kx X ca) W (fun σ S => (mI σ S).bind fun p S1 => (lcL p.1 p.2 (turnE mT mE σ tg) p.2 S1).bind fun ys S5 => mkL al ys S5) σ H Q) :
    tLc (tI (kx X ca) W mI) (gName tg) (fun σ H Q => ∃ ρ S s, At (kx X ca) ρ S s σ H ∧ postB (kx X ca) noW σ ρ H (mT s S) Q) (tE (kx X ca) noW mE) [tg] σ H Q := by
  obtain ⟨ρ, S, f, a, h⟩ := h
  dsimp only at h
  refine ⟨ρ, S, f, a, ?_⟩
  cases em : mI f S with
  | bad => rw [em] at h; exact h.elim
  | ex c fs S1 => rw [em] at h; exact h
  | ok p S1 =>
    rw [em, bind_ok] at h
    obtain ⟨d, xs⟩ := p
    dsimp only at h
    intro v ρ1 H1 J e1 r1 p1 st1 wk D hD
    have nx : ∀ x S, NoEx (turnE mT mE f tg x S) := fun _ _ => turnE_nx
    have f1 := a.fr.ext e1
    refine ⟨fun i m H2 => m = xs.length - i ∧ i ≤ xs.length ∧ ∃ ρ2 S2 ys vs, Rel X.K ca ρ2 S2 H2 ∧ ρ2.bl = D :: ρ1.bl ∧ FRel X.K ρ2 H2 f σ ∧ Rep X.K ρ2 H2 d v ∧ H2 D = some (.lst vs) ∧ Reps X.K ρ2 H2 ys vs ∧ Ext ρ1 H1 ρ2.unb H2 ∧ stays d xs S2 = true ∧
      postE (kx X ca) W σ ρ1 H1 ((lcL d xs (turnE mT mE f tg) (xs.drop i) S2).bind fun rs S5 => mkL al (ys ++ rs) S5) Q, ⟨xs.length, rfl, Nat.zero_le _, ?_⟩, ?_⟩
    · refine ⟨ρ1.blk D, S1, [], [], r1.blk hD, rfl, f1.mv (.blk hD), Rep.mv (.blk hD) _ _ p1, upd_same, rfl, ?_, st1, ?_⟩
      · exact ⟨⟨[], by simp [Lo.unb, Lo.blk], fun _ h => nomatch h⟩, (Ext.new (ρ := ρ1) _ hD).old, (Ext.new (ρ := ρ1) _ hD).som⟩
      · refine post.mono h e1 fun _ _ z => z
    · rintro i m H2 ⟨rfl, hi2, ρ2, S2, ys, vs, r2, hbl, f2, p2, hH, rs2, e2, st2, h2⟩
      have hDm : D ∈ ρ2.bl := by rw [hbl]; exact List.mem_cons_self
      have wi := wk ρ2 S2 H2 r2 p2 st2 i
      by_cases hlt : i < xs.length
      · have hx : xs[i]? = some xs[i] := List.getElem?_eq_getElem hlt
        obtain ⟨go, yl⟩ := wi.1 _ hx
        rw [List.drop_eq_getElem_cons hlt] at h2
        obtain ⟨r, S3, t1, st3, h3⟩ := lcL_step nx h2
        obtain ⟨t, S4, tt, tr⟩ := turnE_ok t1
        -- the next turn
        refine .inr ⟨go, fun H' => ∃ ρ3 ys vs, Rel X.K ca ρ3 S3 H' ∧ ρ3.bl = D :: ρ1.bl ∧ FRel X.K ρ3 H' f σ ∧ Rep X.K ρ3 H' d v ∧ H' D = some (.lst vs) ∧ Reps X.K ρ3 H' ys vs ∧ Ext ρ1 H1 ρ3.unb H' ∧
          postE (kx X ca) W σ ρ1 H1 ((lcL d xs (turnE mT mE f tg) (xs.drop (i + 1)) S3).bind fun rs S5 => mkL al (ys ++ rs) S5) Q, fun H' hn => ?_, fun y H' hy => ?_⟩
        · obtain ⟨ρ3, ys3, vs3, q1, q2, q3, q4, q5, q6, q7, q8⟩ := hn
          exact ⟨xs.length - (i + 1), by omega, rfl, hlt, ρ3, S3, ys3, vs3, q1, q2, q3, q4, q5, q6, q7, st3, q8⟩
        · obtain ⟨rfl, py⟩ := yl y H' hy
          show gName tg y (wipe σ [tg]) H' _
          rw [wipe_one]
          have f3 : FRel X.K ρ2 H' ((f.set tg none).set tg (some xs[i])) ((σ.set tg none).set tg (some y)) := (f2.wipe1 tg).put tg py
          refine ⟨by simp [wipe_one], ρ2, S2, _, ⟨r2, f3⟩, ?_⟩
          rw [tt]
          intro b ρ3 H3 e3 r3 hb
          subst hb
          have blk3 : ρ3.bl = ρ2.bl := by
            obtain ⟨τ, hτ, _⟩ := e3.pre
            rw [hτ]
          have hD3 : H3 D = some (.lst vs) := e3.old D _ (r2.bl D hDm).1 hH
          -- from the turn's start on
          have ext : ∀ {ρ4 : Lo} {H4 : Hp}, Ext ρ2 H' ρ4 H4 → Ext ρ1 H1 ρ4.unb H4 := fun {ρ4 H4} e4 => by
            obtain ⟨τ, hτ, g1⟩ := e2.pre
            obtain ⟨τ', hτ', g2⟩ := e4.pre
            have hτ : ρ2.ls = ρ1.ls ++ τ := congrArg Lo.ls hτ
            refine ⟨⟨τ ++ τ', ?_, fun b hb => ?_⟩, fun b o hb e => ?_, fun b hb => e4.som b (e2.som b hb)⟩
            · rw [hτ']
              show (⟨ρ2.ls ++ τ', ρ2.bl.tail⟩ : Lo) = _
              rw [hτ, hbl]
              simp
            · rcases List.mem_append.mp hb with q | q
              · exact g1 b q
              · cases z : H1 b with
                | none => rfl
                | some o => exact absurd (g2 b q) (e2.som b (by rw [z]; exact fun z => nomatch z))
            · refine e4.old b o (fun q => ?_) (e2.old b o hb e)
              rw [hτ] at q
              rcases List.mem_append.mp q with q | q
              · exact hb q
              · rw [g1 b q] at e; cases e
          cases t with
          | true =>
            rw [if_pos rfl]
            rcases tr with ⟨_, z, ez, rfl⟩ | ⟨q, _⟩
            · refine ⟨ρ3, S4, _, ⟨r3, f3.ext e3⟩, ?_⟩
              rw [ez]
              intro w ρ4 H4 e4 r4 pw
              have e34 := e3.trans e4
              have blk4 : ρ4.bl = D :: ρ1.bl := by
                obtain ⟨τ, hτ, _⟩ := e4.pre
                rw [hτ]
                exact blk3.trans hbl
              have hDm4 : D ∈ ρ4.bl := by rw [blk4]; exact List.mem_cons_self
              have hD4 : H4 D = some (.lst vs) := e34.old D _ (r2.bl D hDm).1 hH
              have rs4 := Reps.ext e34 _ _ rs2
              have hlen : (ys ++ [z]).length ≤ sizeLine := by
                have h3' : postE (kx X ca) W σ ρ1 H1 ((lcL d xs (turnE mT mE f tg) (xs.drop (i + 1)) S3).bind fun rs S5 => mkL al ((ys ++ [z]) ++ rs) S5) Q := by
                  simpa using h3
                exact lcL_len nx h3'
              rw [List.length_append, List.length_singleton] at hlen
              refine ⟨vs, hD4, by rw [rs4.length]; omega, ρ4, ys ++ [z], vs ++ [w], r4.poke hDm4, blk4, (FRel.ext (k := kx X ca) f2 e34).mv (.poke hDm4), Rep.mv (.poke hDm4) _ _ (Rep.ext e34 _ _ p2), upd_same, Reps.mv (.poke hDm4) _ _ (rs4.append (.one pw)), ?_, by simpa using h3⟩
              have q := ext e34
              refine ⟨q.pre, fun b o hb e => ?_, fun b hb => ?_⟩
              · rw [upd_ne (fun z => by rw [z, hD] at e; cases e)]
                exact q.old b o hb e
              · by_cases z : b = D
                · rw [z, upd_same]; exact fun z => nomatch z
                · rw [upd_ne z]; exact q.som b hb
            · cases q
          | false =>
            rw [if_neg (by decide)]
            rcases tr with ⟨q, _⟩ | ⟨_, rfl, rfl⟩
            · cases q
            · exact ⟨ρ3, ys, vs, r3, blk3.trans hbl, FRel.ext (k := kx X ca) f2 e3, Rep.ext e3 _ _ p2, hD3, Reps.ext e3 _ _ rs2, ext e3, by simpa using h3⟩
      · have hi3 : i = xs.length := by omega
        subst hi3
        refine .inl ⟨wi.2 (Nat.le_refl _), ?_⟩
        rw [List.drop_length] at h2
        have h2 : postE (kx X ca) W σ ρ1 H1 (mkL al (ys ++ []) S2) Q := h2
        rw [List.append_nil] at h2
        unfold mkL at h2
        have ru := r2.unb
        have rsu : Reps X.K ρ2.unb H2 ys vs := Reps.mv .unb _ _ rs2
        have hub : ρ2.unb.bl = ρ1.bl := by
          show ρ2.bl.tail = _
          rw [hbl]; rfl
        have hDo : ρ2.unb.out D := ⟨(r2.bl D hDm).1, by
          rw [hub]
          exact (r1.notin hD).2⟩
        split at h2
        · cases al with
          | false =>
            rw [if_neg (by decide)] at h2
            exact h2 _ ρ2.unb H2 e2 ru ⟨D, vs, rfl, .inl ⟨hDo, .inl hH⟩, rsu⟩
          | true =>
            rw [if_pos rfl] at h2
            obtain ⟨τ, hτ, g1⟩ := e2.pre
            have hτ : ρ2.ls = ρ1.ls ++ τ := congrArg Lo.ls hτ
            have mv : Mv ρ2 H2 (ρ2.unb.add D) H2 := ⟨fun b u ho hr => ⟨⟨fun q => ?_, fun q => ho.2 (List.mem_of_mem_tail q)⟩, hr⟩, fun n b hn => ?_⟩
            · refine h2 _ (ρ2.unb.add D) H2 ⟨⟨τ ++ [D], ?_, fun b hb => ?_⟩, e2.old, e2.som⟩ ⟨?_, ?_, fun n b o g2 g3 => ?_, fun b hb => ?_⟩ (show Rep X.K (ρ2.unb.add D) H2 (Cr.loc S2.length) (.ref D) from ⟨S2.length, D, rfl, ?_, rfl⟩)
              · show (⟨ρ2.ls ++ [D], ρ2.bl.tail⟩ : Lo) = _
                rw [hτ, hbl, List.append_assoc]
                rfl
              · rcases List.mem_append.mp hb with q | q
                · exact g1 b q
                · rw [List.mem_singleton.mp q]; exact hD
              · show (ρ2.ls ++ [D]).Nodup
                rw [List.nodup_append]
                exact ⟨r2.nd, by simp, fun b hb c hc => by rw [List.mem_singleton.mp hc]; rintro rfl; exact hDo.1 hb⟩
              · show (ρ2.ls ++ [D]).length = _
                simp [r2.ln]
              · have g2 : (ρ2.ls ++ [D])[n]? = some b := g2
                by_cases hn : n < ρ2.ls.length
                · rw [List.getElem?_append_left hn] at g2
                  rw [List.getElem?_append_left (by rw [← r2.ln]; exact hn)] at g3
                  exact (r2.ob n b o g2 g3).mv mv rfl
                · have hl := r2.ln
                  rw [List.getElem?_append_right (by omega)] at g2 g3
                  have e0 : n - ρ2.ls.length = 0 := by
                    cases q : n - ρ2.ls.length with
                    | zero => rfl
                    | succ j => rw [q] at g2; simp at g2
                  rw [e0] at g2
                  rw [← r2.ln, e0] at g3
                  simp at g2 g3
                  subst g2; subst g3
                  exact ⟨vs, hH, Reps.mv mv _ _ rs2⟩
              · have hb : b ∈ ρ2.bl.tail := hb
                have hb2 := r2.bl b (List.mem_of_mem_tail hb)
                refine ⟨fun q => ?_, hb2.2⟩
                rcases List.mem_append.mp q with q | q
                · exact hb2.1 q
                · rw [List.mem_singleton.mp q] at hb
                  exact hDo.2 hb
              · show (ρ2.ls ++ [D])[S2.length]? = some D
                rw [← r2.ln]
                simp
            · rcases List.mem_append.mp q with q | q
              · exact ho.1 q
              · exact ho.2 (by rw [List.mem_singleton.mp q]; exact hDm)
            · show (ρ2.ls ++ [D])[n]? = some b
              rw [List.getElem?_append_left (List.getElem?_eq_some_iff.mp hn).1]
              exact hn
        · exact h2.elim
theorem lc_sound {elt tgx iter : Expr} {ifs : List Expr} {scope : Scope} {tg : Nat} {x : Str} {pos : Pos} {mI : Fr → Sto → Out (D × List D)} {mT : Fr → Sto → Out Bool} {mE : Fr → Sto → Out D} {al : Bool}
    (hc : X.calm = true) (hN : X.N.Nodup) (hi : PI X tgx iter (tI (kx X ca) W mI)) (ok : BlkOk X.N X.env.scope scope [(x, tg)])
    (hg : ∀ (s : Shared) (H : Hp) (C : Addr) (cl : List (Str × Addr)) (fp : List Addr), PG (X.blk s H scope (compEnvC scope cl C X.env) fp) tgx (gName tg))
    (ht : ∀ (s : Shared) (H : Hp) (C : Addr) (cl : List (Str × Addr)) (fp : List Addr), PTs (X.blk s H scope (compEnvC scope cl C X.env) fp) ifs (fun σ H Q => ∃ ρ S s, At (kx X ca) ρ S s σ H ∧ postB (kx X ca) noW σ ρ H (mT s S) Q))
    (he : ∀ (s : Shared) (H : Hp) (C : Addr) (cl : List (Str × Addr)) (fp : List Addr), PE (X.blk s H scope (compEnvC scope cl C X.env) fp) elt (tE (kx X ca) noW mE))
    (hs : ∀ v, foldedSetIterable iter X.env v = pure v) :
    PE X (.ListComp elt [⟨tgx, iter, ifs, 0⟩] scope pos) (tE (kx X ca) W fun σ S => (mI σ S).bind fun p S1 => (lcL p.1 p.2 (turnE mT mE σ tg) p.2 S1).bind fun ys S5 => mkL al ys S5) :=
  PE.imp (pe_lc hc hN hi ok hg ht he hs) fun σ H Q h => lc_imp h
theorem lc_asg {elt tgx iter : Expr} {ifs : List Expr} {scope : Scope} {tg : Nat} {x : Str} {pos py spos : Pos} {i : Nat} {y : Str} {mI : Fr → Sto → Out (D × List D)} {mT : Fr → Sto → Out Bool} {mE : Fr → Sto → Out D} {al : Bool}
    (hc : X.calm = true) (hN : X.N.Nodup) (hi : PI X tgx iter (tI (kx X ca) W mI)) (ok : BlkOk X.N X.env.scope scope [(x, tg)])
    (hg : ∀ (s : Shared) (H : Hp) (C : Addr) (cl : List (Str × Addr)) (fp : List Addr), PG (X.blk s H scope (compEnvC scope cl C X.env) fp) tgx (gName tg))
    (ht : ∀ (s : Shared) (H : Hp) (C : Addr) (cl : List (Str × Addr)) (fp : List Addr), PTs (X.blk s H scope (compEnvC scope cl C X.env) fp) ifs (fun σ H Q => ∃ ρ S s, At (kx X ca) ρ S s σ H ∧ postB (kx X ca) noW σ ρ H (mT s S) Q))
    (he : ∀ (s : Shared) (H : Hp) (C : Addr) (cl : List (Str × Addr)) (fp : List Addr), PE (X.blk s H scope (compEnvC scope cl C X.env) fp) elt (tE (kx X ca) noW mE))
    (hy : X.N[i]? = some y) (hyl : X.env.scope.names.lookup y = some .local) (hsw : swapsWith (.ListComp elt [⟨tgx, iter, ifs, 0⟩] scope pos) (some (.Name y py)) spos.line X.env = pure true) (hs : ∀ v, foldedSetIterable iter X.env v = pure v) :
    PS X (.Assign [.Name y py] (.ListComp elt [⟨tgx, iter, ifs, 0⟩] scope pos) spos) (tAsg (tE (kx X ca) W fun σ S => (mI σ S).bind fun p S1 => (lcL p.1 p.2 (turnE mT mE σ tg) p.2 S1).bind fun ys S5 => mkL al ys S5) (gName i)) :=
  PS.imp (ps_setLc hc hN hy hyl hsw hi ok hg ht he hs) fun D σ H h => lc_imp h
end
end Cr
set_option Elab.async false
set_option linter.all false
set_option maxHeartbeats 2000000
/-! Cr11: which text an expression of the core language stands for; its promise. -/
namespace Cr
open PySem L2 PyProof.Rows
structure Cxt where
  N : List Str
  sc : Scope
  fns : List (Str × Nat)
  gls : List (Str × D)
mutual
def dEq : D → D → Bool
  | .none, .none => true
  | .bool a, .bool b => a == b
  | .int a, .int b => decide (a = b)
  | .str a, .str b => decide (a = b)
  | .tuple a, .tuple b => dEqs a b
  | .list a, .list b => dEqs a b
  | _, _ => false
def dEqs : List D → List D → Bool
  | [], [] => true
  | x :: xs, y :: ys => dEq x y && dEqs xs ys
  | _, _ => false
end
mutual
theorem dEq_eq : ∀ (a b : D), dEq a b = true → a = b
  | .none, b, h => by cases b <;> first | rfl | (simp [dEq] at h; done)
  | .bool x, b, h => by cases b <;> simp_all [dEq]
  | .int x, b, h => by cases b <;> simp_all [dEq]
  | .str x, b, h => by cases b <;> simp_all [dEq]
  | .tuple x, b, h => by
    cases b with
    | tuple y => rw [dEq] at h; rw [dEqs_eq x y h]
    | _ => simp [dEq] at h
  | .list x, b, h => by
    cases b with
    | list y => rw [dEq] at h; rw [dEqs_eq x y h]
    | _ => simp [dEq] at h
  | .dict x, b, h => by simp [dEq] at h
theorem dEqs_eq : ∀ (a b : List D), dEqs a b = true → a = b
  | [], b, h => by cases b <;> first | rfl | (simp [dEqs] at h; done)
  | x :: xs, b, h => by
    cases b with
    | nil => simp [dEqs] at h
    | cons y ys =>
      rw [dEqs, Bool.and_eq_true] at h
      rw [dEq_eq x y h.1, dEqs_eq xs ys h.2]
end
def glcB (gls : List (Str × D)) (x : Str) (p : D) : Bool := match gls.lookup x with
  | some q => dEq q p
  | none => false
def visB (sc : Scope) (x : Str) : Bool := match sc.names.lookup x with
  | some .local => true
  | some .cell => true
  | some .free => true
  | _ => false
def glB (sc : Scope) (x : Str) : Bool := match sc.names.lookup x with
  | some .globalImplicit => true
  | _ => false
def conB : D → Const → Bool
  | .none, .none => true
  | .bool a, .bool b => a == b
  | .int a, .int b => decide (a = b)
  | .str a, .str b => decide (a = b)
  | _, _ => false
def biN : Bi → Str
  | .abs => "abs" | .int => "int" | .str => "str" | .len => "len" | .tuple => "tuple" | .list => "list" | .repr => "repr"
  | .max => "max" | .maxd => "max" | .min => "min" | .all => "all" | .any => "any" | .sorted => "sorted"
def mtN : Mt → Str
  | .append => "append" | .pop0 => "pop" | .popAt => "pop" | .join => "join" | .replace => "replace"
/-- what attributeBase leaves alone -/
def abB : Expr → Bool
  | .Call .. => false
  | _ => true
/-- a comprehension's own name may be stored in its block -/
def ownB (scope sc : Scope) (x : Str) : Bool := match (relS scope sc).names.lookup x with
  | some .local => true
  | some .cell => decide (scope.names.lookup x = some .cell)
  | _ => false
/-- how many arguments a method takes -/
def mthB : Mt → Nat → Bool
  | .append, 1 => true
  | .pop0, 0 => true
  | .popAt, 1 => true
  | _, _ => false
mutual
def chkE (C : Cxt) : CE → Expr → Bool
  | .var i, .Name x _ => decide (C.N[i]? = some x) && visB C.sc x && !(x == ("__debug__" : Str)) && !(x == ("__classdict__" : Str))
  | .con p, .Constant c _ _ => conB p c
  | .con p, .Name x _ => glB C.sc x && !(x == ("__debug__" : Str)) && glcB C.gls x p
  | .bop op a b, .BinOp l o r _ => decide (op = o) && chkE C a l && chkE C b r
  | .cmp op a b, .Compare l [o] [r] _ => decide (op = o) && !behindInMarks o r && chkE C a l && chkE C b r
  | .chn o1 o2 a b c, .Compare l [p1, p2] [m, r] _ => decide (o1 = p1) && decide (o2 = p2) && !lastMarks [p1, p2] [m, r] && chkE C a l && chkE C b m && chkE C c r
  | .and a b, .BoolOp .And (x :: y :: rest) pos => chkE C a x && (match rest with
    | [] => chkE C b y
    | z :: t => chkE C b (.BoolOp .And (y :: z :: t) pos))
  | .or a b, .BoolOp .Or (x :: y :: rest) pos => chkE C a x && (match rest with
    | [] => chkE C b y
    | z :: t => chkE C b (.BoolOp .Or (y :: z :: t) pos))
  | .not a, .UnaryOp .Not x _ => chkE C a x
  | .neg a, .UnaryOp .USub x _ => chkE C a x
  | .ite c a b, .IfExp t x y _ => chkE C c t && chkE C a x && chkE C b y
  | .tup xs, .Tuple es _ _ => chkEs C xs es
  | .lst _ xs, .List es _ => chkEs C xs es
  | .dsp xs, .Dict ks vs _ => !ks.isEmpty && decide (ks.length ≤ 15) && decide (ks.length = vs.length) && chkP C xs ks vs
  | .lc _ tg it ifs elt, .ListComp e [⟨.Name x _, iter, fs, 0⟩] scope _ => decide (ifs.length ≤ 1) && decide (C.N[tg]? = some x) && blkC C.N C.sc scope [(x, tg)] && ownB scope C.sc x && chkE C it iter &&
      chkEs { C with sc := relS scope C.sc } ifs fs && chkE { C with sc := relS scope C.sc } elt e
  | .lr _ tg rg ifs elt, .ListComp e [⟨.Name x _, .Call (.Name nm _) args [] _, fs, 0⟩] scope _ => decide (ifs.length ≤ 1) && decide (C.N[tg]? = some x) && blkC C.N C.sc scope [(x, tg)] && ownB scope C.sc x && decide (nm = "range") && glB C.sc "range" &&
      (decide (rg.length = 1) || decide (rg.length = 2)) && chkEs C rg args && chkEs { C with sc := relS scope C.sc } ifs fs && chkE { C with sc := relS scope C.sc } elt e
  | .idx a b, .Subscript x y _ => chkE C a x && chkE C b y
  | .sli a lo hi, .Subscript x (.Slice l h none _) _ => chkE C a x && chkO C lo l && chkO C hi h
  | .call f xs, .Call (.Name x _) args [] _ => decide (C.fns[f]? = some (x, xs.length)) && decide (x ≠ Str.empty) && glB C.sc x && !(x == ("__debug__" : Str)) && chkEs C xs args
  | .blt b xs, .Call (.Name x _) args [] _ => decide (x = biN b) && glB C.sc x && !args.isEmpty && chkEs C xs args
  | .mth m o xs, .Call (.Attribute v nm apos) args [] cpos => decide (nm = mtN m) && abB v && (apos.endLine == cpos.line) && chkE C o v && mthB m xs.length && chkEs C xs args
  | .isi a t, .Call (.Name x _) [v, .Name ty _] [] _ => decide (x = "isinstance") && glB C.sc x && decide (ty = Str.ofString t) && glB C.sc ty && chkE C a v && (t == "tuple" || t == "list" || t == "str" || t == "int" || t == "bool")
  | .mxd a k, .Call (.Name x _) [e] [⟨some d, .Constant (.int j) _ _, _⟩] _ => decide (x = "max") && decide (d = "default") && decide (k = j) && glB C.sc x && chkE C a e
  | _, _ => false
def chkEs (C : Cxt) : List CE → List Expr → Bool
  | [], [] => true
  | a :: r, e :: es => chkE C a e && chkEs C r es
  | _, _ => false
def chkO (C : Cxt) : Option CE → Option Expr → Bool
  | none, none => true
  | some a, some e => chkE C a e
  | _, _ => false
def chkP (C : Cxt) : List CE → List (Option Expr) → List Expr → Bool
  | [], [], [] => true
  | a :: b :: r, some k :: ks, v :: vs => chkE C a k && chkE C b v && chkP C r ks vs
  | _, _, _ => false
end
/-- the built-in names -/
def bNames : List Str := ["abs", "int", "str", "len", "tuple", "list", "repr", "max", "min", "all", "any", "sorted", "range", "isinstance", "bool"]
/-- a body (or a block of it) in which expressions are run -/
structure FitE (C : Cxt) (ca : Nat → Addr) (n : Nat) (R : Nat → List D → Sto → Out D) (X : Cx) (W : WX) : Prop where
  N : X.N = C.N
  nd : X.N.Nodup
  sc : X.env.scope = C.sc
  calm : X.calm = true
  units : X.A.units + 100 < cLine
  tk : Takes X W
  room : RoomG n X.A
  gf : ∀ (f : Nat) (x : Str) (np : Nat), C.fns[f]? = some (x, np) → x ≠ Str.empty → GF X.prog X.w X.K X.mg X.base ca n x np (R f)
  bi : ∀ x ∈ bNames, X.mg x = none
  gd : ∀ (x : Str) (p : D), C.gls.lookup x = some p → ∃ v u, X.mg x = some u ∧ RelV v u ∧ ∀ ρ H, Rep X.K ρ H p v
theorem takes_no (X : Cx) (xe : Value → Shared → Prop) : Takes { X with xe := xe } noW := fun u s' ⟨_, _, _, _, _, _, _, _, _, _, _, _, _, _, _, _, w⟩ => w.elim
theorem FitE.blk {C : Cxt} {ca : Nat → Addr} {n : Nat} {R : Nat → List D → Sto → Out D} {X : Cx} {W : WX} (f : FitE C ca n R X W) (s : Shared) (H : Hp) (scope : Scope) (cl : List (Str × Addr)) (c : Addr) (fp : List Addr) :
    FitE { C with sc := relS scope C.sc } ca n R (X.blk s H scope (compEnvC scope cl c X.env) fp) noW where
  N := f.N
  nd := f.nd
  sc := by rw [← f.sc]; rfl
  calm := f.calm
  units := f.units
  tk := fun u s' ⟨_, _, _, _, _, _, _, _, _, _, _, _, _, _, _, _, w⟩ => w.elim
  room := f.room
  gf := f.gf
  bi := f.bi
  gd := f.gd
theorem vis_of {sc : Scope} {x : Str} (h : visB sc x = true) : Vis sc x := by
  unfold visB at h
  unfold Vis
  split at h
  · rename_i e; exact .inl e
  · rename_i e; exact .inr (.inl e)
  · rename_i e; exact .inr (.inr e)
  · cases h
theorem gl_of {X : Cx} {sc : Scope} {x : Str} (hs : X.env.scope = sc) (h : glB sc x = true) : Gl X x := by
  unfold glB at h
  unfold Gl Env.kindOf
  rw [hs]
  split at h
  · rename_i e; exact e
  · cases h
def noStar : Expr → Bool
  | .Starred .. => false
  | _ => true
theorem chk_ns {C : Cxt} : ∀ {c : CE} {e : Expr}, chkE C c e = true → noStar e = true := by
  intro c e h
  cases e with
  | Starred v p => cases c <;> simp [chkE] at h
  | _ => rfl
theorem star_cons {e : Expr} {es : List Expr} {env : Env} (h : noStar e = true) : starEach (e :: es) env = (false, eval e env) :: starEach es env := by
  cases e <;> first
    | (cases h; done)
    | (simp only [starEach])
theorem star_any {C : Cxt} {env : Env} {pos : Pos} : ∀ {xs : List CE} {es : List Expr}, chkEs C xs es = true → (backTo pos (starEach es env)).any (·.1) = false
  | [], [], _ => rfl
  | [], _ :: _, h => by simp [chkEs] at h
  | _ :: _, [], h => by simp [chkEs] at h
  | a :: r, e :: es, h => by
    simp only [chkEs, Bool.and_eq_true] at h
    rw [star_cons (chk_ns h.1)]
    show (false || (backTo pos (starEach es env)).any (·.1)) = false
    rw [star_any h.2]
    rfl
theorem star_all {C : Cxt} {env : Env} {pos : Pos} {xs : List CE} {es : List Expr} (h : chkEs C xs es = true) : (backTo pos (starEach es env)).all (fun x => !x.1) = true := by
  have := star_any (env := env) (pos := pos) h
  rw [List.all_eq_true]
  intro y hy
  rw [List.any_eq_false] at this
  simpa using this y hy
theorem chkEs_len {C : Cxt} : ∀ {xs : List CE} {es : List Expr}, chkEs C xs es = true → es.length = xs.length
  | [], [], _ => rfl
  | [], _ :: _, h => by simp [chkEs] at h
  | _ :: _, [], h => by simp [chkEs] at h
  | a :: r, e :: es, h => by
    simp only [chkEs, Bool.and_eq_true] at h
    simp [chkEs_len h.2]
theorem evEs_len {R : Nat → List D → Sto → Out D} : ∀ {xs : List CE} {σ : Fr} {S S' : Sto} {ds : List D}, evEs R xs σ S = .ok ds S' → ds.length = xs.length
  | [], _, _, _, _, h => by simp only [evEs] at h; cases h; rfl
  | a :: r, σ, S, S', ds, h => by
    simp only [evEs] at h
    cases e : evE R a σ S with
    | bad => rw [e] at h; cases h
    | ex c fs S1 => rw [e] at h; cases h
    | ok x S1 =>
      rw [e, bind_ok] at h
      cases e2 : evEs R r σ S1 with
      | bad => rw [e2] at h; cases h
      | ex c fs S2 => rw [e2] at h; cases h
      | ok ys S2 =>
        rw [e2, bind_ok] at h
        cases h
        simp [evEs_len e2]
end Cr
set_option Elab.async false
set_option linter.all false
set_option maxHeartbeats 4000000
set_option maxRecDepth 10000
/-! Cr12: the promise of an expression. -/
namespace Cr
open PySem L2 PyProof.Rows
section
variable {X : Cx} {ca : Nat → Addr} {W : WX} {R : Nat → List D → Sto → Out D}
/-! ### small steps -/
theorem tT_val {e : Expr} {m : Fr → Sto → Out D} (h : PE X e (tE (kx X ca) W m)) (he : ∀ whole, isTrue e X.env whole = (do let v ← whole; standAt e.pos; holding [v] (truthy v))) : PT X e (tT (kx X ca) W m) := by
  refine PT.imp (pt_val h he) fun σ H Q q => ?_
  obtain ⟨ρ, S, s, a, q⟩ := q
  refine ⟨ρ, S, s, a, ?_⟩
  cases em : m s S with
  | bad => rw [em] at q; exact q
  | ex c fs S1 => rw [em] at q; exact q
  | ok d S1 =>
    rw [em, bind_ok] at q
    intro v ρ1 H1 e1 r1 p1
    cases d with
    | bool b =>
      obtain rfl : v = _ := p1
      exact ⟨b, rfl, q b ρ1 H1 e1 r1 rfl⟩
    | _ => exact q.elim
/-- a test, then the rest -/
theorem tT_step {γ δ : Type} {RepC : Lo → Hp → γ → δ → Prop} {k : Kx} {σ : L2.St} {ρ : Lo} {H : Hp} {S : Sto} {s : Fr} {m : Fr → Sto → Out D} {f g : Sto → Out γ} {Q : δ → Hp → Prop} (a : At k ρ S s σ H)
    (h : post k RepC W σ ρ H ((m s S).bind fun d S1 => onB d S1 f g) Q) :
    tT k W m σ H fun b H1 => ∃ ρ1 S1, At k ρ1 S1 s σ H1 ∧ Ext ρ H ρ1 H1 ∧ post k RepC W σ ρ1 H1 (if b = true then f S1 else g S1) Q := by
  refine ⟨ρ, S, s, a, ?_⟩
  cases em : m s S with
  | bad => rw [em] at h; exact h
  | ex c fs S1 => rw [em] at h; exact h
  | ok d S1 =>
    rw [em, bind_ok] at h
    rw [bind_ok]
    cases d with
    | bool b =>
      intro v ρ1 H1 e1 r1 p1
      cases p1
      refine ⟨ρ1, S1, a.ext e1 r1, e1, ?_⟩
      cases b with
      | true => exact h.mono e1 fun _ _ z => z
      | false => exact h.mono e1 fun _ _ z => z
    | _ => exact h.elim
theorem s_var {C : Cxt} {n : Nat} {i : Nat} {x : Str} {p : Pos} (f : FitE C ca n R X W) (h : C.N[i]? = some x) (hv : visB C.sc x = true) (h1 : (x == ("__debug__" : Str)) = false) (h2 : (x == ("__classdict__" : Str)) = false) : PE X (.Name x p) (tE (kx X ca) W (evE R (.var i))) := by
  refine PE.imp (pe_var (by rw [f.N]; exact h) (by rw [f.sc]; exact vis_of hv) h1 h2) fun σ H Q q => ?_
  obtain ⟨ρ, S, s, a, q⟩ := q
  rw [evE] at q
  split at q
  · rename_i d e
    obtain ⟨v, hv, pv⟩ := a.fr.at_ i d e
    exact ⟨v, hv, q v ρ H .refl a.rel pv⟩
  · exact q.elim
theorem s_con {p : D} {c : Const} {j : Nat} {pos : Pos} (h : conB p c = true) : PE X (.Constant c j pos) (tE (kx X ca) W (evE R (.con p))) := by
  have fin : ∀ {v : V} {σ : L2.St} {H : Hp} {Q : VK}, (∀ ρ H, Rep X.K ρ H p v) → tE (kx X ca) W (evE R (.con p)) σ H Q → Q v H := fun {v σ H Q} hp q => by
    obtain ⟨ρ, S, s, a, q⟩ := q
    rw [evE] at q
    exact q v ρ H .refl a.rel (hp ρ H)
  cases p with
  | none => cases c <;> first | (cases h; done) | exact PE.imp pe_non fun σ H Q q => fin (fun _ _ => rfl) q
  | bool b =>
    cases c <;> first | (cases h; done) | skip
    obtain rfl := beq_iff_eq.mp (show (b == _) = true from h)
    exact PE.imp pe_bl fun σ H Q q => fin (fun _ _ => rfl) q
  | int b =>
    cases c <;> first | (cases h; done) | skip
    obtain rfl := of_decide_eq_true (show decide (b = _) = true from h)
    exact PE.imp pe_int fun σ H Q q => fin (fun _ _ => rfl) q
  | str b =>
    cases c <;> first | (cases h; done) | skip
    obtain rfl := of_decide_eq_true (show decide (b = _) = true from h)
    exact PE.imp pe_str fun σ H Q q => fin (fun _ _ => rfl) q
  | list b => cases c <;> cases h
  | tuple b => cases c <;> cases h
  | dict b => cases c <;> cases h
theorem s_glb {C : Cxt} {n : Nat} {p : D} {x : Str} {pos : Pos} (f : FitE C ca n R X W) (hg : glB C.sc x = true) (hd : (x == ("__debug__" : Str)) = false) (h : glcB C.gls x p = true) : PE X (.Name x pos) (tE (kx X ca) W (evE R (.con p))) := by
  unfold glcB at h
  split at h
  · rename_i q e
    obtain rfl := dEq_eq _ _ h
    obtain ⟨v, u, h1, h2, h3⟩ := f.gd x _ e
    refine PE.imp (pe_glob (gl_of f.sc hg) h1 h2 hd) fun σ H Q q => ?_
    obtain ⟨ρ, S, s, a, q⟩ := q
    rw [evE] at q
    exact q v ρ H .refl a.rel (h3 ρ H)
  · cases h
theorem s_bop {a b : CE} {l r : Expr} {op : Operator} {pos : Pos} (ha : PE X l (tE (kx X ca) W (evE R a))) (hb : PE X r (tE (kx X ca) W (evE R b))) : PE X (.BinOp l op r pos) (tE (kx X ca) W (evE R (.bop op a b))) := by
  refine PE.imp (pe_op (bin_ok (ca := ca) op) ha hb) fun σ H Q q => ?_
  obtain ⟨ρ, S, s, at_, q⟩ := q
  rw [evE] at q
  obtain ⟨ρ', S', s', a', q'⟩ := tE_step at_ q
  refine ⟨ρ', S', s', a', q'.imp fun x H1 ⟨d, ρ1, S1, a1, e1, p1, q1⟩ => ?_⟩
  obtain ⟨ρ2, S2, s2, a2, q2⟩ := tE_step a1 q1
  refine ⟨ρ2, S2, s2, a2, q2.imp fun y H2 ⟨d2, ρ3, S3, a3, e3, p3, q3⟩ => ?_⟩
  exact ⟨ρ3, S3, d, d2, a3.rel, Rep.ext e3 _ _ p1, p3, q3.to0 (bin_nx _ _ _ _)⟩
theorem s_cmp0 {a b : CE} {op : CmpOp} {σ : L2.St} {H : Hp} {Q : VK} (q : tE (kx X ca) W (evE R (.cmp op a b)) σ H Q) : tOp (rB (kx X ca) (cmpD op)) (tE (kx X ca) W (evE R a)) (tE (kx X ca) W (evE R b)) σ H Q := by
  obtain ⟨ρ, S, s, at_, q⟩ := q
  rw [evE] at q
  obtain ⟨ρ', S', s', a', q'⟩ := tE_step at_ q
  refine ⟨ρ', S', s', a', q'.imp fun x H1 ⟨d, ρ1, S1, a1, e1, p1, q1⟩ => ?_⟩
  obtain ⟨ρ2, S2, s2, a2, q2⟩ := tE_step a1 q1
  refine ⟨ρ2, S2, s2, a2, q2.imp fun y H2 ⟨d2, ρ3, S3, a3, e3, p3, q3⟩ => ?_⟩
  exact ⟨ρ3, S3, d, d2, a3.rel, Rep.ext e3 _ _ p1, p3, q3.to0 (cmp_nx _ _ _ _)⟩
theorem s_cmp {a b : CE} {l r : Expr} {op : CmpOp} {pos : Pos} (hu : X.A.units + 100 < cLine) (ha : PE X l (tE (kx X ca) W (evE R a))) (hb : PE X r (tE (kx X ca) W (evE R b))) (hm : behindInMarks op r = false) : PE X (.Compare l [op] [r] pos) (tE (kx X ca) W (evE R (.cmp op a b))) :=
  PE.imp (pe_cmpR (cmp_ok (ca := ca) hu op) ha hb hm) fun σ H Q q => s_cmp0 q
/-- a test's run by its value's run -/
theorem tT_of {k : Kx} {m : Fr → Sto → Out D} {σ : L2.St} {H : Hp} {Q : Bool → Hp → Prop} (h : tT k W m σ H Q) : tE k W m σ H fun x H1 => ∃ b, x = .bl b ∧ Q b H1 := by
  obtain ⟨ρ, S, s, a, q⟩ := h
  refine ⟨ρ, S, s, a, ?_⟩
  cases em : m s S with
  | bad => rw [em] at q; exact q
  | ex c fs S1 => rw [em] at q; exact q
  | ok d S1 =>
    rw [em, bind_ok] at q
    intro v ρ1 H1 e1 r1 p1
    cases d with
    | bool b =>
      obtain rfl : v = _ := p1
      exact ⟨b, rfl, q b ρ1 H1 e1 r1 rfl⟩
    | _ => exact q.elim
theorem t_cmp {a b : CE} {l r : Expr} {op : CmpOp} {pos : Pos} (hu : X.A.units + 100 < cLine) (ha : PE X l (tE (kx X ca) W (evE R a))) (hb : PE X r (tE (kx X ca) W (evE R b))) (hm : behindInMarks op r = false) : PT X (.Compare l [op] [r] pos) (tT (kx X ca) W (evE R (.cmp op a b))) :=
  PT.imp (pt_cmpR (cmp_ok (ca := ca) hu op) ha hb hm) fun σ H Q q => s_cmp0 (tT_of q)
theorem s_chn0 {a b c : CE} {o1 o2 : CmpOp} {σ : L2.St} {H : Hp} {Q : VK} (q : tE (kx X ca) W (evE R (.chn o1 o2 a b c)) σ H Q) : tChain (rB (kx X ca) (cmpD o1)) (rB (kx X ca) (cmpD o2)) (tE (kx X ca) W (evE R a)) (tE (kx X ca) W (evE R b)) (tE (kx X ca) W (evE R c)) σ H Q := by
  obtain ⟨ρ, S, s, at_, q⟩ := q
  rw [evE] at q
  obtain ⟨ρ', S', s', a', q'⟩ := tE_step at_ q
  refine ⟨ρ', S', s', a', q'.imp fun x H1 ⟨d, ρ1, S1, a1, e1, p1, q1⟩ => ?_⟩
  obtain ⟨ρ2, S2, s2, a2, q2⟩ := tE_step a1 q1
  refine ⟨ρ2, S2, s2, a2, q2.imp fun y H2 ⟨d2, ρ3, S3, a3, e3, p3, q3⟩ => ?_⟩
  refine ⟨ρ3, S3, d, d2, a3.rel, Rep.ext e3 _ _ p1, p3, ?_⟩
  cases eo : cmpD o1 d d2 S3 with
  | bad => rw [eo] at q3; exact q3.elim
  | ex k fs S4 => exact absurd eo (cmp_nx _ _ _ _ _ _ _)
  | ok t S4 =>
    rw [eo, bind_ok] at q3
    intro v ρ4 H4 e4 r4 p4
    cases t with
    | bool b =>
      obtain rfl : v = _ := p4
      refine ⟨b, rfl, ?_⟩
      cases b with
      | true =>
        rw [if_pos rfl]
        have q3 : postE (kx X ca) W σ ρ3 H2 ((evE R c s S4).bind fun z S5 => cmpD o2 d2 z S5) Q := q3
        obtain ⟨ρ5, S5, s5, a5, q5⟩ := tE_step (a3.ext e4 r4) (q3.mono e4 fun _ _ z => z)
        refine ⟨ρ5, S5, s5, a5, q5.imp fun w H5 ⟨d6, ρ6, S6, a6, e6, p6, q6⟩ => ?_⟩
        exact ⟨ρ6, S6, d2, d6, a6.rel, Rep.ext (e4.trans e6) _ _ p3, p6, q6.to0 (cmp_nx _ _ _ _)⟩
      | false =>
        rw [if_neg (by decide)]
        exact q3 (.bl false) ρ4 H4 e4 r4 rfl
    | _ => exact q3.elim
theorem s_chn {a b c : CE} {l m r : Expr} {o1 o2 : CmpOp} {pos : Pos} (hu : X.A.units + 100 < cLine) (ha : PE X l (tE (kx X ca) W (evE R a))) (hb : PE X m (tE (kx X ca) W (evE R b))) (hc : PE X r (tE (kx X ca) W (evE R c))) (hm : lastMarks [o1, o2] [m, r] = false) :
    PE X (.Compare l [o1, o2] [m, r] pos) (tE (kx X ca) W (evE R (.chn o1 o2 a b c))) := PE.imp (pe_chain (cmp_ok (ca := ca) hu o1) (cmp_ok (ca := ca) hu o2) ha hb hc hm) fun σ H Q q => s_chn0 q
theorem t_chn {a b c : CE} {l m r : Expr} {o1 o2 : CmpOp} {pos : Pos} (hu : X.A.units + 100 < cLine) (ha : PE X l (tE (kx X ca) W (evE R a))) (hb : PE X m (tE (kx X ca) W (evE R b))) (hc : PE X r (tE (kx X ca) W (evE R c))) (hm : lastMarks [o1, o2] [m, r] = false) :
    PT X (.Compare l [o1, o2] [m, r] pos) (tT (kx X ca) W (evE R (.chn o1 o2 a b c))) := PT.imp (pt_chain (cmp_ok (ca := ca) hu o1) (cmp_ok (ca := ca) hu o2) ha hb hc hm) fun σ H Q q => s_chn0 (tT_of q)
theorem s_and {a b : CE} {x y : Expr} {rest : List Expr} {pos : Pos} (ha : PE X x (tE (kx X ca) W (evE R a))) (hb : PE X (.BoolOp .And (y :: rest) pos) (tE (kx X ca) W (evE R b))) : PE X (.BoolOp .And (x :: y :: rest) pos) (tE (kx X ca) W (evE R (.and a b))) := by
  refine PE.imp (pe_and ha hb) fun σ H Q q => ?_
  obtain ⟨ρ, S, s, at_, q⟩ := q
  rw [evE] at q
  obtain ⟨ρ', S', s', a', q'⟩ := tE_step at_ q
  refine ⟨ρ', S', s', a', q'.imp fun v H1 ⟨d, ρ1, S1, a1, e1, p1, q1⟩ => ?_⟩
  cases d with
  | bool t =>
    obtain rfl : v = _ := p1
    cases t with
    | true => exact ⟨true, rfl, ρ1, S1, s, a1, q1⟩
    | false => exact ⟨false, rfl, q1 _ ρ1 H1 .refl a1.rel rfl⟩
  | _ => exact q1.elim
theorem s_or {a b : CE} {x y : Expr} {rest : List Expr} {pos : Pos} (ha : PE X x (tE (kx X ca) W (evE R a))) (hb : PE X (.BoolOp .Or (y :: rest) pos) (tE (kx X ca) W (evE R b))) : PE X (.BoolOp .Or (x :: y :: rest) pos) (tE (kx X ca) W (evE R (.or a b))) := by
  refine PE.imp (pe_or ha hb) fun σ H Q q => ?_
  obtain ⟨ρ, S, s, at_, q⟩ := q
  rw [evE] at q
  obtain ⟨ρ', S', s', a', q'⟩ := tE_step at_ q
  refine ⟨ρ', S', s', a', q'.imp fun v H1 ⟨d, ρ1, S1, a1, e1, p1, q1⟩ => ?_⟩
  cases d with
  | bool t =>
    obtain rfl : v = _ := p1
    cases t with
    | true => exact ⟨true, rfl, q1 _ ρ1 H1 .refl a1.rel rfl⟩
    | false => exact ⟨false, rfl, ρ1, S1, s, a1, q1⟩
  | _ => exact q1.elim
theorem pw_pt {op : BoolOp} {vs : List Expr} {pos : Pos} {t : TT} (h : PT X (.BoolOp op vs pos) t) : PW X (.BoolOp op vs pos) t := by
  refine ⟨fun whole pins s σ H Q I q => ?_⟩
  have := h.run pins s σ H Q I q
  rw [arm_isTrue_BoolOp] at this ⊢
  exact this
/-- a run that is a match on a truth, as one on its test -/
theorem bool_bind {o : Out D} {f g : Sto → Out D} : (o.bind fun d S1 => onB d S1 f g).bind asB = o.bind fun d S1 => onB d S1 (fun S => (f S).bind asB) (fun S => (g S).bind asB) := by
  cases o with
  | bad => rfl
  | ex c fs S => rfl
  | ok d S =>
    cases d with
    | bool b => cases b <;> rfl
    | _ => rfl
theorem t_and {a b : CE} {x y : Expr} {rest : List Expr} {pos : Pos} (ha : PT X x (tT (kx X ca) W (evE R a))) (hb : PW X (.BoolOp .And (y :: rest) pos) (tT (kx X ca) W (evE R b))) : PT X (.BoolOp .And (x :: y :: rest) pos) (tT (kx X ca) W (evE R (.and a b))) := by
  refine PT.imp (pw_and ha hb).pt fun σ H Q q => ?_
  obtain ⟨ρ, S, s, at_, q⟩ := q
  rw [evE] at q
  rw [bool_bind] at q
  obtain ⟨ρ', S', s', a', q'⟩ := tT_step at_ q
  refine ⟨ρ', S', s', a', q'.imp fun t H1 ⟨ρ1, S1, a1, e1, q1⟩ => ?_⟩
  cases t with
  | true => exact ⟨ρ1, S1, s, a1, q1⟩
  | false => exact q1 false ρ1 H1 .refl a1.rel rfl
theorem t_or {a b : CE} {x y : Expr} {rest : List Expr} {pos : Pos} (ha : PT X x (tT (kx X ca) W (evE R a))) (hb : PW X (.BoolOp .Or (y :: rest) pos) (tT (kx X ca) W (evE R b))) : PT X (.BoolOp .Or (x :: y :: rest) pos) (tT (kx X ca) W (evE R (.or a b))) := by
  refine PT.imp (pw_or ha hb).pt fun σ H Q q => ?_
  obtain ⟨ρ, S, s, at_, q⟩ := q
  rw [evE] at q
  rw [bool_bind] at q
  obtain ⟨ρ', S', s', a', q'⟩ := tT_step at_ q
  refine ⟨ρ', S', s', a', q'.imp fun t H1 ⟨ρ1, S1, a1, e1, q1⟩ => ?_⟩
  cases t with
  | true => exact q1 true ρ1 H1 .refl a1.rel rfl
  | false => exact ⟨ρ1, S1, s, a1, q1⟩
theorem s_not {a : CE} {x : Expr} {pos : Pos} (ha : PE X x (tE (kx X ca) W (evE R a))) : PE X (.UnaryOp .Not x pos) (tE (kx X ca) W (evE R (.not a))) := by
  refine PE.imp (pe_not ha) fun σ H Q q => ?_
  obtain ⟨ρ, S, s, at_, q⟩ := q
  rw [evE] at q
  obtain ⟨ρ', S', s', a', q'⟩ := tE_step at_ q
  refine ⟨ρ', S', s', a', q'.imp fun v H1 ⟨d, ρ1, S1, a1, e1, p1, q1⟩ => ?_⟩
  cases d with
  | bool t =>
    obtain rfl : v = _ := p1
    exact ⟨t, rfl, q1 _ ρ1 H1 .refl a1.rel rfl⟩
  | _ => exact q1.elim
theorem t_not {a : CE} {x : Expr} {pos : Pos} (ha : PT X x (tT (kx X ca) W (evE R a))) : PT X (.UnaryOp .Not x pos) (tT (kx X ca) W (evE R (.not a))) := by
  refine PT.imp (pt_not ha) fun σ H Q q => ?_
  obtain ⟨ρ, S, s, at_, q⟩ := q
  rw [evE] at q
  refine ⟨ρ, S, s, at_, ?_⟩
  cases em : evE R a s S with
  | bad => rw [em] at q; exact q
  | ex c fs S1 => rw [em] at q; exact q
  | ok d S1 =>
    rw [em, bind_ok] at q
    rw [bind_ok]
    cases d with
    | bool b =>
      intro v ρ1 H1 e1 r1 p1
      cases p1
      exact q _ ρ1 H1 e1 r1 rfl
    | _ => exact q.elim
theorem s_neg {a : CE} {x : Expr} {pos : Pos} (ha : PE X x (tE (kx X ca) W (evE R a))) : PE X (.UnaryOp .USub x pos) (tE (kx X ca) W (evE R (.neg a))) := by
  refine PE.imp (pe_un un_neg ha) fun σ H Q q => ?_
  obtain ⟨ρ, S, s, at_, q⟩ := q
  rw [evE] at q
  obtain ⟨ρ', S', s', a', q'⟩ := tE_step at_ q
  refine ⟨ρ', S', s', a', q'.imp fun v H1 ⟨d, ρ1, S1, a1, e1, p1, q1⟩ => ?_⟩
  cases d with
  | int t =>
    obtain rfl : v = _ := p1
    exact ⟨t, rfl, q1 _ ρ1 H1 .refl a1.rel rfl⟩
  | _ => exact q1.elim
theorem s_ite {c a b : CE} {t x y : Expr} {pos : Pos} (hc : PT X t (tT (kx X ca) W (evE R c))) (ha : PE X x (tE (kx X ca) W (evE R a))) (hb : PE X y (tE (kx X ca) W (evE R b))) : PE X (.IfExp t x y pos) (tE (kx X ca) W (evE R (.ite c a b))) := by
  refine PE.imp (pe_ifExp hc ha hb) fun σ H Q q => ?_
  obtain ⟨ρ, S, s, at_, q⟩ := q
  rw [evE] at q
  obtain ⟨ρ', S', s', a', q'⟩ := tT_step (f := fun S1 => evE R a s S1) (g := fun S1 => evE R b s S1) at_ q
  refine ⟨ρ', S', s', a', q'.imp fun v H1 ⟨ρ1, S1, a1, e1, q1⟩ => ?_⟩
  cases v with
  | true => exact ⟨ρ1, S1, s, a1, q1⟩
  | false => exact ⟨ρ1, S1, s, a1, q1⟩
theorem t_ite {c a b : CE} {t x y : Expr} {pos : Pos} (hc : PT X t (tT (kx X ca) W (evE R c))) (ha : PT X x (tT (kx X ca) W (evE R a))) (hb : PT X y (tT (kx X ca) W (evE R b))) : PT X (.IfExp t x y pos) (tT (kx X ca) W (evE R (.ite c a b))) := by
  refine ⟨fun pins s σ H Q I q => ?_⟩
  obtain ⟨ρ, S, f, at_, q⟩ := q
  rw [evE] at q
  rw [bool_bind] at q
  have q' := tT_step at_ q
  refine isTrue_IfExp (thn (hc.run pins s σ H _ I q') fun d s1 ⟨H1, I1, ρ1, S1, a1, e1, q1⟩ => ?_)
  cases d with
  | true => exact ha.run pins s1 σ H1 Q I1 ⟨ρ1, S1, f, a1, q1⟩
  | false => exact hb.run pins s1 σ H1 Q I1 ⟨ρ1, S1, f, a1, q1⟩
end
end Cr
set_option Elab.async false
set_option linter.all false
set_option maxHeartbeats 4000000
set_option maxRecDepth 10000
/-! Cr13: displays, subscripts, calls. -/
namespace Cr
open PySem L2 PyProof.Rows
section
variable {X : Cx} {ca : Nat → Addr} {W : WX} {R : Nat → List D → Sto → Out D}
theorem sa_nil : PA X [] (tA (kx X ca) W (evEs R [])) := by
  refine PA.imp pa_nil fun σ H Q q => ?_
  obtain ⟨ρ, S, s, a, q⟩ := q
  rw [evEs] at q
  exact q [] ρ H .refl a.rel rfl
theorem sa_cons {a : CE} {r : List CE} {e : Expr} {es : List Expr} (ha : PE X e (tE (kx X ca) W (evE R a))) (hr : PA X es (tA (kx X ca) W (evEs R r))) (hs : starEach (e :: es) X.env = (false, eval e X.env) :: starEach es X.env) : PA X (e :: es) (tA (kx X ca) W (evEs R (a :: r))) := by
  refine PA.imp (pa_cons ha hr hs) fun σ H Q q => ?_
  obtain ⟨ρ, S, s, at_, q⟩ := q
  rw [evEs] at q
  obtain ⟨ρ', S', s', a', q'⟩ := tE_step at_ q
  refine ⟨ρ', S', s', a', q'.imp fun x H1 ⟨d, ρ1, S1, a1, e1, p1, q1⟩ => ?_⟩
  obtain ⟨ρ2, S2, s2, a2, q2⟩ := tA_step a1 q1
  refine ⟨ρ2, S2, s2, a2, q2.imp fun ys H2 ⟨ds, ρ3, S3, a3, e3, p3, q3⟩ => ?_⟩
  exact q3 (x :: ys) ρ3 H2 .refl a3.rel ⟨x, ys, rfl, Rep.ext e3 _ _ p1, p3⟩
theorem s_tup {xs : List CE} {es : List Expr} {j : Nat} {pos : Pos} (h : PA X es (tA (kx X ca) W (evEs R xs))) : PE X (.Tuple es j pos) (tE (kx X ca) W (evE R (.tup xs))) := by
  refine PE.imp (pe_tup h) fun σ H Q q => ?_
  obtain ⟨ρ, S, s, at_, q⟩ := q
  rw [evE] at q
  obtain ⟨ρ', S', s', a', q'⟩ := tA_step at_ q
  refine ⟨ρ', S', s', a', q'.imp fun vs H1 ⟨ds, ρ1, S1, a1, e1, p1, q1⟩ => ?_⟩
  split at q1
  · rename_i hz
    exact ⟨by rw [p1.length]; exact hz, fun p hp => q1 _ ρ1 _ (.new _ hp) (a1.rel.new _ hp) (rep_newT a1.rel hp p1)⟩
  · exact q1.elim
theorem mkL_fin {al : Bool} {σ : L2.St} {ρ : Lo} {H : Hp} {ds : List D} {vs : List V} {S : Sto} {Q : VK} (r : Rel X.K ca ρ S H) (p : Reps X.K ρ H ds vs) (q : postE (kx X ca) W σ ρ H (mkL al ds S) Q) : vs.length ≤ sizeLine ∧ ∀ p, H p = none → Q (.ref p) (upd H p (.lst vs)) := by
  unfold mkL at q
  split at q
  · rename_i hz
    refine ⟨by rw [p.length]; exact hz, fun a ha => ?_⟩
    cases al with
    | false =>
      rw [if_neg (by decide)] at q
      exact q _ ρ _ (.new _ ha) (r.new _ ha) (rep_newL r ha p)
    | true =>
      rw [if_pos rfl] at q
      exact q _ _ _ (.alloc _ ha) (r.allocL ha p) r.locNew
  · exact q.elim
theorem s_lst {al : Bool} {xs : List CE} {es : List Expr} {pos : Pos} (h : PA X es (tA (kx X ca) W (evEs R xs))) : PE X (.List es pos) (tE (kx X ca) W (evE R (.lst al xs))) := by
  refine PE.imp (pe_lst h) fun σ H Q q => ?_
  obtain ⟨ρ, S, s, at_, q⟩ := q
  rw [evE] at q
  obtain ⟨ρ', S', s', a', q'⟩ := tA_step at_ q
  refine ⟨ρ', S', s', a', q'.imp fun vs H1 ⟨ds, ρ1, S1, a1, e1, p1, q1⟩ => ?_⟩
  exact mkL_fin a1.rel p1 q1
theorem s_idx {a b : CE} {x y : Expr} {pos : Pos} (hu : X.A.units + 100 < cLine) (ha : PE X x (tE (kx X ca) W (evE R a))) (hb : PE X y (tE (kx X ca) W (evE R b))) (hs : PlainIx y) : PE X (.Subscript x y pos) (tE (kx X ca) W (evE R (.idx a b))) := by
  refine PE.imp (pe_ix (idx_ok (ca := ca) hu) ha hb hs) fun σ H Q q => ?_
  obtain ⟨ρ, S, s, at_, q⟩ := q
  rw [evE] at q
  obtain ⟨ρ', S', s', a', q'⟩ := tE_step at_ q
  refine ⟨ρ', S', s', a', q'.imp fun x H1 ⟨d, ρ1, S1, a1, e1, p1, q1⟩ => ?_⟩
  obtain ⟨ρ2, S2, s2, a2, q2⟩ := tE_step a1 q1
  refine ⟨ρ2, S2, s2, a2, q2.imp fun y H2 ⟨d2, ρ3, S3, a3, e3, p3, q3⟩ => ?_⟩
  exact ⟨ρ3, S3, d, d2, a3.rel, Rep.ext e3 _ _ p1, p3, q3.to0 (idx_nx _ _ _)⟩
/-- an optional part of a slice -/
def tO (k : Kx) (W : WX) (m : Fr → Sto → Out (Option Int)) : TO := fun σ H Q => ∃ ρ S s, At k ρ S s σ H ∧ post k (fun _ _ (a b : Option Int) => a = b) W σ ρ H (m s S) Q
theorem PO.imp {X : Cx} {e : Option Expr} {t t' : TO} (h : PO X e t) (w : ∀ σ H Q, t' σ H Q → t σ H Q) : PO X e t' := ⟨fun pins s σ H Q I q => h.run pins s σ H Q I (w σ H Q q)⟩
theorem so_none : PO X none (tO (kx X ca) W fun s S => (evO R none s S).bind prtD) := by
  refine PO.imp po_none fun σ H Q q => ?_
  obtain ⟨ρ, S, s, a, q⟩ := q
  dsimp only at q
  rw [evO, bind_ok] at q
  exact q none ρ H .refl a.rel rfl
theorem so_some {a : CE} {e : Expr} (h : PE X e (tE (kx X ca) W (evE R a))) : PO X (some e) (tO (kx X ca) W fun s S => (evO R (some a) s S).bind prtD) := by
  refine PO.imp (po_some h) fun σ H Q q => ?_
  obtain ⟨ρ, S, s, at_, q⟩ := q
  dsimp only at q
  rw [evO] at q
  refine ⟨ρ, S, s, at_, ?_⟩
  cases em : evE R a s S with
  | bad => rw [em] at q; exact q
  | ex c fs S1 => rw [em] at q; exact q
  | ok d S1 =>
    rw [em, bind_ok, bind_ok] at q
    intro v ρ1 H1 e1 r1 p1
    cases d with
    | int i =>
      obtain rfl : v = _ := p1
      exact ⟨i, rfl, q (some i) ρ1 H1 e1 r1 rfl⟩
    | _ => exact q.elim
theorem tO_step {k : Kx} {σ : L2.St} {ρ : Lo} {H : Hp} {S : Sto} {s : Fr} {γ δ : Type} {RepC : Lo → Hp → γ → δ → Prop} {m : Fr → Sto → Out (Option Int)} {f : Option Int → Sto → Out γ} {Q : δ → Hp → Prop} (a : At k ρ S s σ H) (h : post k RepC W σ ρ H ((m s S).bind f) Q) :
    tO k W m σ H fun x H1 => ∃ ρ1 S1, At k ρ1 S1 s σ H1 ∧ Ext ρ H ρ1 H1 ∧ post k RepC W σ ρ1 H1 (f x S1) Q :=
  ⟨ρ, S, s, a, (post.bind h).imp fun x H1 ⟨d, ρ1, S1, e, r, p, q⟩ => by
    subst p
    exact ⟨ρ1, S1, a.ext e r, e, q⟩⟩
theorem s_sli {a : CE} {lo hi : Option CE} {x : Expr} {l h : Option Expr} {p2 pos : Pos} (ha : PE X x (tE (kx X ca) W (evE R a))) (hl : PO X l (tO (kx X ca) W fun s S => (evO R lo s S).bind prtD)) (hh : PO X h (tO (kx X ca) W fun s S => (evO R hi s S).bind prtD)) :
    PE X (.Subscript x (.Slice l h none p2) pos) (tE (kx X ca) W (evE R (.sli a lo hi))) := by
  refine PE.imp (pe_slice (sli_ok (ca := ca)) ha hl hh) fun σ H Q q => ?_
  obtain ⟨ρ, S, s, at_, q⟩ := q
  rw [evE] at q
  obtain ⟨ρ', S', s', a', q'⟩ := tE_step at_ q
  refine ⟨ρ', S', s', a', q'.imp fun x H1 ⟨d, ρ1, S1, a1, e1, p1, q1⟩ => ?_⟩
  obtain ⟨ρ2, S2, s2, a2, q2⟩ := tO_step (m := fun s S => (evO R lo s S).bind prtD) a1 q1
  refine ⟨ρ2, S2, s2, a2, q2.imp fun l H2 ⟨ρ3, S3, a3, e3, q3⟩ => ?_⟩
  obtain ⟨ρ4, S4, s4, a4, q4⟩ := tO_step (m := fun s S => (evO R hi s S).bind prtD) a3 q3
  refine ⟨ρ4, S4, s4, a4, q4.imp fun h H3 ⟨ρ5, S5, a5, e5, q5⟩ => ?_⟩
  exact ⟨ρ5, S5, d, a5.rel, Rep.ext (e3.trans e5) _ _ p1, q5.to0 (sli_nx _ _ _ _)⟩
theorem s_call {C : Cxt} {n f : Nat} {x : Str} {xs : List CE} {es : List Expr} {p pos : Pos} (ft : FitE C ca n R X W) (hf : C.fns[f]? = some (x, xs.length)) (hx : x ≠ Str.empty) (hg : glB C.sc x = true) (hd : (x == ("__debug__" : Str)) = false)
    (ha : PA X es (tA (kx X ca) W (evEs R xs))) (hc : chkEs C xs es = true) : PE X (.Call (.Name x p) es [] pos) (tE (kx X ca) W (evE R (.call f xs))) := by
  have G := ft.gf f x xs.length hf hx
  cases es with
  | nil =>
    have e0 : xs = [] := List.length_eq_zero_iff.mp (chkEs_len hc).symm
    subst e0
    refine PE.imp (pe_callF0 (p := p) (pos := pos) G ft.room ft.tk (gl_of ft.sc hg) hd) fun σ H Q q => ?_
    obtain ⟨ρ, S, s, a, q⟩ := q
    rw [evE, evEs, bind_ok] at q
    exact ⟨ρ, S, s, a, q⟩
  | cons e es =>
    cases xs with
    | nil => simp [chkEs] at hc
    | cons a r =>
      have hc' := hc
      simp only [chkEs, Bool.and_eq_true] at hc'
      refine PE.imp (pe_callF (p := p) (pos := pos) G ft.room ft.tk (gl_of ft.sc hg) hd ha (fun s S ds S' h => evEs_len h) (star_cons (chk_ns hc'.1)) (star_any hc'.2)) fun σ H Q q => ?_
      obtain ⟨ρ, S, s, at_, q⟩ := q
      rw [evE] at q
      exact ⟨ρ, S, s, at_, q⟩
theorem boots (b : Bi) : bootBuiltins (biN b) = some (biV b) := by cases b <;> decide +kernel
theorem bi_in (b : Bi) : biN b ∈ bNames := by cases b <;> decide +kernel
theorem bi_ok1 (b : Bi) : biN b ≠ "__name__" ∧ (biN b == ("__debug__" : Str)) = false := by cases b <;> decide +kernel
theorem s_blt {C : Cxt} {n : Nat} {b : Bi} {xs : List CE} {es : List Expr} {p pos : Pos} (ft : FitE C ca n R X W) (hg : glB C.sc (biN b) = true) (he : es.isEmpty = false)
    (ha : PA X es (tA (kx X ca) W (evEs R xs))) (hc : chkEs C xs es = true) : PE X (.Call (.Name (biN b) p) es [] pos) (tE (kx X ca) W (evE R (.blt b xs))) := by
  cases es with
  | nil => cases he
  | cons e es =>
    cases xs with
    | nil => simp [chkEs] at hc
    | cons a r =>
      have hc' := hc
      simp only [chkEs, Bool.and_eq_true] at hc'
      have hR := blt_ok (ca := ca) ft.calm b
      have fin : ∀ σ H Q, tE (kx X ca) W (evE R (.blt b (a :: r))) σ H Q → tCB (rA (kx X ca) (bltD b)) (tA (kx X ca) W (evEs R (a :: r))) σ H Q := fun σ H Q q => by
        obtain ⟨ρ, S, s, at_, q⟩ := q
        rw [evE] at q
        obtain ⟨ρ', S', s', a', q'⟩ := tA_step at_ q
        exact ⟨ρ', S', s', a', q'.imp fun vs H1 ⟨ds, ρ1, S1, a1, e1, p1, q1⟩ => ⟨ρ1, S1, ds, a1.rel, p1, q1.to0 (blt_nx _ _ _)⟩⟩
      have hm := ft.bi _ (bi_in b)
      have bo := boots b
      have st := star_cons (env := X.env) (es := es) (chk_ns hc'.1)
      have pl := star_any (env := X.env) (pos := pos) hc'.2
      have g := gl_of ft.sc hg
      have k := bi_ok1 b
      cases b <;> first
        | exact PE.imp (pe_callB hR g hm bo ha k.1 k.2 st pl) fin
        | exact PE.imp (pe_callTy hR g hm bo ha k.1 k.2 st pl) fin
theorem ab_of {e : Expr} {x : Str} {env : Env} (h : abB e = true) : attributeBase e x env (eval e env) = eval e env := by
  cases e <;> first
    | (cases h; done)
    | rfl
end
end Cr
set_option Elab.async false
set_option linter.all false
set_option maxHeartbeats 4000000
set_option maxRecDepth 10000
/-! Cr14: methods, isinstance, dict displays, comprehensions; all expressions. -/
namespace Cr
open PySem L2 PyProof.Rows
section
variable {X : Cx} {ca : Nat → Addr} {W : WX} {R : Nat → List D → Sto → Out D} {ρ : Lo} {S : Sto} {H : Hp}
theorem ty_list (r : Rel X.K ca ρ S H) {d : D} {v : V} {m : Mt} (hm : m ≠ .join) (hm2 : m ≠ .replace) (h : recvB m d S = true) (p : Rep X.K ρ H d v) : tyV X.K "list" v H := by
  unfold recvB at h
  split at h
  · exact absurd rfl hm
  · exact absurd rfl hm2
  · split at h
    · rename_i n hn
      split at h
      · rename_i a hs
        obtain rfl := locOf_rep hn p
        obtain ⟨b, rfl, hb, vs, h1, h2⟩ := r.loc p hs
        exact .inl ⟨rfl, _, .inl (.inl h1)⟩
      · cases h
    · cases h
theorem s_mth1 {m : Mt} {id : String} {o : CE} {a : CE} {v e : Expr} {nm : Str} {apos cpos : Pos} (hn : nm = mtN m) (hm : m ≠ .join) (hm2 : m ≠ .replace) (slot : Slot "list" (mtN m) id) (hty : typeOf (.builtin id) = pure (.type "method_descriptor")) (hr : MtR X id (rM (kx X ca) (mthD m)))
    (ho : PE X v (tE (kx X ca) W (evE R o))) (ha : PA X [e] (tA (kx X ca) W (evEs R [a]))) (hb : abB v = true) (hl : (apos.endLine == cpos.line) = true) (hs : noStar e = true) :
    PE X (.Call (.Attribute v nm apos) [e] [] cpos) (tE (kx X ca) W (evE R (.mth m o [a]))) := by
  subst hn
  refine PE.imp (pe_bm PySem.F.plainAttrs_list slot hty hr ho ha (ab_of hb) (by rw [star_cons hs]; rfl) hl (star_cons hs) rfl) fun σ H Q q => ?_
  obtain ⟨ρ, S, s, at_, q⟩ := q
  rw [evE] at q
  obtain ⟨ρ', S', s', a', q'⟩ := tE_step at_ q
  refine ⟨ρ', S', s', a', q'.imp fun x H1 ⟨d, ρ1, S1, a1, e1, p1, q1⟩ => ?_⟩
  split at q1
  · rename_i hc
    refine ⟨ty_list a1.rel hm hm2 hc p1, ?_⟩
    obtain ⟨ρ2, S2, s2, a2, q2⟩ := tA_step a1 q1
    refine ⟨ρ2, S2, s2, a2, q2.imp fun ys H2 ⟨ds, ρ3, S3, a3, e3, p3, q3⟩ => ?_⟩
    exact ⟨ρ3, S3, d, ds, a3.rel, Rep.ext e3 _ _ p1, p3, q3.to0 (mth_nx _ _ _ _)⟩
  · exact q1.elim
theorem s_mth0 {m : Mt} {id : String} {o : CE} {v : Expr} {nm : Str} {apos cpos : Pos} (hn : nm = mtN m) (hm : m ≠ .join) (hm2 : m ≠ .replace) (slot : Slot "list" (mtN m) id) (hty : typeOf (.builtin id) = pure (.type "method_descriptor")) (hr : MtR X id (rM (kx X ca) (mthD m)))
    (ho : PE X v (tE (kx X ca) W (evE R o))) (hb : abB v = true) (hl : (apos.endLine == cpos.line) = true) :
    PE X (.Call (.Attribute v nm apos) [] [] cpos) (tE (kx X ca) W (evE R (.mth m o []))) := by
  subst hn
  refine PE.imp (pe_bm0 PySem.F.plainAttrs_list slot hty hr ho (ab_of hb) hl) fun σ H Q q => ?_
  obtain ⟨ρ, S, s, at_, q⟩ := q
  rw [evE] at q
  obtain ⟨ρ', S', s', a', q'⟩ := tE_step at_ q
  refine ⟨ρ', S', s', a', q'.imp fun x H1 ⟨d, ρ1, S1, a1, e1, p1, q1⟩ => ?_⟩
  split at q1
  · rename_i hc
    refine ⟨ty_list a1.rel hm hm2 hc p1, ?_⟩
    rw [evEs, bind_ok] at q1
    exact ⟨ρ1, S1, d, [], a1.rel, p1, rfl, q1.to0 (mth_nx _ _ _ _)⟩
  · exact q1.elim
/-! ### isinstance -/
theorem ty_of (r : Rel X.K ca ρ S H) {d : D} {v : V} {n : String} (p : Rep X.K ρ H d v) (h : tyN (lv S d) = some n) : TyX X.K H v (.type n) := by
  have hl : ∀ {a : Addr} {vs : List V}, RL X.K H a vs → TyX X.K H (.ref a) (.type "list") := fun {a vs} q => by
    rcases q with (q | ⟨o, q⟩) | ⟨its, m, q, _⟩
    · exact .base (.lst q)
    · exact .base (.frz q)
    · exact .kList q rfl
  cases e : lv S d with
  | list xs =>
    rw [e] at h
    cases h
    obtain ⟨a, vs, rfl, h1, _⟩ := lv_list r p e
    exact hl h1
  | tuple xs =>
    have e' := lv_of e (fun _ z => nomatch z)
    subst e'
    cases h
    obtain ⟨a, vs, rfl, h1, _⟩ := p
    rcases h1 with ⟨_, q | ⟨o, q⟩⟩ | ⟨o, its, m, q1, q2, _⟩
    · exact .base (.tup q)
    · exact .fTuple q
    · exact .kTuple q1 q2
  | none =>
    have e' := lv_of e (fun _ z => nomatch z)
    subst e'
    cases h
    rw [show v = _ from p]
    exact .base .non
  | bool b =>
    have e' := lv_of e (fun _ z => nomatch z)
    subst e'
    cases h
    rw [show v = _ from p]
    exact .base (.bl b)
  | int b =>
    have e' := lv_of e (fun _ z => nomatch z)
    subst e'
    cases h
    rw [show v = _ from p]
    exact .base (.int b)
  | str b =>
    have e' := lv_of e (fun _ z => nomatch z)
    subst e'
    cases h
    rw [show v = _ from p]
    exact .base (.str b)
  | dict b => rw [e] at h; cases h
theorem s_isi {C : Cxt} {n : Nat} {a : CE} {t : String} {v : Expr} {ty : Str} {p p2 pos : Pos} (ft : FitE C ca n R X W) (hg : glB C.sc "isinstance" = true) (hg2 : glB C.sc ty = true) (hty : bootBuiltins ty = some (.type t)) (hin : ty ∈ bNames) (h1 : ty ≠ "__name__") (h2 : (ty == ("__debug__" : Str)) = false)
    (ha : PE X v (tE (kx X ca) W (evE R a))) (hv : noStar v = true) : PE X (.Call (.Name "isinstance" p) [v, .Name ty p2] [] pos) (tE (kx X ca) W (evE R (.isi a t))) := by
  have pb : PE X (.Name ty p2) (tC (.ty t)) := pe_bltn (gl_of ft.sc hg2) (ft.bi _ hin) hty rfl h1 h2
  have pa := pa_cons ha (pa_cons pb pa_nil rfl) (star_cons hv)
  refine PE.imp (pe_callB call_isi (gl_of ft.sc hg) (ft.bi _ (by decide +kernel)) (by decide +kernel) pa (by decide) (by decide) (star_cons hv) rfl) fun σ H Q q => ?_
  obtain ⟨ρ, S, s, at_, q⟩ := q
  rw [evE] at q
  obtain ⟨ρ', S', s', a', q'⟩ := tE_step at_ q
  refine ⟨ρ', S', s', a', q'.imp fun x H1 ⟨d, ρ1, S1, a1, e1, p1, q1⟩ => ?_⟩
  unfold isiD at q1
  split at q1
  · rename_i b hb
    obtain ⟨nm, n1, n2⟩ := Option.bind_eq_some_iff.mp hb
    exact ⟨x, .ty t, .type nm, .type t, b, rfl, by constructor, ty_of a1.rel p1 n1, kit_ty n2, q1 _ ρ1 H1 .refl a1.rel rfl⟩
  · exact q1.elim
/-! ### max with a default -/
theorem reads_ints {h : Heap} : ∀ {vs : List Value} {ns : List Int}, IntsAre vs ns → ReadsAll h vs (ns.map PyData.int) []
  | _, _, .nil => .nil
  | _, _, .cons n t r => .cons (as := []) (bs := []) (.int n t) (reads_ints r)
theorem depth_ints : ∀ ns : List Int, PyData.depthAll (ns.map PyData.int) = 0
  | [] => by rw [List.map_nil, PyData.depthAll]
  | n :: r => by rw [List.map_cons, PyData.depthAll, PyData.depth, depth_ints r]; rfl
def rMxd (K : PySem.W.Frag) (k : Int) : List V → List V → Hp → VK → Prop := fun vs zs H Q => ∃ (a : Addr) (ns : List Int), vs = [V.ref a] ∧ zs = [.int k] ∧ SqL K H a (ns.map V.int) ∧ match ns with
  | [] => Q (.int k) H
  | n :: r => Q (.int (r.foldl max n)) H
theorem cr_mxd (hc : X.calm = true) (hu : X.A.units + 100 < cLine) (k : Int) : CallRK X (.builtin "max") ["default"] (rMxd X.K k) := by
  intro pins s σ H vs zs us ws Q I rv rz h
  obtain ⟨a, ns, rfl, rfl, hs, q⟩ := h
  obtain rfl := Vals.ref1 rv
  obtain ⟨w1, rfl, t, rfl⟩ := vals1 rz
  obtain ⟨its, rvs, hl, _⟩ := I.list hs
  have hr : ReadsAll s.heap its.toArray.toList (ns.map PyData.int) [] := by
    rw [List.toList_toArray]
    exact reads_ints rvs.ints
  have al : PySem.W.AlikeAll (ns.map PyData.int) := by
    constructor
    · intro x hx y hy
      obtain ⟨i, _, rfl⟩ := List.mem_map.mp hx
      obtain ⟨j, _, rfl⟩ := List.mem_map.mp hy
      rfl
    · intro x hx
      obtain ⟨i, _, rfl⟩ := List.mem_map.mp hx
      exact fun z => nomatch z
  refine PySem.W.max_list_default (I.ok.hd hc) hl.isList hr al (by rw [depth_ints]; omega) (fun e h' tk hk => ?_) fun y ys i v h' tk bs e hi rd hk => ?_
  · have : ns = [] := List.map_eq_nil_iff.mp e
    subst this
    exact ⟨.int k, H, I.kept hk, ⟨t, rfl⟩, q⟩
  · cases ns with
    | nil => cases e
    | cons n r =>
      obtain ⟨e1, e2⟩ := List.cons.inj e
      subst e1
      subst e2
      rw [PySem.W.maxD_ints] at rd
      cases rd with
      | int _ t' => exact ⟨.int (r.foldl max n), H, I.kept hk, ⟨t', rfl⟩, q⟩
theorem s_mxd {C : Cxt} {n : Nat} {a : CE} {k : Int} {e : Expr} {p p2 p3 pos : Pos} {j : Nat} (ft : FitE C ca n R X W) (hg : glB C.sc "max" = true) (ha : PA X [e] (tA (kx X ca) W (evEs R [a]))) (hs : noStar e = true) :
    PE X (.Call (.Name "max" p) [e] [⟨some "default", .Constant (.int k) j p2, p3⟩] pos) (tE (kx X ca) W (evE R (.mxd a k))) := by
  refine PE.imp (pe_callBK (ks := ["default"]) (cr_mxd ft.calm ft.units k) (gl_of ft.sc hg) (ft.bi _ (by decide +kernel)) (boots .max) ha (pk_cons pe_int pk_nil) (by decide +kernel) (by decide +kernel) (by rw [star_cons hs]; rfl) (by rw [star_cons hs]; rfl) rfl rfl rfl) fun σ H Q q => ?_
  obtain ⟨ρ, S, s, at_, q⟩ := q
  rw [evE] at q
  refine ⟨ρ, S, s, at_, ?_⟩
  simp only [evEs]
  cases em : evE R a s S with
  | bad => rw [em] at q; exact q.elim
  | ex c fs S1 => rw [em] at q; exact q
  | ok d S1 =>
    rw [em, bind_ok] at q
    rw [bind_ok, bind_ok]
    intro vs ρ1 H1 e1 r1 p1
    obtain ⟨v, w, rfl, p1, rfl⟩ := p1
    unfold mxD at q
    split at q
    · rename_i xs hl
      obtain ⟨b, ws, rfl, l1, l2⟩ := lv_list r1 p1 hl
      split at q
      · rename_i hi
        obtain rfl := ints_of hi l2
        exact ⟨b, [], rfl, rfl, l1.sq, q (.int k) ρ1 H1 e1 r1 rfl⟩
      · rename_i n r hi
        obtain rfl := ints_of hi l2
        exact ⟨b, n :: r, rfl, rfl, l1.sq, q _ ρ1 H1 e1 r1 rfl⟩
      · exact q.elim
    · exact q.elim
end
end Cr
set_option Elab.async false
set_option linter.all false
set_option maxHeartbeats 4000000
set_option maxRecDepth 10000
/-! Cr15: dict displays. -/
namespace Cr
open PySem L2 PyProof.Rows
section
variable {K : PySem.W.Frag} {ca : Nat → Addr} {ρ ρ' : Lo} {H H' : Hp} {S : Sto}
/-- out of a blocked address' time -/
theorem Ext.unb {p : Addr} {o : HO} (hp : H p = none) (e : Ext (ρ.blk p) (upd H p o) ρ' H') : Ext ρ H ρ'.unb H' := by
  obtain ⟨τ, rfl, h⟩ := e.pre
  refine ⟨⟨τ, rfl, fun a ha => ?_⟩, fun a u ha hu => e.old a u ha (by rw [upd_ne (ne_of_none hu hp)]; exact hu), fun a ha => e.som a ?_⟩
  · have h2 := h a ha
    by_cases q : a = p
    · rw [q]; exact hp
    · rw [upd_ne q] at h2; exact h2
  · by_cases q : a = p
    · rw [q, upd_same]; exact fun z => nomatch z
    · rw [upd_ne q]; exact ha
/-- pairs and their values in the heap -/
structure KR (K : PySem.W.Frag) (ρ : Lo) (H : Hp) (ks : List (Key × D)) (vs : List (Key × V)) : Prop where
  key : vs.map (·.1) = ks.map (·.1)
  val : Reps K ρ H (ks.map (·.2)) (vs.map (·.2))
theorem KR.cons {p : Key × D} {ks : List (Key × D)} {q : Key × V} {vs : List (Key × V)} (h1 : q.1 = p.1) (h2 : Rep K ρ H p.2 q.2) (h : KR K ρ H ks vs) : KR K ρ H (p :: ks) (q :: vs) :=
  ⟨by simp only [List.map_cons]; rw [h1, h.key], ⟨q.2, vs.map (·.2), rfl, h2, h.val⟩⟩
theorem KR.nil : KR K ρ H [] [] := ⟨rfl, rfl⟩
theorem KR.uncons {p : Key × D} {ks : List (Key × D)} {vs : List (Key × V)} (h : KR K ρ H (p :: ks) vs) : ∃ q t, vs = q :: t ∧ q.1 = p.1 ∧ Rep K ρ H p.2 q.2 ∧ KR K ρ H ks t := by
  cases vs with
  | nil => have := h.key; cases this
  | cons q t =>
    have e := List.cons.inj h.key
    obtain ⟨v, w, e2, h2, h3⟩ := h.val
    have e3 := List.cons.inj e2
    have e4 : q.2 = v := e3.1
    exact ⟨q, t, rfl, e.1, by rw [e4]; exact h2, ⟨e.2, by rw [e3.2]; exact h3⟩⟩
theorem KR.nil_of {vs : List (Key × V)} (h : KR K ρ H [] vs) : vs = [] := by
  have := h.key
  simpa using this
theorem KR.any (h : KR K ρ H ks vs) (k : Key) : vs.any (fun kv => decide (kv.1 = k)) = ks.any fun kv => decide (kv.1 = k) := by
  have e : ∀ {α : Type} (l : List (Key × α)), l.any (fun kv => decide (kv.1 = k)) = (l.map (·.1)).any fun x => decide (x = k) := fun l => by rw [List.any_map]; rfl
  rw [e, e, h.key]
theorem KR.len (h : KR K ρ H ks vs) : vs.length = ks.length := by
  have := congrArg List.length h.key
  simpa using this
theorem KR.mapPut {k : Key} {d : D} {v : V} (hd : Rep K ρ H d v) : ∀ {ks : List (Key × D)} {vs : List (Key × V)}, KR K ρ H ks vs → KR K ρ H (ks.map fun p => if p.1 = k then (k, d) else p) (vs.map fun kv => if kv.1 = k then (kv.1, v) else kv)
  | [], vs, h => by rw [h.nil_of]; exact .nil
  | p :: ks, vs, h => by
    obtain ⟨q, t, rfl, h1, h2, h3⟩ := h.uncons
    rw [List.map_cons, List.map_cons]
    by_cases c : p.1 = k
    · rw [if_pos c, if_pos (h1.trans c)]
      exact .cons (h1.trans c) hd (h3.mapPut hd)
    · rw [if_neg c, if_neg fun z => c (h1.symm.trans z)]
      exact .cons h1 h2 (h3.mapPut hd)
theorem KR.app {ks ks2 : List (Key × D)} {vs vs2 : List (Key × V)} (h : KR K ρ H ks vs) (h2 : KR K ρ H ks2 vs2) : KR K ρ H (ks ++ ks2) (vs ++ vs2) :=
  ⟨by simp [h.key, h2.key], by rw [List.map_append, List.map_append]; exact h.val.append h2.val⟩
theorem KR.put {k : Key} {d : D} {v : V} {ks : List (Key × D)} {vs : List (Key × V)} (h : KR K ρ H ks vs) (hd : Rep K ρ H d v) : KR K ρ H (Cr.putK ks k d) (L2.putK vs k v) := by
  unfold Cr.putK L2.putK
  rw [h.any]
  split
  · exact h.mapPut hd
  · exact h.app (.cons rfl hd .nil)
theorem KR.merge : ∀ {more : List (Key × D)} {mv : List (Key × V)} {ks : List (Key × D)} {vs : List (Key × V)}, KR K ρ H more mv → KR K ρ H ks vs → KR K ρ H (mergeD ks more) (mergeK vs mv)
  | [], mv, ks, vs, h, h2 => by rw [h.nil_of]; exact h2
  | p :: more, mv, ks, vs, h, h2 => by
    obtain ⟨q, t, rfl, a1, a2, a3⟩ := h.uncons
    show KR K ρ H (mergeD (Cr.putK ks p.1 p.2) more) (mergeK (L2.putK vs q.1 q.2) t)
    rw [a1]
    exact KR.merge a3 (h2.put a2)
theorem nd_putD {k : Key} {d : D} {ks : List (Key × D)} (h : (ks.map (·.1)).Nodup) : ((Cr.putK ks k d).map (·.1)).Nodup := by
  unfold Cr.putK
  split
  · have e : (ks.map fun p => if p.1 = k then (k, d) else p).map (·.1) = ks.map (·.1) := by
      rw [List.map_map]
      apply List.map_congr_left
      intro p _
      show (if p.1 = k then (k, d) else p).1 = p.1
      split
      · rename_i c; exact c.symm
      · rfl
    rw [e]; exact h
  · rename_i c
    rw [List.map_append, List.nodup_append]
    refine ⟨h, by simp, fun a ha b hb => ?_⟩
    have hb : b = k := by simpa using hb
    rintro rfl
    apply c
    obtain ⟨p, hp, rfl⟩ := List.mem_map.mp ha
    exact List.any_eq_true.mpr ⟨p, hp, by simp [hb]⟩
theorem nd_mergeD : ∀ {more ks : List (Key × D)}, (ks.map (·.1)).Nodup → ((mergeD ks more).map (·.1)).Nodup
  | [], ks, h => h
  | p :: more, ks, h => by
    show ((mergeD (Cr.putK ks p.1 p.2) more).map (·.1)).Nodup
    exact nd_mergeD (nd_putD h)
/-- written pairs -/
def flatP : List (V × V) → List V
  | [] => []
  | (a, b) :: r => a :: b :: flatP r
theorem pairs_rep : ∀ {ds : List D} {ks : List (Key × D)} {ps : List (V × V)}, pairsOf ds = some ks → Reps K ρ H ds (flatP ps) → ∃ vs : List (Key × V), ps = vs.map (fun kv => (kV kv.1, kv.2)) ∧ KR K ρ H ks vs
  | [], ks, ps, e, h => by
    cases e
    cases ps with
    | nil => exact ⟨[], rfl, .nil⟩
    | cons p r => cases (show flatP (p :: r) = [] from h)
  | [d], ks, ps, e, h => by cases e
  | k :: d :: r, ks, ps, e, h => by
    obtain ⟨key, k1, k2⟩ := Option.bind_eq_some_iff.mp (show (keyOf k).bind _ = some ks from e)
    obtain ⟨t, t1, rfl⟩ := Option.map_eq_some_iff.mp k2
    obtain ⟨v, w, e1, h1, v2, w2, e2, h2, h3⟩ := h
    cases ps with
    | nil => cases e1
    | cons p ps =>
      obtain ⟨a, b⟩ := p
      have e1 : a :: b :: flatP ps = v :: w := e1
      have f1 := List.cons.inj e1
      have f2 := List.cons.inj (f1.2.trans e2)
      rw [← f1.1] at h1
      rw [← f2.1] at h2
      rw [← f2.2] at h3
      obtain ⟨vs, rfl, q⟩ := pairs_rep t1 h3
      refine ⟨(key, b) :: vs, ?_, .cons rfl h2 q⟩
      have ek : a = kV key := by
        cases k with
        | int i => cases k1; exact h1
        | str x => cases k1; exact h1
        | _ => cases k1
      rw [ek]; rfl
end
section
variable {X : Cx} {ca : Nat → Addr} {W : WX} {R : Nat → List D → Sto → Out D} {ρ : Lo} {S : Sto} {H : Hp}
def trsOf (k : Kx) (W : WX) (R : Nat → List D → Sto → Out D) : List CE → List (TE × TE)
  | a :: b :: r => (tE k W (evE R a), tE k W (evE R b)) :: trsOf k W R r
  | _ => []
theorem pairs_run {k : Kx} {σ : L2.St} {s : Fr} {C : Cxt} : ∀ {xs : List CE} {ks : List (Option Expr)} {vs : List Expr} {ρ : Lo} {S : Sto} {H : Hp} {Q : List (V × V) → Hp → Prop}, chkP C xs ks vs = true → At k ρ S s σ H → postA k W σ ρ H (evEs R xs s S) (fun ws H => ∀ ps, flatP ps = ws → Q ps H) → tPairs (trsOf k W R xs) σ H Q
  | [], ks, vs, ρ, S, H, Q, hc, a, h => by
    rw [evEs] at h
    exact h [] ρ H .refl a.rel rfl [] rfl
  | [x], ks, vs, ρ, S, H, Q, hc, a, h => by
    cases ks with
    | nil => simp [chkP] at hc
    | cons k' ks' => cases k' <;> cases vs <;> simp [chkP] at hc
  | x :: y :: r, ks, vs, ρ, S, H, Q, hc, a, h => by
    have hc' : ∃ ks' vs', chkP C r ks' vs' = true := by
      cases ks with
      | nil => simp [chkP] at hc
      | cons k' ks' =>
        cases k' with
        | none => simp [chkP] at hc
        | some k' =>
          cases vs with
          | nil => simp [chkP] at hc
          | cons v' vs' =>
            simp only [chkP, Bool.and_eq_true] at hc
            exact ⟨ks', vs', hc.2⟩
    obtain ⟨ks', vs', hc'⟩ := hc'
    rw [evEs] at h
    obtain ⟨ρ', S', s', a', q'⟩ := tE_step a h
    refine ⟨ρ', S', s', a', q'.imp fun v H1 ⟨d, ρ1, S1, a1, e1, p1, q1⟩ => ?_⟩
    rw [evEs] at q1
    have e : ((evE R y s S1).bind fun x S2 => (evEs R r s S2).bind fun xs S3 => Out.ok (x :: xs) S3).bind (fun xs S2 => Out.ok (d :: xs) S2) = (evE R y s S1).bind fun x S2 => (evEs R r s S2).bind fun xs S3 => Out.ok (d :: x :: xs) S3 := by
      cases evE R y s S1 with
      | bad => rfl
      | ex c fs S2 => rfl
      | ok x S2 =>
        rw [bind_ok, bind_ok]
        cases evEs R r s S2 <;> rfl
    rw [e] at q1
    obtain ⟨ρ2, S2, s2, a2, q2⟩ := tE_step a1 q1
    refine ⟨ρ2, S2, s2, a2, q2.imp fun w H2 ⟨d2, ρ3, S3, a3, e3, p3, q3⟩ => ?_⟩
    refine pairs_run (Q := fun ps H3 => Q ((v, w) :: ps) H3) hc' a3 ?_
    cases er : evEs R r s S3 with
    | bad => rw [er] at q3; exact q3
    | ex c fs S4 => rw [er] at q3; exact q3
    | ok ds S4 =>
      rw [er, bind_ok] at q3
      intro vs ρ4 H4 e4 r4 p4 ps hps
      exact q3 (v :: w :: vs) ρ4 H4 e4 r4 ⟨v, w :: vs, rfl, Rep.ext (e3.trans e4) _ _ p1, w, vs, rfl, Rep.ext e4 _ _ p3, p4⟩ _ (by rw [← hps]; rfl)
theorem s_dsp {C : Cxt} {xs : List CE} {ks : List (Option Expr)} {vs : List Expr} {pos : Pos} (h : PPs X pos ks vs (trsOf (kx X ca) W R xs)) (hc : chkP C xs ks vs = true) (hall : ks.all (·.isSome) = true) (hl : ks.length = vs.length) (h0 : ks ≠ []) (h15 : ks.length ≤ 15) :
    PE X (.Dict ks vs pos) (tE (kx X ca) W (evE R (.dsp xs))) := by
  refine PE.imp (pe_disp h hall hl h0 h15) fun σ H Q q => ?_
  obtain ⟨ρ, S, s, at_, q⟩ := q
  rw [evE] at q
  intro p hp
  have a2 : At (kx X ca) (ρ.blk p) S s σ (upd H p (.dK [])) := ⟨at_.rel.blk hp, at_.fr.mv (.blk hp)⟩
  refine pairs_run hc a2 ?_
  cases em : evEs R xs s S with
  | bad => rw [em] at q; exact q
  | ex c fs S1 =>
    rw [em] at q
    intro ρ1 H1 cls d e1 r1 ⟨dx, fs', x1, x2, x3, x4, x5⟩
    exact q ρ1.unb H1 cls d (e1.unb hp) r1.unb ⟨dx, fs', x1, x2, x3, x4, Reps.mv .unb _ _ x5⟩
  | ok ds S1 =>
    rw [em, bind_ok] at q
    intro ws ρ1 H1 e1 r1 p1 ps hps
    have hb : ρ1.bl = p :: ρ.bl := by
      obtain ⟨τ, hτ, _⟩ := e1.pre
      rw [hτ]; rfl
    have hpb : p ∈ ρ1.bl := by rw [hb]; exact List.mem_cons_self
    have hp1 : H1 p = some (.dK []) := e1.old p _ (at_.rel.notin hp).1 upd_same
    refine ⟨hp1, ?_⟩
    unfold mkD at q
    split at q
    · rename_i kd hk
      split at q
      · rename_i hz
        obtain ⟨kv, k1, k2⟩ := pairs_rep hk (by rw [hps]; exact p1)
        refine ⟨kv, k1, by rw [k2.len]; exact hz, ?_⟩
        have k3 := KR.merge k2 (KR.nil (K := X.K) (ρ := ρ1) (H := H1))
        have e2 := e1.unb hp
        have hub : ρ1.unb.bl = ρ.bl := by
          show ρ1.bl.tail = _
          rw [hb]; rfl
        obtain ⟨τ, hτ, g1⟩ := e2.pre
        have hτ : ρ1.ls = ρ.ls ++ τ := congrArg Lo.ls hτ
        have mv : Mv ρ1 H1 (ρ1.unb.add p) (upd H1 p (.dK (mergeK [] kv))) := ⟨fun b u ho hr => ?_, fun n b hn => ?_⟩
        · refine q _ (ρ1.unb.add p) _ ⟨⟨τ ++ [p], ?_, fun b hb => ?_⟩, fun b o g2 g3 => ?_, fun b g2 => ?_⟩ ⟨?_, ?_, fun n b o g2 g3 => ?_, fun b g2 => ?_⟩ (show Rep X.K (ρ1.unb.add p) _ (Cr.loc S1.length) (.ref p) from ⟨S1.length, p, rfl, ?_, rfl⟩)
          · show (⟨ρ1.ls ++ [p], ρ1.unb.bl⟩ : Lo) = _
            rw [hτ, hub, List.append_assoc]
          · rcases List.mem_append.mp hb with q | q
            · exact g1 b q
            · rw [List.mem_singleton.mp q]; exact hp
          · rw [upd_ne (ne_of_none g3 hp)]; exact e2.old b o g2 g3
          · by_cases z : b = p
            · rw [z, upd_same]; exact fun z => nomatch z
            · rw [upd_ne z]; exact e2.som b g2
          · show (ρ1.ls ++ [p]).Nodup
            rw [List.nodup_append]
            exact ⟨r1.nd, by simp, fun b hb' c hc => by rw [List.mem_singleton.mp hc]; rintro rfl; exact (r1.bl _ hpb).1 hb'⟩
          · show (ρ1.ls ++ [p]).length = _
            simp [r1.ln]
          · have g2 : (ρ1.ls ++ [p])[n]? = some b := g2
            by_cases hn : n < ρ1.ls.length
            · rw [List.getElem?_append_left hn] at g2
              rw [List.getElem?_append_left (by rw [← r1.ln]; exact hn)] at g3
              exact (r1.ob n b o g2 g3).mv mv (upd_ne fun z => (r1.bl p hpb).1 (z ▸ List.mem_of_getElem? g2))
            · have hl := r1.ln
              rw [List.getElem?_append_right (by omega)] at g2 g3
              have e0 : n - ρ1.ls.length = 0 := by
                cases q : n - ρ1.ls.length with
                | zero => rfl
                | succ j => rw [q] at g2; simp at g2
              rw [e0] at g2
              rw [← r1.ln, e0] at g3
              simp at g2 g3
              subst g2; subst g3
              exact ⟨_, upd_same, k3.key, nd_mergeD List.nodup_nil, Reps.mv mv _ _ k3.val⟩
          · have g2 : b ∈ ρ.bl := by rw [← hub]; exact g2
            have hb2 := r1.bl b (by rw [hb]; exact List.mem_cons_of_mem _ g2)
            have hbp : b ≠ p := fun z => (at_.rel.bl b g2).2 (by rw [z]; exact hp)
            refine ⟨fun q => ?_, by rw [upd_ne hbp]; exact hb2.2⟩
            rcases List.mem_append.mp q with q | q
            · exact hb2.1 q
            · exact hbp (List.mem_singleton.mp q)
          · show (ρ1.ls ++ [p])[S1.length]? = some p
            rw [← r1.ln]
            simp
        · have hbp : b ≠ p := fun z => ho.2 (by rw [z]; exact hpb)
          refine ⟨⟨fun q => ?_, fun q => ho.2 (List.mem_of_mem_tail q)⟩, ?_⟩
          · rcases List.mem_append.mp q with q | q
            · exact ho.1 q
            · exact hbp (List.mem_singleton.mp q)
          · rcases hr with hr | ⟨z, hr⟩
            · exact .inl (by rw [upd_ne hbp]; exact hr)
            · exact .inr ⟨z, by rw [upd_ne hbp]; exact hr⟩
        · show (ρ1.ls ++ [p])[n]? = some b
          rw [List.getElem?_append_left (List.getElem?_eq_some_iff.mp hn).1]
          exact hn
      · exact q.elim
    · exact q.elim
end
end Cr
set_option Elab.async false
set_option linter.all false
set_option maxHeartbeats 8000000
set_option maxRecDepth 10000
/-! Cr16: expressions are sound. -/
namespace Cr
open PySem L2 PyProof.Rows
section
variable {ca : Nat → Addr} {R : Nat → List D → Sto → Out D} {n : Nat}
theorem plainIx {e : Expr} (h : ∀ l h p, e ≠ .Slice l h none p) : PlainIx e := by
  intro o i
  cases e <;> first
    | rfl
    | skip
  rename_i l hh st p
  cases st with
  | none => exact absurd rfl (h l hh p)
  | some st => rfl
theorem chk_noSlice {C : Cxt} {c : CE} {e : Expr} (h : chkE C c e = true) : ∀ l h p, e ≠ .Slice l h none p := by
  rintro l hh p rfl
  cases c <;> simp [chkE] at h
theorem chk_noSet {C : Cxt} {c : CE} {e : Expr} (h : chkE C c e = true) (env : Env) (v : Value) : foldedSetIterable e env v = pure v := by
  cases e <;> first
    | rfl
    | (cases c <;> simp [chkE] at h; done)
theorem lc_tests {X : Cx} {C : Cxt} {W : WX} {ifs : List CE} {fs : List Expr} (hl : ifs.length ≤ 1) (hc : chkEs C ifs fs = true) (ih : ∀ c e, ifs = [c] → chkE C c e = true → PT X e (tT (kx X ca) W (evE R c))) :
    PTs X fs (fun σ H Q => ∃ ρ S s, At (kx X ca) ρ S s σ H ∧ postB (kx X ca) W σ ρ H (evT R ifs s S) Q) := by
  cases ifs with
  | nil =>
    cases fs with
    | cons _ _ => simp [chkEs] at hc
    | nil =>
      refine ⟨fun pins s σ H Q I q => pts_nil.run pins s σ H Q I ?_⟩
      obtain ⟨ρ, S, f, a, q⟩ := q
      rw [evT] at q
      exact q true ρ H .refl a.rel rfl
  | cons c r =>
    cases r with
    | cons _ _ => simp at hl
    | nil =>
      cases fs with
      | nil => simp [chkEs] at hc
      | cons e es =>
        cases es with
        | cons _ _ => simp [chkEs] at hc
        | nil =>
          simp only [chkEs, Bool.and_true] at hc
          refine ⟨fun pins s σ H Q I q => (pts_one (ih c e rfl hc)).run pins s σ H Q I ?_⟩
          obtain ⟨ρ, S, f, a, q⟩ := q
          rw [evT] at q
          refine ⟨ρ, S, f, a, ?_⟩
          cases em : evE R c f S with
          | bad => rw [em] at q; exact q
          | ex c fs S1 => rw [em] at q; exact q
          | ok d S1 =>
            rw [em, bind_ok] at q
            cases d with
            | bool b =>
              intro v ρ1 H1 e1 r1 p1
              cases p1
              cases b with
              | true =>
                rw [onB_true, evT] at q
                exact q true ρ1 H1 e1 r1 rfl
              | false =>
                rw [onB_false] at q
                exact q false ρ1 H1 e1 r1 rfl
            | _ => exact q.elim
theorem lc_name {X : Cx} {C : Cxt} {W : WX} {tg : Nat} {x : Str} {scope : Scope} {p : Pos} (f : FitE C ca n R X W) (hN : C.N[tg]? = some x) (ho : ownB scope C.sc x = true) (s : Shared) (H : Hp) (D : Addr) (cl : List (Str × Addr)) (fp : List Addr) :
    PG (X.blk s H scope (compEnvC scope cl D X.env) fp) (.Name x p) (gName tg) := by
  have e : (compEnvC scope cl D X.env).scope = relS scope C.sc := by rw [← f.sc]; rfl
  unfold ownB at ho
  refine pg_name (X := X.blk s H scope (compEnvC scope cl D X.env) fp) f.nd (by show X.N[tg]? = some x; rw [f.N]; exact hN) ?_ ?_
  · show Loc (compEnvC scope cl D X.env).scope x
    rw [e]
    split at ho
    · rename_i q; exact .inl q
    · rename_i q; exact .inr q
    · cases ho
  · split at ho
    · rename_i q
      exact .inr (by show (compEnvC scope cl D X.env).scope.names.lookup x = _; rw [e]; exact q)
    · rename_i q
      refine .inl ?_
      show (scope.names.lookup x == some NameKind.cell) = true
      rw [of_decide_eq_true ho]
      rfl
    · cases ho
theorem chkP_some {C : Cxt} : ∀ {xs : List CE} {ks : List (Option Expr)} {vs : List Expr}, chkP C xs ks vs = true → ks.all (·.isSome) = true
  | xs, [], vs, h => rfl
  | [], none :: ks, vs, h => by simp [chkP] at h
  | [], some k :: ks, vs, h => by simp [chkP] at h
  | [x], k :: ks, vs, h => by cases k <;> cases vs <;> simp [chkP] at h
  | x :: y :: r, none :: ks, vs, h => by cases vs <;> simp [chkP] at h
  | x :: y :: r, some k :: ks, [], h => by simp [chkP] at h
  | x :: y :: r, some k :: ks, v :: vs, h => by
    simp only [chkP, Bool.and_eq_true] at h
    simp [chkP_some h.2]
theorem pi_rg {X : Cx} {C : Cxt} {W : WX} {rg : List CE} {es : List Expr} {tg : Expr} {p pos : Pos} (f : FitE C ca n R X W) (hg : glB C.sc "range" = true) (hl : rg.length = 1 ∨ rg.length = 2) (hc : chkEs C rg es = true) (ha : PA X es (tA (kx X ca) W (evEs R rg))) :
    PI X tg (.Call (.Name "range" p) es [] pos) (tI (kx X ca) W fun s S => (evEs R rg s S).bind fun x S1 => rangeD x S1) := by
  have g := gl_of f.sc hg
  have m := f.bi "range" (by decide +kernel)
  have le := chkEs_len hc
  match es, le, ha, hc with
  | [], le, ha, hc => rw [← le] at hl; simp at hl
  | [a], le, ha, hc =>
    cases rg with
    | nil => cases le
    | cons c r =>
      simp only [chkEs, Bool.and_eq_true] at hc
      exact pi_rng1 g m ha (star_cons (chk_ns hc.1)) fun s S ds S' h => (evEs_len h).trans le.symm
  | [a, b], le, ha, hc =>
    match rg, hc, le with
    | [c, d], hc, le =>
      simp only [chkEs, Bool.and_eq_true] at hc
      have s2 := star_cons (env := X.env) (es := []) (chk_ns hc.2.1)
      exact pi_rng2 g m ha (by rw [star_cons (chk_ns hc.1), s2]; rfl) s2 fun s S ds S' h => (evEs_len h).trans le.symm
  | a :: b :: c :: r, le, ha, hc => rw [← le] at hl; simp at hl
theorem s_mth {X : Cx} {C : Cxt} {W : WX} {m : Mt} {o : CE} {xs : List CE} {es : List Expr} {v : Expr} {nm : Str} {apos cpos : Pos} (f : FitE C ca n R X W) (hn : nm = mtN m) (hb : abB v = true) (hl : (apos.endLine == cpos.line) = true) (ho : PE X v (tE (kx X ca) W (evE R o)))
    (hm : mthB m xs.length = true) (ha : PA X es (tA (kx X ca) W (evEs R xs))) (hc : chkEs C xs es = true) : PE X (.Call (.Attribute v nm apos) es [] cpos) (tE (kx X ca) W (evE R (.mth m o xs))) := by
  have le := chkEs_len hc
  cases m with
  | append =>
    match xs, hm, es, le, ha, hc with
    | [a], _, [e], _, ha, hc =>
      simp only [chkEs, Bool.and_true] at hc
      exact s_mth1 hn (by decide) (by decide) PySem.F.slot_list_append PySem.F.type_list_append (append_ok (ca := ca)) ho ha hb hl (chk_ns hc)
  | pop0 =>
    match xs, hm, es, le, ha, hc with
    | [], _, [], _, ha, hc => exact s_mth0 hn (by decide) (by decide) PySem.F.slot_list_pop PySem.F.type_list_pop (pop_ok (ca := ca) (.inl rfl)) ho hb hl
  | popAt =>
    match xs, hm, es, le, ha, hc with
    | [a], _, [e], _, ha, hc =>
      simp only [chkEs, Bool.and_true] at hc
      exact s_mth1 hn (by decide) (by decide) PySem.F.slot_list_pop PySem.F.type_list_pop (pop_ok (ca := ca) (.inr rfl)) ho ha hb hl (chk_ns hc)
  | join => cases hm
  | replace => cases hm
mutual
theorem sndE : ∀ (c : CE) {C : Cxt} {e : Expr} {X : Cx} {W : WX}, chkE C c e = true → FitE C ca n R X W → PE X e (tE (kx X ca) W (evE R c)) ∧ PT X e (tT (kx X ca) W (evE R c))
  | .var i, C, e, X, W, h, f => by
    unfold chkE at h
    split at h <;> try contradiction
    rename_i i' x p heq
    cases heq
    simp only [Bool.and_eq_true, decide_eq_true_eq, Bool.not_eq_true', Bool.not_eq_eq_eq_not] at h
    have := s_var (p := p) f h.1.1.1 h.1.1.2 h.1.2 h.2
    exact ⟨this, tT_val this fun _ => rfl⟩
  | .con d, C, e, X, W, h, f => by
    unfold chkE at h
    split at h <;> try contradiction
    · rename_i heq
      cases heq
      exact ⟨s_con h, tT_val (s_con h) fun _ => rfl⟩
    · rename_i heq
      cases heq
      simp only [Bool.and_eq_true, Bool.not_eq_true', Bool.not_eq_eq_eq_not] at h
      have t := fun p => s_glb (pos := p) f h.1.1 h.1.2 h.2
      exact ⟨t _, tT_val (t _) fun _ => rfl⟩
  | .glb g, C, e, X, W, h, f => by
    cases e <;> simp [chkE] at h
  | .bop op a b, C, e, X, W, h, f => by
    unfold chkE at h
    split at h <;> try contradiction
    rename_i heq
    cases heq
    simp only [Bool.and_eq_true, decide_eq_true_eq] at h
    obtain ⟨⟨rfl, h1⟩, h2⟩ := h
    have t := fun p => s_bop (pos := p) (op := op) (sndE a h1 f).1 (sndE b h2 f).1
    exact ⟨t _, tT_val (t _) fun _ => rfl⟩
  | .cmp op a b, C, e, X, W, h, f => by
    unfold chkE at h
    split at h <;> try contradiction
    rename_i heq
    cases heq
    simp only [Bool.and_eq_true, decide_eq_true_eq, Bool.not_eq_true', Bool.not_eq_eq_eq_not] at h
    obtain ⟨⟨⟨rfl, h0⟩, h1⟩, h2⟩ := h
    exact ⟨s_cmp f.units (sndE a h1 f).1 (sndE b h2 f).1 h0, t_cmp f.units (sndE a h1 f).1 (sndE b h2 f).1 h0⟩
  | .chn o1 o2 a b c, C, e, X, W, h, f => by
    unfold chkE at h
    split at h <;> try contradiction
    rename_i heq
    cases heq
    simp only [Bool.and_eq_true, decide_eq_true_eq, Bool.not_eq_true', Bool.not_eq_eq_eq_not] at h
    obtain ⟨⟨⟨⟨⟨rfl, rfl⟩, h0⟩, h1⟩, h2⟩, h3⟩ := h
    exact ⟨s_chn f.units (sndE a h1 f).1 (sndE b h2 f).1 (sndE c h3 f).1 h0, t_chn f.units (sndE a h1 f).1 (sndE b h2 f).1 (sndE c h3 f).1 h0⟩
  | .and a b, C, e, X, W, h, f => by
    unfold chkE at h
    split at h <;> try contradiction
    rename_i x y rest pos heq
    cases heq
    rw [Bool.and_eq_true] at h
    have ha := sndE a h.1 f
    have hb : PE X (.BoolOp .And (y :: rest) pos) (tE (kx X ca) W (evE R b)) ∧ PW X (.BoolOp .And (y :: rest) pos) (tT (kx X ca) W (evE R b)) := by
      cases rest with
      | nil =>
        have hb := sndE b h.2 f
        exact ⟨pe_one hb.1, pw_and1 hb.2⟩
      | cons z t =>
        have hb := sndE b h.2 f
        exact ⟨hb.1, pw_pt hb.2⟩
    exact ⟨s_and ha.1 hb.1, t_and ha.2 hb.2⟩
  | .or a b, C, e, X, W, h, f => by
    unfold chkE at h
    split at h <;> try contradiction
    rename_i x y rest pos heq
    cases heq
    rw [Bool.and_eq_true] at h
    have ha := sndE a h.1 f
    have hb : PE X (.BoolOp .Or (y :: rest) pos) (tE (kx X ca) W (evE R b)) ∧ PW X (.BoolOp .Or (y :: rest) pos) (tT (kx X ca) W (evE R b)) := by
      cases rest with
      | nil =>
        have hb := sndE b h.2 f
        exact ⟨pe_one hb.1, pw_or1 hb.2⟩
      | cons z t =>
        have hb := sndE b h.2 f
        exact ⟨hb.1, pw_pt hb.2⟩
    exact ⟨s_or ha.1 hb.1, t_or ha.2 hb.2⟩
  | .not a, C, e, X, W, h, f => by
    unfold chkE at h
    split at h <;> try contradiction
    rename_i heq
    cases heq
    have ha := sndE a h f
    exact ⟨s_not ha.1, t_not ha.2⟩
  | .neg a, C, e, X, W, h, f => by
    unfold chkE at h
    split at h <;> try contradiction
    rename_i heq
    cases heq
    have t := fun p => s_neg (pos := p) (sndE a h f).1
    exact ⟨t _, tT_val (t _) fun _ => rfl⟩
  | .ite c a b, C, e, X, W, h, f => by
    unfold chkE at h
    split at h <;> try contradiction
    rename_i heq
    cases heq
    simp only [Bool.and_eq_true] at h
    have hc := sndE c h.1.1 f
    have ha := sndE a h.1.2 f
    have hb := sndE b h.2 f
    exact ⟨s_ite hc.2 ha.1 hb.1, t_ite hc.2 ha.2 hb.2⟩
  | .tup xs, C, e, X, W, h, f => by
    unfold chkE at h
    split at h <;> try contradiction
    rename_i heq
    cases heq
    have := fun j p => s_tup (j := j) (pos := p) (sndEs xs h f)
    exact ⟨this _ _, tT_val (this _ _) fun _ => rfl⟩
  | .lst al xs, C, e, X, W, h, f => by
    unfold chkE at h
    split at h <;> try contradiction
    rename_i heq
    cases heq
    have := fun p => s_lst (al := al) (pos := p) (sndEs xs h f)
    exact ⟨this _, tT_val (this _) fun _ => rfl⟩
  | .dsp xs, C, e, X, W, h, f => by
    unfold chkE at h
    split at h <;> try contradiction
    rename_i heq
    cases heq
    simp only [Bool.and_eq_true, decide_eq_true_eq, Bool.not_eq_true', Bool.not_eq_eq_eq_not] at h
    have := fun p => s_dsp (pos := p) (sndP xs h.2 f) h.2 (chkP_some h.2) h.1.2 (by rintro rfl; simp at h) h.1.1.2
    exact ⟨this _, tT_val (this _) fun _ => rfl⟩
  | .lc al tg it ifs elt, C, e, X, W, h, f => by
    unfold chkE at h
    split at h <;> try contradiction
    rename_i e' x p1 iter fs scope p2 heq
    cases heq
    simp only [Bool.and_eq_true, decide_eq_true_eq] at h
    obtain ⟨⟨⟨⟨⟨⟨h1, h2⟩, h3⟩, h4⟩, h5⟩, h6⟩, h7⟩ := h
    have hw := pi_walked (tg := .Name x p1) (sndE it h5 f).1
    have ok := blkOk_by h3
    rw [← f.N, ← f.sc] at ok
    have ht := fun s H D cl fp => lc_tests (X := X.blk s H scope (compEnvC scope cl D X.env) fp) (ca := ca) (R := R) (W := noW) h1 h6 (sndT ifs (f.blk s H scope cl D fp))
    have he := fun s H D cl fp => (sndE elt h7 (f.blk s H scope cl D fp)).1
    have t := lc_sound (pos := p2) (al := al) (tg := tg) f.calm f.nd hw ok (lc_name f h2 h4) ht he (chk_noSet h5 _)
    exact ⟨t, tT_val t fun _ => rfl⟩
  | .lr al tg rg ifs elt, C, e, X, W, h, f => by
    unfold chkE at h
    split at h <;> try contradiction
    rename_i e' x p1 nm p3 args p4 fs scope p2 heq
    cases heq
    simp only [Bool.and_eq_true, Bool.or_eq_true, decide_eq_true_eq] at h
    obtain ⟨⟨⟨⟨⟨⟨⟨⟨⟨h1, h2⟩, h3⟩, h4⟩, rfl⟩, h8⟩, h9⟩, h5⟩, h6⟩, h7⟩ := h
    have hw := pi_rg (p := p3) (pos := p4) (tg := .Name x p1) f h8 h9 h5 (sndEs rg h5 f)
    have ok := blkOk_by h3
    rw [← f.N, ← f.sc] at ok
    have ht := fun s H D cl fp => lc_tests (X := X.blk s H scope (compEnvC scope cl D X.env) fp) (ca := ca) (R := R) (W := noW) h1 h6 (sndT ifs (f.blk s H scope cl D fp))
    have he := fun s H D cl fp => (sndE elt h7 (f.blk s H scope cl D fp)).1
    have t := lc_sound (pos := p2) (al := al) (tg := tg) f.calm f.nd hw ok (lc_name f h2 h4) ht he (fun v => rfl)
    exact ⟨t, tT_val t fun _ => rfl⟩
  | .idx a b, C, e, X, W, h, f => by
    unfold chkE at h
    split at h <;> try contradiction
    rename_i heq
    cases heq
    rw [Bool.and_eq_true] at h
    have t := fun p => s_idx (pos := p) f.units (sndE a h.1 f).1 (sndE b h.2 f).1 (plainIx (chk_noSlice h.2))
    exact ⟨t _, tT_val (t _) fun _ => rfl⟩
  | .sli a lo hi, C, e, X, W, h, f => by
    unfold chkE at h
    split at h <;> try contradiction
    rename_i heq
    cases heq
    simp only [Bool.and_eq_true] at h
    have t := fun p p2 => s_sli (p2 := p2) (pos := p) (sndE a h.1.1 f).1 (sndO lo h.1.2 f) (sndO hi h.2 f)
    exact ⟨t _ _, tT_val (t _ _) fun _ => rfl⟩
  | .call g xs, C, e, X, W, h, f => by
    unfold chkE at h
    split at h <;> try contradiction
    rename_i heq
    cases heq
    simp only [Bool.and_eq_true, decide_eq_true_eq, Bool.not_eq_true', Bool.not_eq_eq_eq_not] at h
    obtain ⟨⟨⟨⟨h1, h0⟩, h2⟩, h3⟩, h4⟩ := h
    have t := fun p p2 => s_call (p := p2) (pos := p) f h1 h0 h2 h3 (sndEs xs h4 f) h4
    exact ⟨t _ _, tT_val (t _ _) fun _ => rfl⟩
  | .blt b xs, C, e, X, W, h, f => by
    unfold chkE at h
    split at h <;> try contradiction
    rename_i heq
    cases heq
    simp only [Bool.and_eq_true, decide_eq_true_eq, Bool.not_eq_true', Bool.not_eq_eq_eq_not] at h
    obtain ⟨⟨⟨rfl, h2⟩, h3⟩, h4⟩ := h
    have t := fun p p2 => s_blt (p := p2) (pos := p) f h2 h3 (sndEs xs h4 f) h4
    exact ⟨t _ _, tT_val (t _ _) fun _ => rfl⟩
  | .mth m o xs, C, e, X, W, h, f => by
    unfold chkE at h
    split at h <;> try contradiction
    rename_i heq
    cases heq
    simp only [Bool.and_eq_true, decide_eq_true_eq] at h
    obtain ⟨⟨⟨⟨⟨h1, h2⟩, h3⟩, h4⟩, h5⟩, h6⟩ := h
    have t := s_mth f h1 h2 h3 (sndE o h4 f).1 h5 (sndEs xs h6 f) h6
    exact ⟨t, tT_val t fun _ => rfl⟩
  | .isi a ty, C, e, X, W, h, f => by
    unfold chkE at h
    split at h <;> try contradiction
    rename_i heq
    cases heq
    simp only [Bool.and_eq_true, Bool.or_eq_true, decide_eq_true_eq, beq_iff_eq] at h
    obtain ⟨⟨⟨⟨⟨rfl, h2⟩, rfl⟩, h4⟩, h5⟩, h6⟩ := h
    have ha := sndE a h5 f
    have t : ∀ p p2 p3, PE X (.Call (.Name "isinstance" p) [_, .Name (Str.ofString ty) p2] [] p3) (tE (kx X ca) W (evE R (.isi a ty))) := fun p p2 p3 => by
      rcases h6 with ((((rfl | rfl) | rfl) | rfl) | rfl) <;> exact s_isi f h2 h4 (by decide +kernel) (by decide +kernel) (by decide +kernel) (by decide +kernel) ha.1 (chk_ns h5)
    exact ⟨t _ _ _, tT_val (t _ _ _) fun _ => rfl⟩
  | .mxd a k, C, e, X, W, h, f => by
    unfold chkE at h
    split at h <;> try contradiction
    rename_i heq
    cases heq
    simp only [Bool.and_eq_true, decide_eq_true_eq] at h
    obtain ⟨⟨⟨⟨rfl, rfl⟩, rfl⟩, h2⟩, h3⟩ := h
    have pa := fun X2 (W2 : WX) (f2 : FitE C ca n R X2 W2) => sa_cons (es := []) (sndE a h3 f2).1 sa_nil (star_cons (chk_ns h3))
    have t := fun p p2 p3 p4 j => s_mxd (k := k) (p := p) (p2 := p2) (p3 := p3) (pos := p4) (j := j) f h2 (pa X W f) (chk_ns h3)
    exact ⟨t _ _ _ _ _, tT_val (t _ _ _ _ _) fun _ => rfl⟩
theorem sndEs : ∀ (xs : List CE) {C : Cxt} {es : List Expr} {X : Cx} {W : WX}, chkEs C xs es = true → FitE C ca n R X W → PA X es (tA (kx X ca) W (evEs R xs))
  | [], C, [], X, W, h, f => sa_nil
  | [], C, _ :: _, X, W, h, f => by simp [chkEs] at h
  | a :: r, C, [], X, W, h, f => by simp [chkEs] at h
  | a :: r, C, e :: es, X, W, h, f => by
    simp only [chkEs, Bool.and_eq_true] at h
    exact sa_cons (sndE a h.1 f).1 (sndEs r h.2 f) (star_cons (chk_ns h.1))
theorem sndO : ∀ (o : Option CE) {C : Cxt} {e : Option Expr} {X : Cx} {W : WX}, chkO C o e = true → FitE C ca n R X W → PO X e (tO (kx X ca) W fun s S => (evO R o s S).bind prtD)
  | none, C, none, X, W, h, f => so_none
  | none, C, some _, X, W, h, f => by simp [chkO] at h
  | some a, C, none, X, W, h, f => by simp [chkO] at h
  | some a, C, some e, X, W, h, f => so_some (sndE a (by simpa only [chkO] using h) f).1
theorem sndT : ∀ (xs : List CE) {C : Cxt} {X : Cx} {W : WX}, FitE C ca n R X W → ∀ c e, xs = [c] → chkE C c e = true → PT X e (tT (kx X ca) W (evE R c))
  | [], C, X, W, f, c, e, q, h => by cases q
  | a :: r, C, X, W, f, c, e, q, h => by
    obtain ⟨rfl, _⟩ := List.cons.inj q
    exact (sndE a h f).2
theorem sndP : ∀ (xs : List CE) {C : Cxt} {ks : List (Option Expr)} {vs : List Expr} {X : Cx} {W : WX} {pos : Pos}, chkP C xs ks vs = true → FitE C ca n R X W → PPs X pos ks vs (trsOf (kx X ca) W R xs)
  | [], C, [], [], X, W, pos, h, f => pps_nil
  | [], C, _ :: _, vs, X, W, pos, h, f => by cases vs <;> simp [chkP] at h
  | [], C, [], _ :: _, X, W, pos, h, f => by simp [chkP] at h
  | [x], C, ks, vs, X, W, pos, h, f => by
    cases ks with
    | nil => simp [chkP] at h
    | cons k' ks' => cases k' <;> cases vs <;> simp [chkP] at h
  | x :: y :: r, C, [], vs, X, W, pos, h, f => by simp [chkP] at h
  | x :: y :: r, C, none :: ks, vs, X, W, pos, h, f => by cases vs <;> simp [chkP] at h
  | x :: y :: r, C, some k :: ks, [], X, W, pos, h, f => by simp [chkP] at h
  | x :: y :: r, C, some k :: ks, v :: vs, X, W, pos, h, f => by
    simp only [chkP, Bool.and_eq_true] at h
    exact pps_cons (sndE x h.1.1 f).1 (sndE y h.1.2 f).1 (sndP r h.2 f)
end
end
end Cr
set_option Elab.async false
set_option linter.all false
set_option maxHeartbeats 4000000
set_option maxRecDepth 10000
/-! Cr17: the promise of a statement. -/
namespace Cr
open PySem L2 PyProof.Rows
def postS (k : Kx) (W : WX) (ρ : Lo) (H : Hp) (o : SO) (D : Ends) : Prop :=
  match o with
  | .nx s S => ∀ ρ' H' σ, Ext ρ H ρ' H' → At k ρ' S s σ H' → D.nx σ H'
  | .rt d S => ∀ v ρ' H', Ext ρ H ρ' H' → Rel k.K k.ca ρ' S H' → Rep k.K ρ' H' d v → D.rt v H'
  | .bk s S => ∀ ρ' H' σ, Ext ρ H ρ' H' → At k ρ' S s σ H' → D.bk σ H'
  | .ct s S => ∀ ρ' H' σ, Ext ρ H ρ' H' → At k ρ' S s σ H' → D.ct σ H'
  | .ex c fs s S => ∀ ρ' H' σ cls d, Ext ρ H ρ' H' → At k ρ' S s σ H' → Exn k ρ' H' c fs cls d → W cls d σ H'
  | .bad => False
def tS (k : Kx) (W : WX) (m : Fr → Sto → SO) : TS := fun D σ H => ∃ ρ S s, At k ρ S s σ H ∧ postS k W ρ H (m s S) D
def tG (k : Kx) (W : WX) (m : D → Fr → Sto → SO) : TG := fun v σ H Q => ∃ ρ S s d, At k ρ S s σ H ∧ Rep k.K ρ H d v ∧ ∃ D : Ends, (∀ σ H, D.nx σ H → Q σ H) ∧ postS k W ρ H (m d s S) D
section
variable {k : Kx} {W : WX} {ρ ρ' : Lo} {H H' : Hp} {s : Fr} {S : Sto} {σ : L2.St} {D : Ends}
theorem postS.mono {o : SO} (h : postS k W ρ H o D) (e : Ext ρ H ρ' H') : postS k W ρ' H' o D := by
  cases o with
  | nx s S => exact fun ρ2 H2 σ e2 a => h ρ2 H2 σ (e.trans e2) a
  | rt d S => exact fun v ρ2 H2 e2 r p => h v ρ2 H2 (e.trans e2) r p
  | bk s S => exact fun ρ2 H2 σ e2 a => h ρ2 H2 σ (e.trans e2) a
  | ct s S => exact fun ρ2 H2 σ e2 a => h ρ2 H2 σ (e.trans e2) a
  | ex c fs s S => exact fun ρ2 H2 σ cls d e2 a x => h ρ2 H2 σ cls d (e.trans e2) a x
  | bad => exact h
/-- an expression's value, then the rest -/
theorem st_post {α β : Type} {RepA : Lo → Hp → α → β → Prop} (a : At k ρ S s σ H) {o : Out α} {f : α → Sto → SO} (h : postS k W ρ H (o.st s f) D) :
    post k RepA W σ ρ H o fun v H1 => ∃ d ρ1 S1, At k ρ1 S1 s σ H1 ∧ Ext ρ H ρ1 H1 ∧ RepA ρ1 H1 d v ∧ o = .ok d S1 ∧ postS k W ρ1 H1 (f d S1) D := by
  cases o with
  | bad => exact h
  | ex c fs S1 => exact fun ρ1 H1 cls d e1 r1 x => h ρ1 H1 σ cls d e1 (a.ext e1 r1) x
  | ok d S1 => exact fun v ρ1 H1 e1 r1 p1 => ⟨d, ρ1, S1, a.ext e1 r1, e1, p1, rfl, h.mono e1⟩
theorem st_step {m : Fr → Sto → Out Cr.D} {f : Cr.D → Sto → SO} {D : Ends} (a : At k ρ S s σ H) (h : postS k W ρ H ((m s S).st s f) D) :
    tE k W m σ H fun v H1 => ∃ d ρ1 S1, At k ρ1 S1 s σ H1 ∧ Ext ρ H ρ1 H1 ∧ Rep k.K ρ1 H1 d v ∧ postS k W ρ1 H1 (f d S1) D :=
  ⟨ρ, S, s, a, (st_post a h).imp fun _ _ ⟨d, ρ1, S1, x1, x2, x3, _, x4⟩ => ⟨d, ρ1, S1, x1, x2, x3, x4⟩⟩
/-- a test, then the rest -/
theorem st_test {m : Fr → Sto → Out Cr.D} {f g : Sto → SO} (a : At k ρ S s σ H) (h : postS k W ρ H ((m s S).st s fun d S1 => onS d S1 f g) D) :
    tT k W m σ H fun b H1 => ∃ ρ1 S1, At k ρ1 S1 s σ H1 ∧ Ext ρ H ρ1 H1 ∧ postS k W ρ1 H1 (if b = true then f S1 else g S1) D := by
  refine ⟨ρ, S, s, a, ?_⟩
  cases em : m s S with
  | bad => rw [em] at h; exact h
  | ex c fs S1 =>
    rw [em] at h
    exact fun ρ1 H1 cls d e1 r1 x => h ρ1 H1 σ cls d e1 (a.ext e1 r1) x
  | ok d S1 =>
    rw [em, st_ok] at h
    rw [bind_ok]
    cases d with
    | bool b =>
      intro v ρ1 H1 e1 r1 p1
      cases p1
      refine ⟨ρ1, S1, a.ext e1 r1, e1, ?_⟩
      cases b with
      | true => exact postS.mono h e1
      | false => exact postS.mono h e1
    | _ => exact (h : False).elim
/-- one statement, then the rest -/
theorem seq_step {o : SO} {f : Fr → Sto → SO} (h : postS k W ρ H (o.seq f) D) : postS k W ρ H o { D with nx := fun σ' H' => ∃ ρ' S' s', At k ρ' S' s' σ' H' ∧ Ext ρ H ρ' H' ∧ postS k W ρ' H' (f s' S') D } := by
  cases o with
  | nx s S => exact fun ρ2 H2 σ e2 a => ⟨ρ2, S, s, a, e2, h.mono e2⟩
  | rt d S => exact h
  | bk s S => exact h
  | ct s S => exact h
  | ex c fs s S => exact h
  | bad => exact h
/-- a loop's turn, then the rest -/
theorem again_step {o : SO} {f : Fr → Sto → SO} (h : postS k W ρ H (o.again f) D) : postS k W ρ H o { D with nx := fun σ' H' => ∃ ρ' S' s', At k ρ' S' s' σ' H' ∧ Ext ρ H ρ' H' ∧ postS k W ρ' H' (f s' S') D, ct := fun σ' H' => ∃ ρ' S' s', At k ρ' S' s' σ' H' ∧ Ext ρ H ρ' H' ∧ postS k W ρ' H' (f s' S') D, bk := D.nx } := by
  cases o with
  | nx s S => exact fun ρ2 H2 σ e2 a => ⟨ρ2, S, s, a, e2, h.mono e2⟩
  | rt d S => exact h
  | bk s S => exact h
  | ct s S => exact fun ρ2 H2 σ e2 a => ⟨ρ2, S, s, a, e2, h.mono e2⟩
  | ex c fs s S => exact h
  | bad => exact h
theorem postS.imp {o : SO} {D' : Ends} (h : postS k W ρ H o D) (hn : ∀ σ H, D.nx σ H → D'.nx σ H) (hr : ∀ v H, D.rt v H → D'.rt v H) (hb : ∀ σ H, D.bk σ H → D'.bk σ H) (hc : ∀ σ H, D.ct σ H → D'.ct σ H) : postS k W ρ H o D' := by
  cases o with
  | nx s S => exact fun ρ2 H2 σ e2 a => hn _ _ (h ρ2 H2 σ e2 a)
  | rt d S => exact fun v ρ2 H2 e2 r p => hr _ _ (h v ρ2 H2 e2 r p)
  | bk s S => exact fun ρ2 H2 σ e2 a => hb _ _ (h ρ2 H2 σ e2 a)
  | ct s S => exact fun ρ2 H2 σ e2 a => hc _ _ (h ρ2 H2 σ e2 a)
  | ex c fs s S => exact h
  | bad => exact h
end
section
variable {X : Cx} {ca : Nat → Addr} {W : WX} {R : Nat → List D → Sto → Out D} {N : Nat}
theorem z_nil : PSs X [] (tS (kx X ca) W (evB N R [])) := by
  refine PSs.imp pss_nil fun D σ H q => ?_
  obtain ⟨ρ, S, s, a, q⟩ := q
  rw [evB] at q
  exact q ρ H σ .refl a
theorem z_cons {c : CS} {r : List CS} {st : Stmt} {rest : List Stmt} (h1 : PS X st (tS (kx X ca) W (evS N R c))) (h2 : PSs X rest (tS (kx X ca) W (evB N R r))) : PSs X (st :: rest) (tS (kx X ca) W (evB N R (c :: r))) := by
  refine PSs.imp (pss_cons h1 h2) fun D σ H q => ?_
  obtain ⟨ρ, S, s, a, q⟩ := q
  rw [evB] at q
  refine ⟨ρ, S, s, a, (seq_step q).imp (fun σ' H' ⟨ρ', S', s', a', e', q'⟩ => ⟨ρ', S', s', a', q'⟩) (fun _ _ z => z) (fun _ _ z => z) fun _ _ z => z⟩
theorem z_exp {c : CE} {e : Expr} {pos : Pos} (he : PE X e (tE (kx X ca) W (evE R c))) (hs : swapsWith e none pos.line X.env = pure false) : PS X (.Expr e pos) (tS (kx X ca) W (evS N R (.exp c))) := by
  refine PS.imp (ps_expr he hs) fun D σ H q => ?_
  obtain ⟨ρ, S, s, a, q⟩ := q
  rw [evS] at q
  obtain ⟨ρ', S', s', a', q'⟩ := st_step a q
  exact ⟨ρ', S', s', a', q'.imp fun v H1 ⟨d, ρ1, S1, a1, e1, p1, q1⟩ => q1 ρ1 H1 σ .refl a1⟩
theorem z_ret {c : CE} {e : Expr} {pos : Pos} (he : PE X e (tE (kx X ca) W (evE R c))) : PS X (.Return (some e) pos) (tS (kx X ca) W (evS N R (.ret c))) := by
  refine PS.imp (ps_ret he) fun D σ H q => ?_
  obtain ⟨ρ, S, s, a, q⟩ := q
  rw [evS] at q
  obtain ⟨ρ', S', s', a', q'⟩ := st_step a q
  exact ⟨ρ', S', s', a', q'.imp fun v H1 ⟨d, ρ1, S1, a1, e1, p1, q1⟩ => q1 v ρ1 H1 .refl a1.rel p1⟩
theorem z_retN {pos : Pos} : PS X (.Return none pos) (tS (kx X ca) W (evS N R (.ret (.con .none)))) := by
  refine PS.imp ps_retN fun D σ H q => ?_
  obtain ⟨ρ, S, s, a, q⟩ := q
  rw [evS, evE] at q
  exact q .non ρ H .refl a.rel rfl
theorem z_if {c : CE} {a b : List CS} {e : Expr} {sa sb : List Stmt} {pos : Pos} (hc : PT X e (tT (kx X ca) W (evE R c))) (ha : PSs X sa (tS (kx X ca) W (evB N R a))) (hb : PSs X sb (tS (kx X ca) W (evB N R b))) : PS X (.If e sa sb pos) (tS (kx X ca) W (evS N R (.ife c a b))) := by
  refine PS.imp (ps_if hc ha hb) fun D σ H q => ?_
  obtain ⟨ρ, S, s, at_, q⟩ := q
  rw [evS] at q
  obtain ⟨ρ', S', s', a', q'⟩ := st_test at_ q
  refine ⟨ρ', S', s', a', q'.imp fun v H1 ⟨ρ1, S1, a1, e1, q1⟩ => ?_⟩
  cases v with
  | true => exact ⟨ρ1, S1, s, a1, q1⟩
  | false => exact ⟨ρ1, S1, s, a1, q1⟩
theorem z_while {c : CE} {b : List CS} {e : Expr} {sb : List Stmt} {pos : Pos} (hp : PassesOwn (model X.prog X.w) X.A X.env X.xe) (hc : PT X e (tT (kx X ca) W (evE R c))) (hb : PSs X sb (tS (kx X ca) W (evB N R b))) : PS X (.While e sb [] pos) (tS (kx X ca) W (evS N R (.whl c b))) := by
  refine PS.imp (ps_while hp hc hb) fun D σ H q => ?_
  obtain ⟨ρ, S, s, at_, q⟩ := q
  rw [evS] at q
  refine ⟨fun m σ H => ∃ ρ S s, At (kx X ca) ρ S s σ H ∧ postS (kx X ca) W ρ H (whL (evE R c) (evB N R b) m s S) D, ⟨N, ρ, S, s, at_, q⟩, ?_⟩
  rintro m σ H ⟨ρ, S, s, at_, q⟩
  cases m with
  | zero => exact q.elim
  | succ m =>
    rw [whL] at q
    obtain ⟨ρ', S', s', a', q'⟩ := st_test at_ q
    refine ⟨ρ', S', s', a', q'.imp fun v H1 ⟨ρ1, S1, a1, e1, q1⟩ => ?_⟩
    cases v with
    | true =>
      rw [if_pos rfl]
      rw [if_pos rfl] at q1
      have q2 := again_step q1
      refine ⟨_, fun σ' H' ⟨ρ', S', s', a', _, q'⟩ => ⟨m, Nat.lt_succ_self m, ρ', S', s', a', q'⟩, ρ1, S1, s, a1, q2⟩
    | false =>
      rw [if_neg (by decide)]
      rw [if_neg (by decide)] at q1
      exact q1 ρ1 H1 σ .refl a1
theorem z_loop {mI : Fr → Sto → Out (D × List D)} {mG : D → Fr → Sto → SO} {mB : Fr → Sto → SO} {tg iter : Expr} {body : List Stmt} {pos : Pos} (hp : PassesOwn (model X.prog X.w) X.A X.env X.xe) (hc : X.calm = true) (hi : PI X tg iter (tI (kx X ca) W mI)) (hg : PG X tg (tG (kx X ca) W mG)) (hb : PSs X body (tS (kx X ca) W mB))
    (hn : ∀ d s S, (∃ s' S', mG d s S = .nx s' S') ∨ (∃ c fs s' S', mG d s S = .ex c fs s' S') ∨ mG d s S = .bad) (hs : ∀ x, foldedSetIterable iter X.env x = pure x) : PS X (.For tg iter body [] pos) (tS (kx X ca) W fun σ S => (mI σ S).st σ fun p S1 => frL p.1 p.2 (fun x σ1 S2 => (mG x σ1 S2).seq mB) p.2 σ S1) := by
  refine PS.imp (ps_for hp hc hi hg hb hs) fun D σ H q => ?_
  obtain ⟨ρ, S, s, at_, q⟩ := q
  dsimp only at q
  refine ⟨ρ, S, s, at_, ?_⟩
  cases em : mI s S with
  | bad => rw [em] at q; exact q
  | ex c fs S1 =>
    rw [em] at q
    exact fun ρ1 H1 cls d e1 r1 x => q ρ1 H1 σ cls d e1 (at_.ext e1 r1) x
  | ok p S1 =>
    rw [em, st_ok] at q
    obtain ⟨d, xs⟩ := p
    dsimp only at q
    intro v ρ1 H1 J e1 r1 p1 st1 wk
    dsimp only at p1 st1 wk
    refine ⟨fun i m σ H => m = xs.length - i ∧ i ≤ xs.length ∧ ∃ ρ2 S2 s2, At (kx X ca) ρ2 S2 s2 σ H ∧ Rep X.K ρ2 H d v ∧ stays d xs S2 = true ∧ postS (kx X ca) W ρ2 H (frL d xs (fun x σ1 S2 => (mG x σ1 S2).seq mB) (xs.drop i) s2 S2) D,
      ⟨xs.length, rfl, Nat.zero_le _, ρ1, S1, s, at_.ext e1 r1, p1, st1, q.mono e1⟩, ?_⟩
    rintro i m σ2 H2 ⟨rfl, hi2, ρ2, S2, s2, a2, p2, st2, q2⟩
    have wi := wk ρ2 S2 H2 a2.rel p2 st2 i
    by_cases hlt : i < xs.length
    · have hx : xs[i]? = some xs[i] := List.getElem?_eq_getElem hlt
      obtain ⟨go, yl⟩ := wi.1 _ hx
      rw [List.drop_eq_getElem_cons hlt, frL] at q2
      have q3 := again_step q2
      have q4 := seq_step q3
      refine .inr ⟨go, fun σ' H' => ∃ ρ' S' s', At (kx X ca) ρ' S' s' σ' H' ∧ Ext ρ2 H2 ρ' H' ∧ postS (kx X ca) W ρ' H' (if stays d xs S' = true then frL d xs (fun x σ1 S2 => (mG x σ1 S2).seq mB) (xs.drop (i + 1)) s' S' else .bad) D, fun σ' H' ⟨ρ', S', s', a', e', q'⟩ => ?_, fun y H' hy => ?_⟩
      · split at q'
        · rename_i st
          exact ⟨xs.length - (i + 1), by omega, rfl, hlt, ρ', S', s', a', Rep.ext e' _ _ p2, st, q'⟩
        · exact q'.elim
      · obtain ⟨rfl, py⟩ := yl y H' hy
        refine ⟨ρ2, S2, s2, _, a2, py, _, fun σ3 H3 hz => ?_, q4⟩
        obtain ⟨ρ', S', s', a', e', q'⟩ := hz
        exact ⟨ρ', S', s', a', q'.imp (fun σ4 H4 ⟨ρ4, S4, s4, a4, e4, q4⟩ => ⟨ρ4, S4, s4, a4, e4, q4⟩) (fun _ _ z => z) (fun _ _ z => z) (fun σ4 H4 ⟨ρ4, S4, s4, a4, e4, q4⟩ => ⟨ρ4, S4, s4, a4, e4, q4⟩)⟩
    · have hi3 : i = xs.length := by omega
      subst hi3
      rw [List.drop_length, frL] at q2
      exact .inl ⟨wi.2 (Nat.le_refl _), q2 ρ2 H2 σ2 .refl a2⟩
theorem z_pass {pos : Pos} : PS X (.Pass pos) (tS (kx X ca) W (evS N R .pss)) := by
  refine PS.imp ps_pass fun D σ H q => ?_
  obtain ⟨ρ, S, s, a, q⟩ := q
  rw [evS] at q
  exact q ρ H σ .refl a
theorem z_doc {x : Str} {j : Nat} {pos pos' : Pos} : PS X (.Expr (.Constant (.str x) j pos) pos') (tS (kx X ca) W (evS N R .pss)) := by
  refine PS.imp ps_doc fun D σ H q => ?_
  obtain ⟨ρ, S, s, a, q⟩ := q
  rw [evS] at q
  exact q ρ H σ .refl a
theorem z_break {pos : Pos} : PS X (.Break pos) (tS (kx X ca) W (evS N R .brk)) := by
  refine PS.imp ps_break fun D σ H q => ?_
  obtain ⟨ρ, S, s, a, q⟩ := q
  rw [evS] at q
  exact q ρ H σ .refl a
theorem z_continue {pos : Pos} : PS X (.Continue pos) (tS (kx X ca) W (evS N R .cnt)) := by
  refine PS.imp ps_continue fun D σ H q => ?_
  obtain ⟨ρ, S, s, a, q⟩ := q
  rw [evS] at q
  exact q ρ H σ .refl a
end
end Cr
set_option Elab.async false
set_option linter.all false
set_option maxHeartbeats 8000000
set_option maxRecDepth 10000
/-! Cr18: targets, assignments; bodies are sound. -/
namespace Cr
open PySem L2 PyProof.Rows
def locB (sc : Scope) (x : Str) : Bool := match sc.names.lookup x with
  | some .local => true
  | some .cell => true
  | _ => false
def chkN (C : Cxt) : List Nat → List Expr → Bool
  | [], [] => true
  | i :: is, .Name x _ :: es => decide (C.N[i]? = some x) && locB C.sc x && chkN C is es
  | _, _ => false
def chkG (C : Cxt) : CT → Expr → Bool
  | .nm i, .Name x _ => decide (C.N[i]? = some x) && locB C.sc x
  | .tup is, .Tuple es _ _ => chkN C is es
  | .sub o i, .Subscript a b _ => chkE C o a && chkE C i b
  | _, _ => false
def isTup : Expr → Bool
  | .Tuple .. => true
  | _ => false
def isComp : Expr → Bool
  | .ListComp .. => true
  | .SetComp .. => true
  | .DictComp .. => true
  | _ => false
mutual
def chkS (C : Cxt) : CS → Stmt → Bool
  | .exp c, .Expr e _ => !isComp e && chkE C c e
  | .pss, .Expr (.Constant (.str _) _ _) _ => true
  | .pss, .Pass _ => true
  | .brk, .Break _ => true
  | .cnt, .Continue _ => true
  | .ret c, .Return (some e) _ => chkE C c e
  | .ret (.con .none), .Return none _ => true
  | .asg (.nm i) c, .Assign [.Name y py] e _ => chkG C (.nm i) (.Name y py) && chkE C c e
  | .asg (.tup is) c, .Assign [.Tuple es k p] e _ => !isTup e && chkG C (.tup is) (.Tuple es k p) && chkE C c e
  | .asg (.sub o i) c, .Assign [.Subscript a b p] e _ => chkG C (.sub o i) (.Subscript a b p) && chkE C c e
  | .par i j a b, .Assign [.Tuple [.Name x px, .Name y py] _ _] (.Tuple [e, g] _ _) _ => decide (C.N[i]? = some x) && decide (C.N[j]? = some y) && decide (x ≠ y) && decide (C.sc.names.lookup x = some .local) && decide (C.sc.names.lookup y = some .local) && decide (px.line = py.line) &&
      !(foldedForSure 8 e && foldedForSure 8 g) && !(constantsAlone 8 e && constantsAlone 8 g) && chkE C a e && chkE C b g
  | .aug i op c, .AugAssign (.Name x _) o e _ => decide (op = o) && decide (C.N[i]? = some x) && locB C.sc x && chkE C c e
  | .ife c a b, .If e sa sb _ => chkE C c e && chkB C a sa && chkB C b sb
  | .whl c b, .While e sb [] _ => chkE C c e && chkB C b sb
  | .fro t c b, .For tg e sb [] _ => chkG C t tg && chkE C c e && chkB C b sb
  | .frr t rg b, .For tg (.Call (.Name nm _) args [] _) sb [] _ => chkG C t tg && decide (nm = "range") && glB C.sc "range" && (decide (rg.length = 1) || decide (rg.length = 2)) && chkEs C rg args && chkB C b sb
  | _, _ => false
def chkB (C : Cxt) : List CS → List Stmt → Bool
  | [], [] => true
  | c :: r, s :: t => chkS C c s && chkB C r t
  | _, _ => false
end
/-- a body in which statements are run -/
structure FitS (C : Cxt) (ca : Nat → Addr) (n : Nat) (R : Nat → List D → Sto → Out D) (X : Cx) (W : WX) : Prop extends FitE C ca n R X W where
  pw : PassesOwn (model X.prog X.w) X.A X.env X.xe
  kind : X.env.scope.kind = .function
  fn : ∀ x, X.fn x = true
section
variable {ca : Nat → Addr} {R : Nat → List D → Sto → Out D} {n N : Nat} {C : Cxt} {X : Cx} {W : WX}
theorem loc_of' (f : FitE C ca n R X W) {x : Str} (h : locB C.sc x = true) : Loc X.env.scope x := by
  rw [f.sc]
  unfold locB at h
  split at h
  · rename_i e; exact .inl e
  · rename_i e; exact .inr e
  · cases h
/-! ### targets -/
theorem g_nm {i : Nat} {x : Str} {p : Pos} (f : FitS C ca n R X W) (h : C.N[i]? = some x) (hl : locB C.sc x = true) : PG X (.Name x p) (tG (kx X ca) W (evG R (.nm i))) := by
  refine ⟨fun pins s σ H v u Q I r h2 => (pg_name (X := X) f.nd (by rw [f.N]; exact h) (loc_of' f.toFitE hl) (.inl (f.fn x))).run pins s σ H v u Q I r ?_⟩
  obtain ⟨ρ, S, st, d, a, p, D, hD, q⟩ := h2
  rw [evG] at q
  exact hD _ _ (q ρ H _ .refl ⟨a.rel, a.fr.put i p⟩)
def gNs : List Nat → TGs
  | [] => gNil
  | i :: is => gCons (gName i) (gNs is)
theorem g_names (f : FitS C ca n R X W) : ∀ {is : List Nat} {es : List Expr}, chkN C is es = true → PGs X es (gNs is) ∧ (assignEach es X.env).length = is.length ∧ (assignEach es X.env).findIdx? (·.1) = none
  | [], [], _ => ⟨pgs_nil, rfl, rfl⟩
  | [], _ :: _, h => by simp [chkN] at h
  | i :: is, [], h => by simp [chkN] at h
  | i :: is, e :: es, h => by
    cases e with
    | Name x p =>
      simp only [chkN, Bool.and_eq_true, decide_eq_true_eq] at h
      obtain ⟨h1, h2, h3⟩ := g_names f h.2
      refine ⟨pgs_cons (pg_name f.nd (by rw [f.N]; exact h.1.1) (loc_of' f.toFitE h.1.2) (.inl (f.fn x))) h1, ?_, ?_⟩
      · show (assignEach es X.env).length + 1 = _
        rw [h2]; rfl
      · show List.findIdx? _ ((false, _) :: assignEach es X.env) = none
        rw [List.findIdx?_cons, h3]
        rfl
    | _ => simp [chkN] at h
theorem gNs_run {k : Kx} {ρ : Lo} {H : Hp} : ∀ {is : List Nat} {ds : List D} {vs : List V} {s s1 : Fr} {σ : L2.St} {Q : L2.St → Hp → Prop}, setAll is ds s = some s1 → Reps k.K ρ H ds vs → FRel k.K ρ H s σ → (∀ σ1, FRel k.K ρ H s1 σ1 → Q σ1 H) → gNs is vs σ H Q
  | [], [], vs, s, s1, σ, Q, e, r, f, q => by cases e; cases r; exact ⟨rfl, q σ f⟩
  | [], _ :: _, vs, s, s1, σ, Q, e, r, f, q => by cases e
  | i :: is, [], vs, s, s1, σ, Q, e, r, f, q => by cases e
  | i :: is, d :: ds, vs, s, s1, σ, Q, e, r, f, q => by
    obtain ⟨v, w, rfl, h1, h2⟩ := r
    exact ⟨v, w, rfl, gNs_run (s := s.set i (some d)) e h2 (f.put i h1) q⟩
theorem g_tup {is : List Nat} {es : List Expr} {j : Nat} {p : Pos} (f : FitS C ca n R X W) (h : chkN C is es = true) : PG X (.Tuple es j p) (tG (kx X ca) W (evG R (.tup is))) := by
  obtain ⟨h1, h2, h3⟩ := g_names f h
  refine ⟨fun pins s σ H v u Q I r h4 => (pg_tup (X := X) (k := j) (pos := p) f.calm h1 h2 h3).run pins s σ H v u Q I r ?_⟩
  obtain ⟨ρ, S, st, d, a, p, D, hD, q⟩ := h4
  unfold evG at q
  dsimp only at q
  split at q
  · rename_i xs
    split at q
    · rename_i s1 hs
      obtain ⟨b, vs, rfl, t1, t2⟩ := p
      have len : ∀ {is : List Nat} {xs : List Cr.D} {s s1 : Fr}, setAll is xs s = some s1 → xs.length = is.length := by
        intro is
        induction is with
        | nil => intro xs s s1 e; cases xs with | nil => rfl | cons _ _ => cases e
        | cons i is ih => intro xs s s1 e; cases xs with | nil => cases e | cons x xs => simp [ih (s := s.set i (some x)) e]
      refine ⟨b, vs, rfl, t1.sq, by rw [t2.length]; exact len hs, ?_⟩
      exact gNs_run (k := kx X ca) hs t2 a.fr fun σ1 f1 => hD _ _ (q ρ H σ1 .refl ⟨a.rel, f1⟩)
    · exact q.elim
  · exact q.elim
theorem set_ok : PSet X fun o i v H Q => ∃ ρ S od id d, Rel X.K ca ρ S H ∧ Rep X.K ρ H od o ∧ Rep X.K ρ H id i ∧ Rep X.K ρ H d v ∧ ∃ S', setD od id d S = .ok () S' ∧ ∀ H', Ext ρ H ρ H' → Rel X.K ca ρ S' H' → Q H' := by
  intro pins s σ H o i v ov iv u Q I ro ri rv h
  refine set_list pins s σ H o i v ov iv u Q I ro ri rv ?_
  obtain ⟨ρ, S, od, id, d, rel, p1, p2, p3, S', e, q⟩ := h
  unfold setD at e
  split at e
  · rename_i n k hn
    split at e
    · rename_i a hs
      split at e
      · rename_i j hj
        cases e
        have eo : od = Cr.loc n := by
          unfold locOf at hn
          split at hn
          · rename_i m
            obtain ⟨n', _, e1, _, _⟩ := p1
            have e1 := (PyData.int.inj (Prod.mk.inj (List.cons.inj e1).1).1)
            cases hn
            show PyData.dict [(.int m, .none)] = _
            rw [e1]
            rfl
          · cases hn
        subst eo
        obtain ⟨p, rfl, hp, vs, hv, rs⟩ := rel.loc p1 hs
        obtain rfl : i = .int k := p2
        refine ⟨p, vs, k, j, rfl, rfl, hv, by rw [rs.length]; exact hj, q _ (Ext.write _ (List.mem_of_getElem? hp)) (rel.writeL hp (Reps.set p3 j rs))⟩
      · cases e
    · cases e
  · cases e
theorem set_nx {o i v : D} {S : Sto} : (∃ S', setD o i v S = .ok () S') ∨ setD o i v S = .bad := by
  unfold setD
  split
  · split
    · split
      · exact .inl ⟨_, rfl⟩
      · exact .inr rfl
    · exact .inr rfl
  · exact .inr rfl
theorem g_sub {o i : CE} {a b : Expr} {p : Pos} (f : FitS C ca n R X W) (ho : chkE C o a = true) (hi : chkE C i b = true) : PG X (.Subscript a b p) (tG (kx X ca) W (evG R (.sub o i))) := by
  have eo := (sndE o ho f.toFitE).1
  have ei := (sndE i hi f.toFitE).1
  refine ⟨fun pins s σ H v u Q I r h4 => (pg_sub (X := X) (pos := p) eo ei (set_ok (ca := ca)) ?_).run pins s σ H v u Q I r ?_⟩
  · intro v
    have := chk_noSlice hi
    cases b <;> first
      | rfl
      | (rename_i l hh st q
         cases st with
         | none => exact absurd rfl (this l hh q)
         | some st => rfl)
  obtain ⟨ρ, S, st, d, a, p, D, hD, q⟩ := h4
  rw [evG] at q
  obtain ⟨ρ', S', s', a', q'⟩ := st_step a q
  refine ⟨ρ', S', s', a', q'.imp fun ov H1 ⟨od, ρ1, S1, a1, e1, p1, q1⟩ => ?_⟩
  obtain ⟨ρ2, S2, s2, a2, q2⟩ := st_step a1 q1
  refine ⟨ρ2, S2, s2, a2, q2.imp fun iv H3 ⟨id, ρ3, S3, a3, e3, p3, q3⟩ => ?_⟩
  refine ⟨ρ3, S3, od, id, d, a3.rel, Rep.ext e3 _ _ p1, p3, Rep.ext (e1.trans e3) _ _ p, ?_⟩
  rcases set_nx (o := od) (i := id) (v := d) (S := S3) with ⟨S4, e⟩ | e
  · rw [e, st_ok] at q3
    exact ⟨S4, e, fun H' e' r' => hD _ _ (q3 ρ3 H' _ e' (a3.ext e' r'))⟩
  · rw [e] at q3
    exact q3.elim
theorem g_all (f : FitS C ca n R X W) : ∀ {t : CT} {e : Expr}, chkG C t e = true → PG X e (tG (kx X ca) W (evG R t)) := by
  intro t e h
  cases t with
  | nm i =>
    cases e <;> first | (simp [chkG] at h; done) | skip
    simp only [chkG, Bool.and_eq_true, decide_eq_true_eq] at h
    exact g_nm f h.1 h.2
  | tup is =>
    cases e <;> first | (simp [chkG] at h; done) | skip
    simp only [chkG] at h
    exact g_tup f h
  | sub o i =>
    cases e <;> first | (simp [chkG] at h; done) | skip
    simp only [chkG, Bool.and_eq_true] at h
    exact g_sub f h.1 h.2
theorem g_nx {t : CT} (d : D) (s : Fr) (S : Sto) : (∃ s' S', evG R t d s S = .nx s' S') ∨ (∃ c fs s' S', evG R t d s S = .ex c fs s' S') ∨ evG R t d s S = .bad := by
  cases t with
  | nm i => exact .inl ⟨_, _, by rw [evG]⟩
  | tup is =>
    unfold evG
    dsimp only
    split
    · split
      · exact .inl ⟨_, _, rfl⟩
      · exact .inr (.inr rfl)
    · exact .inr (.inr rfl)
  | sub o i =>
    rw [evG]
    cases evE R o s S with
    | bad => exact .inr (.inr rfl)
    | ex c fs S1 => exact .inr (.inl ⟨_, _, _, _, rfl⟩)
    | ok ov S1 =>
      rw [st_ok]
      cases evE R i s S1 with
      | bad => exact .inr (.inr rfl)
      | ex c fs S1 => exact .inr (.inl ⟨_, _, _, _, rfl⟩)
      | ok iv S2 =>
        rw [st_ok]
        cases setD ov iv d S2 with
        | bad => exact .inr (.inr rfl)
        | ex c fs S1 => exact .inr (.inl ⟨_, _, _, _, rfl⟩)
        | ok _ S3 => exact .inl ⟨_, _, rfl⟩
/-! ### assignments -/
theorem asg_post {c : CE} {t : CT} {D : Ends} {σ : L2.St} {H : Hp} (q : tS (kx X ca) W (evS N R (.asg t c)) D σ H) : tAsg (tE (kx X ca) W (evE R c)) (tG (kx X ca) W (evG R t)) D σ H := by
  obtain ⟨ρ, S, s, at_, q⟩ := q
  rw [evS] at q
  obtain ⟨ρ', S', s', a', q'⟩ := st_step at_ q
  refine ⟨ρ', S', s', a', q'.imp fun v H1 ⟨d, ρ1, S1, a1, e1, p1, q1⟩ => ?_⟩
  exact ⟨ρ1, S1, s, d, a1, p1, D, fun _ _ z => z, q1⟩
theorem asg_name {c : CE} {i : Nat} {D : Ends} {σ : L2.St} {H : Hp} (q : tS (kx X ca) W (evS N R (.asg (.nm i) c)) D σ H) : tAsg (tE (kx X ca) W (evE R c)) (gName i) D σ H := by
  obtain ⟨ρ, S, s, at_, q⟩ := q
  rw [evS] at q
  obtain ⟨ρ', S', s', a', q'⟩ := st_step at_ q
  refine ⟨ρ', S', s', a', q'.imp fun v H1 ⟨d, ρ1, S1, a1, e1, p1, q1⟩ => ?_⟩
  rw [evG] at q1
  exact q1 ρ1 H1 _ .refl ⟨a1.rel, a1.fr.put i p1⟩
theorem sw_no {v : Expr} {t : Option Expr} {l : Nat} {env : Env} (h : isComp v = false) : swapsWith v t l env = pure false := by
  cases v <;> first
    | rfl
    | (cases h; done)
theorem sw_lc {elt : Expr} {gs : List Comprehension} {scope : Scope} {pos py : Pos} {y : Str} {l : Nat} {env : Env} (hk : env.scope.kind = .function) (h : ¬ (env.scope.names.lookup y = some .local ∧ (py.line == pos.line) = true ∧ (scope.names.any fun (n, k) => n == y && (k == .local || k == .cell)) = false)) :
    swapsWith (.ListComp elt gs scope pos) (some (.Name y py)) l env = pure false := by
  have e : swapsWith (.ListComp elt gs scope pos) (some (.Name y py)) l env = pure (env.blockKind == .function && env.kindOf y == some .local && py.line == (Expr.ListComp elt gs scope pos).pos.line && !(scope.names.any fun (n, k) => n == y && (k == .local || k == .cell))) := rfl
  rw [e]
  congr 1
  have hb : env.blockKind = .function := by unfold Env.blockKind; rw [hk]; rfl
  rw [Bool.eq_false_iff]
  intro z
  simp only [Bool.and_eq_true, Bool.not_eq_true'] at z
  refine h ⟨?_, z.1.2, z.2⟩
  have z2 : (env.scope.names.lookup y == some NameKind.local) = true := z.1.1.2
  cases q : env.scope.names.lookup y with
  | none => rw [q] at z2; cases z2
  | some k => rw [q] at z2; cases k <;> first | rfl | cases z2
theorem z_asgN {i : Nat} {c : CE} {y : Str} {py : Pos} {e : Expr} {pos : Pos} (f : FitS C ca n R X W) (hg : chkG C (.nm i) (.Name y py) = true) (hc : chkE C c e = true) : PS X (.Assign [.Name y py] e pos) (tS (kx X ca) W (evS N R (.asg (.nm i) c))) := by
  have he := (sndE c hc f.toFitE).1
  simp only [chkG, Bool.and_eq_true, decide_eq_true_eq] at hg
  have hN : X.N[i]? = some y := by rw [f.N]; exact hg.1
  have fin : swapsWith e (some (.Name y py)) pos.line X.env = pure false → PS X (.Assign [.Name y py] e pos) (tS (kx X ca) W (evS N R (.asg (.nm i) c))) := fun h => PS.imp (ps_set f.nd hN (loc_of' f.toFitE hg.2) he h (.inl (f.fn y))) fun D σ H q => asg_name q
  by_cases hl : isComp e = false
  · exact fin (sw_no hl)
  cases e <;> first
    | exact absurd rfl hl
    | (cases c <;> simp [chkE] at hc; done)
    | skip
  rename_i elt gs scope p2
  by_cases hs : X.env.scope.names.lookup y = some .local ∧ (py.line == p2.line) = true ∧ (scope.names.any fun (n, k) => n == y && (k == .local || k == .cell)) = false
  · have sw := sw_true (elt := elt) (gs := gs) (l := pos.line) f.kind hs.1 hs.2.1 hs.2.2
    cases c <;> first
      | (simp [chkE] at hc; done)
      | skip
    · rename_i al tg it ifs ce
      unfold chkE at hc
      split at hc <;> try contradiction
      rename_i e' x p1 iter fs scope p2 heq1 heq
      cases heq1
      cases heq
      simp only [Bool.and_eq_true, decide_eq_true_eq] at hc
      obtain ⟨⟨⟨⟨⟨⟨h1, h2⟩, h3⟩, h4⟩, h5⟩, h6⟩, h7⟩ := hc
      have fe := f.toFitE
      have hw := pi_walked (tg := .Name x p1) (sndE it h5 fe).1
      have ok := blkOk_by h3
      rw [← fe.N, ← fe.sc] at ok
      have ht := fun s H D cl fp => lc_tests (X := X.blk s H scope (compEnvC scope cl D X.env) fp) (ca := ca) (R := R) (W := noW) h1 h6 (sndT ifs (fe.blk s H scope cl D fp))
      have he := fun s H D cl fp => (sndE ce h7 (fe.blk s H scope cl D fp)).1
      exact PS.imp (lc_asg (al := al) (tg := tg) fe.calm fe.nd hw ok (lc_name fe h2 h4) ht he hN hs.1 sw (chk_noSet h5 _)) fun D σ H q => asg_name q
    · rename_i al tg rg ifs ce
      unfold chkE at hc
      split at hc <;> try contradiction
      rename_i e' x p1 nm p3 args p4 fs scope p2 heq1 heq
      cases heq1
      cases heq
      simp only [Bool.and_eq_true, Bool.or_eq_true, decide_eq_true_eq] at hc
      obtain ⟨⟨⟨⟨⟨⟨⟨⟨⟨h1, h2⟩, h3⟩, h4⟩, rfl⟩, h8⟩, h9⟩, h5⟩, h6⟩, h7⟩ := hc
      have fe := f.toFitE
      have hw := pi_rg (p := p3) (pos := p4) (tg := .Name x p1) fe h8 h9 h5 (sndEs rg h5 fe)
      have ok := blkOk_by h3
      rw [← fe.N, ← fe.sc] at ok
      have ht := fun s H D cl fp => lc_tests (X := X.blk s H scope (compEnvC scope cl D X.env) fp) (ca := ca) (R := R) (W := noW) h1 h6 (sndT ifs (fe.blk s H scope cl D fp))
      have he := fun s H D cl fp => (sndE ce h7 (fe.blk s H scope cl D fp)).1
      exact PS.imp (lc_asg (al := al) (tg := tg) fe.calm fe.nd hw ok (lc_name fe h2 h4) ht he hN hs.1 sw (fun v => rfl)) fun D σ H q => asg_name q
  · exact fin (sw_lc f.kind hs)
end
end Cr
set_option Elab.async false
set_option linter.all false
set_option maxHeartbeats 8000000
set_option maxRecDepth 10000
/-! Cr19: bodies are sound. -/
namespace Cr
open PySem L2 PyProof.Rows
section
variable {ca : Nat → Addr} {R : Nat → List D → Sto → Out D} {n N : Nat} {C : Cxt} {X : Cx} {W : WX}
theorem z_aug {i : Nat} {op : Operator} {c : CE} {x : Str} {p : Pos} {e : Expr} {pos : Pos} (f : FitS C ca n R X W) (hN : C.N[i]? = some x) (hl : locB C.sc x = true) (hc : chkE C c e = true) : PS X (.AugAssign (.Name x p) op e pos) (tS (kx X ca) W (evS N R (.aug i op c))) := by
  refine PS.imp (ps_aug (ti := rB (kx X ca) (augD op)) f.nd (by rw [f.N]; exact hN) (loc_of' f.toFitE hl) (sndE c hc f.toFitE).1 (aug_ok op) (.inl (f.fn x))) fun D σ H q => ?_
  obtain ⟨ρ, S, s, at_, q⟩ := q
  rw [evS] at q
  split at q
  · rename_i d hd
    obtain ⟨v, hv, pv⟩ := at_.fr.at_ i d hd
    refine ⟨v, hv, ?_⟩
    obtain ⟨ρ', S', s', a', q'⟩ := st_step at_ q
    refine ⟨ρ', S', s', a', q'.imp fun y H1 ⟨d2, ρ1, S1, a1, e1, p1, q1⟩ => ?_⟩
    refine ⟨ρ1, S1, d, d2, a1.rel, Rep.ext e1 _ _ pv, p1, ?_⟩
    cases eo : augD op d d2 S1 with
    | bad => rw [eo] at q1; exact q1.elim
    | ex c fs S2 => exact absurd eo (aug_nx _ _ _ _ _ _ _)
    | ok z S2 =>
      rw [eo, st_ok] at q1
      exact fun w ρ2 H2 e2 r2 p2 => q1 ρ2 H2 _ e2 ⟨r2, (a1.ext e2 r2).fr.put i p2⟩
  · exact q.elim
theorem swapped_two {x y : Str} {px py pt pos2 : Pos} {kt k2 : Nat} {a b : Expr} {env : Env} (hk : env.scope.kind = .function) (hxy : x ≠ y) (hx : env.scope.names.lookup x = some .local) (hy : env.scope.names.lookup y = some .local) (hl : px.line = py.line)
    (h1 : (foldedForSure 8 a && foldedForSure 8 b) = false) (h2 : (constantsAlone 8 a && constantsAlone 8 b) = false) (ha : noStar a = true) (hb : noStar b = true) :
    swappedStores [.Tuple [.Name x px, .Name y py] kt pt] (.Tuple [a, b] k2 pos2) env = pure (some [x, y]) := by
  have hbk : env.blockKind = .function := by unfold Env.blockKind; rw [hk]; rfl
  have kx : env.kindOf x = some .local := hx
  have ky : env.kindOf y = some .local := hy
  have hl2 : (py.line == px.line) = true := by rw [hl]; simp
  have e1 : (([a, b] : List Expr).any fun | .Starred .. => true | _ => false) = false := by
    cases a <;> first | (cases ha; done) | (cases b <;> first | (cases hb; done) | rfl)
  have h1' : ([a, b].all (foldedForSure 8)) = false := by simpa [List.all] using h1
  have h2' : ([a, b].all (constantsAlone 8)) = false := by simpa [List.all] using h2
  unfold swappedStores
  dsimp only
  rw [if_neg (by rw [hbk]; simp)]
  refine (if_neg ?_).trans ?_
  · exact fun z => Bool.noConfusion (e1.symm.trans z)
  have hne : (x == y) = false := by simpa using hxy
  have hne2 : (y == x) = false := by simpa using (Ne.symm hxy)
  have hd : ([x, y] : List Str).eraseDups = [x, y] := by
    simp [List.eraseDups_cons, hne, hne2]
  generalize hz : List.filterMap _ [Expr.Name x px, Expr.Name y py] = z
  have hn : z = [x, y] := by
    rw [← hz, List.filterMap_cons, List.filterMap_cons, List.filterMap_nil]
    dsimp only
    have c1 : (env.kindOf x == some NameKind.local && px.line == (Option.map (fun x => x.pos.line) [Expr.Name x px, Expr.Name y py].head?).getD 0) = true := by
      rw [kx]
      show (true && (px.line == px.line)) = true
      simp
    have c2 : (env.kindOf y == some NameKind.local && py.line == (Option.map (fun x => x.pos.line) [Expr.Name x px, Expr.Name y py].head?).getD 0) = true := by
      rw [ky]
      exact hl2
    rw [if_pos c1, if_pos c2]
  rw [hn, if_neg (by rw [hd]; simp), h1', h2']
  rfl
theorem z_par {i j : Nat} {a b : CE} {x y : Str} {px py pt pt2 pos : Pos} {kt k2 : Nat} {e g : Expr} (f : FitS C ca n R X W) (hi : C.N[i]? = some x) (hj : C.N[j]? = some y) (hxy : x ≠ y) (hx : C.sc.names.lookup x = some .local) (hy : C.sc.names.lookup y = some .local) (hl : px.line = py.line)
    (h1 : (foldedForSure 8 e && foldedForSure 8 g) = false) (h2 : (constantsAlone 8 e && constantsAlone 8 g) = false) (ha : chkE C a e = true) (hb : chkE C b g = true) :
    PS X (.Assign [.Tuple [.Name x px, .Name y py] kt pt] (.Tuple [e, g] k2 pt2) pos) (tS (kx X ca) W (evS N R (.par i j a b))) := by
  have fe := f.toFitE
  rw [← f.sc] at hx hy
  have hij : i ≠ j := by
    rintro rfl
    rw [hi] at hj
    exact hxy (Option.some.inj hj)
  have pa := sndEs (ca := ca) (R := R) (n := n) (W := W) (X := X) [a, b] (C := C) (es := [e, g]) (by simp [chkEs, ha, hb]) fe
  refine PS.imp (ps_par f.calm f.nd (by rw [f.N]; exact hi) (by rw [f.N]; exact hj) hij hx hy pa (swapped_two f.kind hxy hx hy hl h1 h2 (chk_ns ha) (chk_ns hb))) fun D σ H q => ?_
  obtain ⟨ρ, S, s, at_, q⟩ := q
  rw [evS] at q
  refine ⟨ρ, S, s, at_, ?_⟩
  simp only [evEs, bind_ok]
  cases ea : evE R a s S with
  | bad => rw [ea] at q; exact q
  | ex c fs S1 =>
    rw [ea] at q
    exact fun ρ1 H1 cls d e1 r1 x => q ρ1 H1 σ cls d e1 (at_.ext e1 r1) x
  | ok d S1 =>
    rw [ea, st_ok] at q
    rw [bind_ok]
    cases eb : evE R b s S1 with
    | bad => rw [eb] at q; exact q
    | ex c fs S2 =>
      rw [eb] at q
      exact fun ρ1 H1 cls d e1 r1 x => q ρ1 H1 σ cls d e1 (at_.ext e1 r1) x
    | ok d2 S2 =>
      rw [eb, st_ok] at q
      intro vs ρ1 H1 e1 r1 p1
      obtain ⟨v, w, rfl, p1, v2, w2, rfl, p2, rfl⟩ := p1
      exact ⟨v, v2, rfl, q ρ1 H1 _ e1 ⟨r1, ((at_.ext e1 r1).fr.put i p1).put j p2⟩⟩
theorem sw_oth {e : Expr} {es : List Expr} {k : Nat} {p : Pos} {l : Nat} {env : Env} : swapsWithSole [.Tuple es k p] e l env = pure false := by cases e <;> rfl
theorem sw_sub {e a b : Expr} {p : Pos} {l : Nat} {env : Env} : swapsWithSole [.Subscript a b p] e l env = pure false := by cases e <;> rfl
theorem st_oth {e : Expr} {es : List Expr} {k : Nat} {p : Pos} {env : Env} (h : isTup e = false) : swappedStores [.Tuple es k p] e env = pure none := by
  cases e <;> first
    | rfl
    | (cases h; done)
theorem st_sub {e a b : Expr} {p : Pos} {env : Env} : swappedStores [.Subscript a b p] e env = pure none := by cases e <;> rfl
mutual
theorem sndS : ∀ (c : CS) {s : Stmt}, chkS C c s = true → FitS C ca n R X W → PS X s (tS (kx X ca) W (evS N R c))
  | .exp c, s, h, f => by
    unfold chkS at h
    split at h <;> try contradiction
    rename_i heq
    cases heq
    simp only [Bool.and_eq_true, Bool.not_eq_true', Bool.not_eq_eq_eq_not] at h
    exact z_exp (sndE c h.2 f.toFitE).1 (sw_no h.1)
  | .asg t c, s, h, f => by
    cases t with
    | nm i =>
      unfold chkS at h
      split at h <;> first | contradiction | (rename_i heq; cases heq; done) | skip
      rename_i heq
      cases heq
      simp only [Bool.and_eq_true] at h
      exact z_asgN f h.1 h.2
    | tup is =>
      unfold chkS at h
      split at h <;> first | contradiction | (rename_i heq; cases heq; done) | skip
      rename_i heq
      cases heq
      simp only [Bool.and_eq_true, Bool.not_eq_true', Bool.not_eq_eq_eq_not] at h
      exact PS.imp (ps_asg (sndE c h.2 f.toFitE).1 (g_all f h.1.2) sw_oth (st_oth h.1.1) rfl) fun D σ H q => asg_post (N := N) q
    | sub o i =>
      unfold chkS at h
      split at h <;> first | contradiction | (rename_i heq; cases heq; done) | skip
      rename_i heq
      cases heq
      simp only [Bool.and_eq_true] at h
      exact PS.imp (ps_asg (sndE c h.2 f.toFitE).1 (g_all f h.1) sw_sub st_sub rfl) fun D σ H q => asg_post (N := N) q
  | .par i j a b, s, h, f => by
    unfold chkS at h
    split at h <;> try contradiction
    rename_i heq
    cases heq
    simp only [Bool.and_eq_true, decide_eq_true_eq, Bool.not_eq_true', Bool.not_eq_eq_eq_not] at h
    obtain ⟨⟨⟨⟨⟨⟨⟨⟨⟨h1, h2⟩, h3⟩, h4⟩, h5⟩, h6⟩, h7⟩, h8⟩, h9⟩, h10⟩ := h
    exact z_par f h1 h2 h3 h4 h5 h6 h7 h8 h9 h10
  | .aug i op c, s, h, f => by
    unfold chkS at h
    split at h <;> try contradiction
    rename_i heq
    cases heq
    simp only [Bool.and_eq_true, decide_eq_true_eq] at h
    obtain ⟨⟨⟨rfl, h1⟩, h2⟩, h3⟩ := h
    exact z_aug f h1 h2 h3
  | .ret c, s, h, f => by
    unfold chkS at h
    split at h <;> try contradiction
    · rename_i heq
      cases heq
      exact z_ret (sndE _ h f.toFitE).1
    · rename_i heq
      cases heq
      exact z_retN
  | .ife c a b, s, h, f => by
    unfold chkS at h
    split at h <;> try contradiction
    rename_i heq
    cases heq
    simp only [Bool.and_eq_true] at h
    exact z_if (sndE c h.1.1 f.toFitE).2 (sndB a h.1.2 f) (sndB b h.2 f)
  | .whl c b, s, h, f => by
    unfold chkS at h
    split at h <;> try contradiction
    rename_i heq
    cases heq
    simp only [Bool.and_eq_true] at h
    exact z_while f.pw (sndE c h.1 f.toFitE).2 (sndB b h.2 f)
  | .fro t c b, s, h, f => by
    unfold chkS at h
    split at h <;> try contradiction
    rename_i heq
    cases heq
    simp only [Bool.and_eq_true] at h
    refine PS.imp (z_loop f.pw f.calm (pi_walked (sndE c h.1.2 f.toFitE).1) (g_all f h.1.1) (sndB b h.2 f) g_nx (chk_noSet h.1.2 _)) fun D σ H q => ?_
    obtain ⟨ρ, S, s, at_, q⟩ := q
    rw [evS] at q
    exact ⟨ρ, S, s, at_, q⟩
  | .frr t rg b, s, h, f => by
    unfold chkS at h
    split at h <;> try contradiction
    rename_i heq
    cases heq
    simp only [Bool.and_eq_true, Bool.or_eq_true, decide_eq_true_eq] at h
    obtain ⟨⟨⟨⟨⟨h1, rfl⟩, h3⟩, h4⟩, h5⟩, h6⟩ := h
    refine PS.imp (z_loop f.pw f.calm (pi_rg f.toFitE h3 h4 h5 (sndEs rg h5 f.toFitE)) (g_all f h1) (sndB b h6 f) g_nx (fun v => rfl)) fun D σ H q => ?_
    obtain ⟨ρ, S, s, at_, q⟩ := q
    rw [evS] at q
    exact ⟨ρ, S, s, at_, q⟩
  | .brk, s, h, f => by
    unfold chkS at h
    split at h <;> try contradiction
    exact z_break
  | .cnt, s, h, f => by
    unfold chkS at h
    split at h <;> try contradiction
    exact z_continue
  | .pss, s, h, f => by
    unfold chkS at h
    split at h <;> try contradiction
    · exact z_doc
    · exact z_pass
theorem sndB : ∀ (c : List CS) {s : List Stmt}, chkB C c s = true → FitS C ca n R X W → PSs X s (tS (kx X ca) W (evB N R c))
  | [], [], h, f => z_nil
  | [], _ :: _, h, f => by simp [chkB] at h
  | _ :: _, [], h, f => by simp [chkB] at h
  | c :: r, s :: t, h, f => by
    simp only [chkB, Bool.and_eq_true] at h
    exact z_cons (sndS c h.1 f) (sndB r h.2 f)
end
end
end Cr
set_option Elab.async false
set_option linter.all false
set_option maxHeartbeats 4000000
set_option maxRecDepth 10000
/-! Cr20: a def's end; all defs of a program. -/
namespace Cr
open PySem L2 PyProof.Rows
section
variable {K : PySem.W.Frag} {ca : Nat → Addr} {ρ ρ' : Lo} {H H' : Hp}
/-! ### low data -/
mutual
theorem Rep.low {n : Nat} (hn : ρ.ls = ρ'.ls.take n) (hb : ρ.bl = ρ'.bl) : ∀ (d : D) (v : V), lowD n d = true → Rep K ρ' H d v → Rep K ρ H d v
  | .none, _, _, h => h
  | .bool _, _, _, h => h
  | .int _, _, _, h => h
  | .str _, _, _, h => h
  | .tuple xs, v, l, h => by
    obtain ⟨a, vs, h1, h2, h3⟩ := h
    rw [lowD] at l
    exact ⟨a, vs, h1, h2.elim (fun q => .inl ⟨⟨fun z => q.1.1 (List.mem_of_mem_take (hn ▸ z)), fun z => q.1.2 (hb ▸ z)⟩, q.2⟩) .inr, Reps.low hn hb xs vs l h3⟩
  | .list xs, v, l, h => by
    obtain ⟨a, vs, h1, h2, h3⟩ := h
    rw [lowD] at l
    exact ⟨a, vs, h1, h2.elim (fun q => .inl ⟨⟨fun z => q.1.1 (List.mem_of_mem_take (hn ▸ z)), fun z => q.1.2 (hb ▸ z)⟩, q.2⟩) .inr, Reps.low hn hb xs vs l h3⟩
  | .dict kvs, v, l, h => by
    obtain ⟨m, a, rfl, h2, h3⟩ := h
    have l : decide ((m : Int).toNat < n) = true := l
    have l := of_decide_eq_true l
    refine ⟨m, a, rfl, ?_, h3⟩
    rw [hn, List.getElem?_take_of_lt (by simpa using l)]
    exact h2
theorem Reps.low {n : Nat} (hn : ρ.ls = ρ'.ls.take n) (hb : ρ.bl = ρ'.bl) : ∀ (ds : List D) (vs : List V), lowA n ds = true → Reps K ρ' H ds vs → Reps K ρ H ds vs
  | [], _, _, h => h
  | x :: xs, vs, l, h => by
    obtain ⟨v, r, h1, h2, h3⟩ := h
    rw [lowA, Bool.and_eq_true] at l
    exact ⟨v, r, h1, Rep.low hn hb x v l.1 h2, Reps.low hn hb xs r l.2 h3⟩
end
mutual
/-- what is known to a state is low -/
theorem Rep.isLow : ∀ (d : D) (v : V), Rep K ρ H d v → lowD ρ.ls.length d = true
  | .none, _, h => by rw [lowD] <;> intros <;> contradiction
  | .bool _, _, h => by rw [lowD] <;> intros <;> contradiction
  | .int _, _, h => by rw [lowD] <;> intros <;> contradiction
  | .str _, _, h => by rw [lowD] <;> intros <;> contradiction
  | .tuple xs, v, h => by
    obtain ⟨a, vs, h1, h2, h3⟩ := h
    rw [lowD]
    exact Reps.isLow xs vs h3
  | .list xs, v, h => by
    obtain ⟨a, vs, h1, h2, h3⟩ := h
    rw [lowD]
    exact Reps.isLow xs vs h3
  | .dict kvs, v, h => by
    obtain ⟨m, a, rfl, h2, h3⟩ := h
    show decide ((m : Int).toNat < _) = true
    have := (List.getElem?_eq_some_iff.mp h2).1
    exact decide_eq_true (by simpa using this)
theorem Reps.isLow : ∀ (ds : List D) (vs : List V), Reps K ρ H ds vs → lowA ρ.ls.length ds = true
  | [], _, _ => by rw [lowA]
  | x :: xs, vs, h => by
    obtain ⟨v, r, h1, h2, h3⟩ := h
    rw [lowA, Bool.and_eq_true]
    exact ⟨Rep.isLow x v h2, Reps.isLow xs r h3⟩
end
theorem lowA_all {n : Nat} : ∀ {xs : List D}, lowA n xs = xs.all (lowD n)
  | [] => by rw [lowA]; rfl
  | x :: xs => by rw [lowA, List.all_cons, lowA_all]
theorem ObR.low {n : Nat} (hn : ρ.ls = ρ'.ls.take n) (hb : ρ.bl = ρ'.bl) {a : Addr} {o : Ob} (l : lowO n o = true) (h : ObR K ca ρ' H a o) : ObR K ca ρ H a o := by
  cases o with
  | lst ds =>
    obtain ⟨vs, h1, h2⟩ := h
    exact ⟨vs, h1, Reps.low hn hb _ _ l h2⟩
  | dic kvs =>
    obtain ⟨kv, h1, h2, h3, h4⟩ := h
    refine ⟨kv, h1, h2, h3, Reps.low hn hb _ _ ?_ h4⟩
    rw [lowA_all, List.all_map]
    exact l
  | ins c fs =>
    obtain ⟨dx, fs', h1, h2, h3⟩ := h
    refine ⟨dx, fs', h1, h2, Reps.low hn hb _ _ ?_ h3⟩
    rw [lowA_all, List.all_map]
    exact l
theorem ObR.isLow {a : Addr} {o : Ob} (h : ObR K ca ρ H a o) : lowO ρ.ls.length o = true := by
  cases o with
  | lst ds =>
    obtain ⟨vs, h1, h2⟩ := h
    exact Reps.isLow _ _ h2
  | dic kvs =>
    obtain ⟨kv, h1, h2, h3, h4⟩ := h
    have := Reps.isLow _ _ h4
    rw [lowA_all, List.all_map] at this
    exact this
  | ins c fs =>
    obtain ⟨dx, fs', h1, h2, h3⟩ := h
    have := Reps.isLow _ _ h3
    rw [lowA_all, List.all_map] at this
    exact this
/-! ### letting go -/
mutual
theorem Rep.frz {φ : Int → Option D} (hφ : ∀ (m : Nat) (a : Addr) (d : D), ρ'.ls[m]? = some a → φ (m : Int) = some d → Rep K ρ H d (.ref a)) (ho : ∀ a, ρ'.out a → ρ.out a) : ∀ (d d' : D) (v : V), Cr.frz φ d = some d' → Rep K ρ' H d v → Rep K ρ H d' v
  | .none, d', v, e, h => by cases e; exact h
  | .bool _, d', v, e, h => by cases e; exact h
  | .int _, d', v, e, h => by cases e; exact h
  | .str _, d', v, e, h => by cases e; exact h
  | .tuple xs, d', v, e, h => by
    obtain ⟨a, vs, h1, h2, h3⟩ := h
    rw [Cr.frz] at e
    obtain ⟨ys, e1, rfl⟩ := Option.map_eq_some_iff.mp e
    exact ⟨a, vs, h1, h2.elim (fun q => .inl ⟨ho _ q.1, q.2⟩) .inr, Reps.frz hφ ho xs ys vs e1 h3⟩
  | .list xs, d', v, e, h => by
    obtain ⟨a, vs, h1, h2, h3⟩ := h
    rw [Cr.frz] at e
    obtain ⟨ys, e1, rfl⟩ := Option.map_eq_some_iff.mp e
    exact ⟨a, vs, h1, h2.elim (fun q => .inl ⟨ho _ q.1, q.2⟩) .inr, Reps.frz hφ ho xs ys vs e1 h3⟩
  | .dict kvs, d', v, e, h => by
    obtain ⟨m, a, rfl, h2, rfl⟩ := h
    exact hφ m a d' h2 e
theorem Reps.frz {φ : Int → Option D} (hφ : ∀ (m : Nat) (a : Addr) (d : D), ρ'.ls[m]? = some a → φ (m : Int) = some d → Rep K ρ H d (.ref a)) (ho : ∀ a, ρ'.out a → ρ.out a) : ∀ (ds es : List D) (vs : List V), Cr.frzA φ ds = some es → Reps K ρ' H ds vs → Reps K ρ H es vs
  | [], es, vs, e, h => by rw [Cr.frzA] at e; cases e; exact h
  | x :: xs, es, vs, e, h => by
    obtain ⟨v, r, h1, h2, h3⟩ := h
    rw [Cr.frzA] at e
    obtain ⟨y, e1, e2⟩ := Option.bind_eq_some_iff.mp e
    obtain ⟨ys, e3, rfl⟩ := Option.map_eq_some_iff.mp e2
    exact ⟨v, r, h1, Rep.frz hφ ho x y v e1 h2, Reps.frz hφ ho xs ys r e3 h3⟩
end
theorem phi_ok {S : Sto} {n : Nat} (r : Rel K ca ρ' S H) (hn : ρ.ls = ρ'.ls.take n) (hb : ρ.bl = ρ'.bl) : ∀ (k : Nat) (m : Nat) (a : Addr) (d : D), ρ'.ls[m]? = some a → phi n S k (m : Int) = some d → Rep K ρ H d (.ref a) := by
  have ho : ∀ a, ρ'.out a → ρ.out a := fun a h => ⟨fun z => h.1 (List.mem_of_mem_take (hn ▸ z)), fun z => h.2 (hb ▸ z)⟩
  have low : ∀ {m : Nat} {a : Addr} {d : D}, m < n → ρ'.ls[m]? = some a → some (PyData.dict [(.int (m : Int), .none)]) = some d → Rep K ρ H d (.ref a) := fun {m a d} h h2 e => by
    cases e
    exact ⟨m, a, rfl, by rw [hn, List.getElem?_take_of_lt h]; exact h2, rfl⟩
  intro k
  induction k with
  | zero =>
    intro m a d h e
    rw [phi] at e
    split at e
    · rename_i hl
      exact low (by simpa using hl) h e
    · cases e
  | succ k ih =>
    intro m a d h e
    rw [phi] at e
    split at e
    · rename_i hl
      exact low (by simpa using hl) h e
    · rename_i hl
      have hl : ¬ m < n := by simpa using hl
      split at e
      · rename_i xs hs
        obtain ⟨ys, e1, rfl⟩ := Option.map_eq_some_iff.mp e
        have hs : S[m]? = some (.lst xs) := by simpa using hs
        obtain ⟨vs, h1, h2⟩ := r.ob m a _ h hs
        refine ⟨a, vs, rfl, .inl ⟨⟨fun z => ?_, fun z => ?_⟩, .inl h1⟩, Reps.frz ih ho _ _ _ e1 h2⟩
        · rw [hn] at z
          obtain ⟨j, hj⟩ := List.mem_iff_getElem?.mp z
          have hjn : j < n := by
            have := (List.getElem?_eq_some_iff.mp hj).1
            rw [List.length_take] at this
            omega
          rw [List.getElem?_take_of_lt hjn] at hj
          have nd := r.nd
          have := (List.getElem?_inj (List.getElem?_eq_some_iff.mp hj).1 nd).mp (hj.trans h.symm)
          omega
        · rw [hb] at z
          exact (r.bl a z).1 (List.mem_of_getElem? h)
      · cases e
theorem Rel.take {S0 S : Sto} (r0 : Rel K ca ρ S0 H) (e : Ext ρ H ρ' H') (r : Rel K ca ρ' S H') (h : S.take S0.length = S0 ∨ (S.take S0.length).all (lowO S0.length) = true) : Rel K ca ρ (S.take S0.length) H' := by
  obtain ⟨τ, hρ, _⟩ := e.pre
  have hls : ρ'.ls = ρ.ls ++ τ := by rw [hρ]
  have hbl : ρ'.bl = ρ.bl := by rw [hρ]
  have hn : ρ.ls = ρ'.ls.take S0.length := by rw [hls, ← r0.ln, List.take_left]
  have hle : S0.length ≤ S.length := by
    rw [← r0.ln, ← r.ln, hls, List.length_append]; omega
  refine ⟨r0.nd, by rw [List.length_take, r0.ln]; omega, fun i a o h1 h2 => ?_, fun b hb => ?_⟩
  · have hi : i < S0.length := by rw [← r0.ln]; exact (List.getElem?_eq_some_iff.mp h1).1
    have h2' := h2
    rw [List.getElem?_take_of_lt hi] at h2
    have q := r.ob i a o (by rw [hls, List.getElem?_append_left (by rw [r0.ln]; exact hi)]; exact h1) h2
    refine ObR.low hn hbl.symm ?_ q
    rcases h with h | h
    · rw [h] at h2'
      rw [← r0.ln]
      exact (r0.ob i a o h1 h2').isLow
    · rw [List.all_eq_true] at h
      exact h o (List.mem_of_getElem? h2')
  · have := r.bl b (by rw [hbl]; exact hb)
    refine ⟨fun z => this.1 ?_, this.2⟩
    rw [hls]
    exact List.mem_append_left _ z
theorem cut_ok {k : Kx} {S0 S : Sto} {fl : Bool} {d : D} {v : V} {Q : VK} {E : XK} (r0 : Rel k.K k.ca ρ S0 H) (e : Ext ρ H ρ' H') (r : Rel k.K k.ca ρ' S H') (p : Rep k.K ρ' H' d v) (h : postF k ρ H (cutF fl S0 d S) Q E) : Q v H' := by
  unfold cutF at h
  split at h
  · exact h v ρ' H' e r p
  · split at h
    · rename_i d' hd
      split at h
      · rename_i hc
        obtain ⟨τ, hρ, _⟩ := e.pre
        have hls : ρ'.ls = ρ.ls ++ τ := by rw [hρ]
        have hbl : ρ.bl = ρ'.bl := by rw [hρ]
        have hn : ρ.ls = ρ'.ls.take S0.length := by rw [hls, ← r0.ln, List.take_left]
        refine h v ρ H' ⟨⟨[], by simp, fun _ z => nomatch z⟩, e.old, e.som⟩ (r0.take e r hc) ?_
        exact Rep.frz (phi_ok r hn hbl 6) (fun a h => ⟨fun z => h.1 (List.mem_of_mem_take (hn ▸ z)), fun z => h.2 (hbl ▸ z)⟩) _ _ _ hd p
      · exact h.elim
    · exact h.elim
end
end Cr
set_option Elab.async false
set_option linter.all false
set_option maxHeartbeats 4000000
set_option maxRecDepth 10000
/-! Cr21: all defs of a program; the law's call. -/
namespace Cr
open PySem L2 PyProof.Rows
/-- a def stands in the program as the core text tells -/
structure DefOk (K : PySem.W.Frag) (mg : Str → Option Value) (C : Cxt) (fn : Fn) (x : Str) : Prop where
  ex : ∃ (a : Addr) (st : Stmt) (fd : FuncData) (ps : List Str), L2.Fun K x x st a fd ∧ FnScope C.N ps (defScope st) ∧ C.sc = defScope st ∧ chkB C fn.body (defBody st) = true ∧ ps.length = fn.p ∧ fn.n = C.N.length ∧ mg x = some (.ref a) ∧ Binds K fd ps []
/-- a global datum -/
def DatOk (K : PySem.W.Frag) (mg : Str → Option Value) (x : Str) (p : D) : Prop := ∃ v u, mg x = some u ∧ RelV v u ∧ ∀ ρ H, Rep K ρ H p v
structure Prg (K : PySem.W.Frag) (mg : Str → Option Value) (T : Nat → Option Fn) (fns : List (Str × Nat)) (gls : List (Str × D)) : Prop where
  df : ∀ f x np, fns[f]? = some (x, np) → x ≠ Str.empty → ∃ fn C, T f = some fn ∧ fn.p = np ∧ C.fns = fns ∧ C.gls = gls ∧ DefOk K mg C fn x
  dt : ∀ x p, gls.lookup x = some p → DatOk K mg x p
  bi : ∀ x ∈ bNames, mg x = none
section
variable {P : Program} {w : World} {K : PySem.W.Frag} {mg : Str → Option Value} {base : Heap} {ca : Nat → Addr} {T : Nat → Option Fn} {fns : List (Str × Nat)} {gls : List (Str × D)} {N : Nat}
theorem spF_len {k : Kx} {np : Nat} {g : List D → Sto → Out D} {vs : List V} {H : Hp} {Q : VK} {E : XK} (h : spF k np g vs H Q E) : vs.length = np := by
  obtain ⟨ρ, S, ds, h1, _, h2, _⟩ := h
  rw [h2.length, h1]
theorem start_rel {K : PySem.W.Frag} {ρ : Lo} {H : Hp} {ds : List D} {vs : List V} {n : Nat} {M : List Str} (hn : n = M.length) (h : Reps K ρ H ds vs) : FRel K ρ H (start0 n ds) (L2.start M vs) := by
  have hl := h.length
  refine ⟨by unfold start0 L2.start; simp [hl, hn], fun i d e => ?_⟩
  unfold start0 at e
  by_cases hi : i < ds.length
  · rw [List.getElem?_append_left (by simpa using hi), List.getElem?_map] at e
    cases q : ds[i]? with
    | none => rw [q] at e; cases e
    | some d' =>
      rw [q] at e
      cases e
      obtain ⟨v, hv, pv⟩ := h.get q
      refine ⟨v, ?_, pv⟩
      unfold L2.start
      rw [List.getElem?_append_left (by simpa [hl] using hi), List.getElem?_map, hv]
      rfl
  · rw [List.getElem?_append_right (by simpa using hi), List.getElem?_replicate] at e
    split at e <;> cases e
theorem fn_run {n : Nat} {C : Cxt} {fn : Fn} {x : Str} {f : Nat} {a : Addr} {st : Stmt} {fd : FuncData} {ps : List Str} (pr : Prg K mg T fns gls) (hT : T f = some fn) (hc : C.fns = fns) (hg : C.gls = gls) (F : L2.Fun K x x st a fd) (sc : FnScope C.N ps (defScope st)) (hsc : C.sc = defScope st)
    (hchk : chkB C fn.body (defBody st) = true) (hp : ps.length = fn.p) (hn : fn.n = C.N.length) (ih : ∀ g y np, fns[g]? = some (y, np) → y ≠ Str.empty → GF P w K mg base ca n y np (callN T N n g)) : FnG P w K mg base (n + 1) a fd ps (spF ⟨K, ca⟩ fn.p (callN T N (n + 1) f)) := by
  obtain ⟨oc, od, kV, doc, pm, an, cdv, ct, osl, rfl, lk, hcd⟩ := F.ex
  refine fnG_of (N := C.N) lk hcd sc (fun vs H Q E h => by rw [spF_len h, hp]) fun A outer s H vs Q E hr hsp => ?_
  obtain ⟨ρ, S, ds, h1, rel, rp, h⟩ := hsp
  have rel : Rel K ca ρ S H := rel
  have fit : FitS C ca n (callN T N n) (cxOf (CX P w) P w K mg base C.N x (defScope st) a cdv A outer s H E) (fun cls d _ H => E cls d H) :=
    { N := rfl
      nd := sc.nd
      sc := hsc.symm
      calm := rfl
      units := by have := hr.room.un; show (A.deeper _).units + 100 < cLine; omega
      tk := takes_of (E := E) rfl rfl rfl rfl
      room := hr
      gf := fun g y np e hy => ih g y np (by rw [← hc]; exact e) hy
      bi := pr.bi
      gd := fun y p e => pr.dt y p (by rw [← hg]; exact e)
      pw := passes_of rfl
      kind := sc.kind
      fn := fun _ => rfl }
  refine ⟨_, sndB (N := N) fn.body hchk fit, ρ, S, start0 fn.n ds, ⟨rel, start_rel hn rp⟩, ?_⟩
  rw [callN, hT] at h
  dsimp only at h
  rw [if_pos h1] at h
  cases eb : evB N (callN T N n) fn.body (start0 fn.n ds) S with
  | nx s' S' =>
    rw [eb] at h
    exact fun ρ' H' σ e a => cut_ok (k := ⟨K, ca⟩) rel e a.rel (show Rep K ρ' H' .none .non from rfl) h
  | rt d S' =>
    rw [eb] at h
    exact fun v ρ' H' e r p => cut_ok (k := ⟨K, ca⟩) rel e r p h
  | bk s' S' => rw [eb] at h; exact h.elim
  | ct s' S' => rw [eb] at h; exact h.elim
  | ex c fs s' S' =>
    rw [eb] at h
    exact fun ρ' H' σ cls d e a x => h ρ' H' cls d e a.rel x
  | bad => rw [eb] at h; exact h.elim
theorem fn_level {n : Nat} {C : Cxt} {fn : Fn} {x : Str} {f : Nat} (pr : Prg K mg T fns gls) (hT : T f = some fn) (hc : C.fns = fns) (hg : C.gls = gls) (d : DefOk K mg C fn x)
    (ih : ∀ g y np, fns[g]? = some (y, np) → y ≠ Str.empty → GF P w K mg base ca n y np (callN T N n g)) : GF P w K mg base ca (n + 1) x fn.p (callN T N (n + 1) f) := by
  obtain ⟨a, st, fd, ps, F, sc, hsc, hchk, hp, hn, hm, hb⟩ := d.ex
  exact ⟨a, fd, ps, hp, hm, F.kp, hb, fn_run pr hT hc hg F sc hsc hchk hp hn ih⟩
theorem all_fns (pr : Prg K mg T fns gls) : ∀ (n f : Nat) (x : Str) (np : Nat), fns[f]? = some (x, np) → x ≠ Str.empty → GF P w K mg base ca n x np (callN T N n f)
  | 0, f, x, np, e, hx => by
    obtain ⟨fn, C, hT, hp, hc, hg, d⟩ := pr.df f x np e hx
    obtain ⟨a, st, fd, ps, F, sc, hsc, hchk, hp2, hn, hm, hb⟩ := d.ex
    refine ⟨a, fd, ps, by rw [hp2, hp], hm, F.kp, hb, ⟨fun vs H Q E h => by rw [spF_len h, hp2, hp], fun A outer s H args us vs Q E _ _ _ _ h => ?_⟩⟩
    obtain ⟨ρ, S, ds, _, _, _, h⟩ := h
    rw [callN] at h
    exact h.elim
  | n + 1, f, x, np, e, hx => by
    obtain ⟨fn, C, hT, hp, hc, hg, d⟩ := pr.df f x np e hx
    have := fn_level (P := P) (w := w) (base := base) (ca := ca) (N := N) pr hT hc hg d (fun g y np e hy => all_fns pr n g y np e hy)
    rw [hp] at this
    exact this
end
/-! ### the law's call -/
section
variable {P : Program} {w : World} {K : PySem.W.Frag} {mg mb : Str → Option Value} {ca : Nat → Addr}
theorem reps_ints {ρ : Lo} {H : Hp} : ∀ ns : List Int, Reps K ρ H (ns.map PyData.int) (ns.map V.int)
  | [] => rfl
  | n :: r => ⟨.int n, r.map V.int, rfl, rfl, reps_ints r⟩
/-- the heap's own part, with the script apart -/
theorem head_heap {n : Nat} {fa a : Addr} {fd : FuncData} {x : Str} {g : List D → Sto → Out D} {s₁ : Shared} {vs : List Value} {ns : List Int} (H : Hp)
    (hH : ∀ b u, H b = some u → b = a ∧ u = .frz { cls := .type "list", data := .seq vs.toArray } (.lst (ns.map V.int)) ∧ K.lookup a = none) (hS : LL K ⟨[], []⟩ H a (ns.map V.int))
    (KX : K.In s₁.heap) (hns : s₁.heap.Ns mainGlobals mg) (hb : s₁.heap.Ns builtinsNs mb) (hbb : ∀ x : Str, x ≠ "__name__" → mb x = bootBuiltins x) (hlim : s₁.heap.NoLimit) (hg : s₁.gens = #[])
    (ha : s₁.heap.get? a = some { cls := .type "list", data := .seq vs.toArray }) (hi : IntsAre vs ns) (hl : ns.length ≤ sizeLine) (hr : RoomG n callerA)
    (F : ∀ base : Heap, K.In base → base.Ns mainGlobals mg → FnG P w K mg base n fa fd [x] (spF ⟨K, ca⟩ 1 g)) (hbind : ∀ u : Value, BindsTo s₁ fd ⟨[u], []⟩ [(x, u)])
    (hlaw : ∃ S, g [.list (ns.map PyData.int)] [] = .ok (.bool true) S) :
    codeAny (model P w) callerA (.call (.ref fa) ⟨[.ref a], []⟩) (fun r s' => r = .ok (.ret (.bool true)) ∧ OldK s₁.heap s'.heap ∧ s'.os = s₁.os ∧ AllBare s'.gens) s₁ := by
  have free : ∀ b, b ≠ a → H b = none := fun b hne => by
    cases q : H b with
    | none => rfl
    | some u => exact absurd (hH b u q).1 hne
  have keepNs : ∀ {b : Addr} {m : Str → Option Value}, s₁.heap.Ns b m → (hidT s₁.heap H).Ns b m := by
    rintro b m ⟨o, es, ep, h1, h2, h3⟩
    refine ⟨o, es, ep, hidT_get h1 (free b fun hba => ?_), h2, h3⟩
    rw [hba, ha] at h1
    have ho := Option.some.inj h1
    rw [← ho] at h2
    cases h2
  have kin : K.In (hidT s₁.heap H) := by
    intro b o e
    refine hidT_get (KX b o e) ?_
    cases q : H b with
    | none => rfl
    | some u =>
      obtain ⟨rfl, _, hk⟩ := hH b u q
      rw [hk] at e; cases e
  obtain ⟨mc, c1, c2⟩ := hlim
  have md : Mod K mg (hidT s₁.heap H) := { kin := kin, glob := keepNs hns, blt := ⟨mb, keepNs hb, hbb⟩, nolimit := ⟨mc, keepNs c1, c2⟩ }
  have rvs := vals_ints hi
  have hok : HOk P w H s₁.heap := by
    intro b u e
    obtain ⟨rfl, rfl, _⟩ := hH b u e
    exact ⟨ha, by rw [List.length_map]; exact hl, vs, _, rvs, ha⟩
  have env : Env0 P w K mg (hidT s₁.heap H) callerA [] s₁ H :=
    { frames := rfl, mod := md, bs := fun b o e => of_hidT e, bsz := Nat.le_of_eq (hidT_size _ _), funs := trivial, frf := fun b z => absurd z List.not_mem_nil, hok := hok, bare := .of_eq hg }
  obtain ⟨S, hlaw⟩ := hlaw
  have rel0 : Rel K ca ⟨[], []⟩ [] H := ⟨List.nodup_nil, rfl, fun i b o h1 _ => by simp at h1, fun b z => absurd z List.not_mem_nil⟩
  have sp : spF ⟨K, ca⟩ 1 g [.ref a] H (fun v _ => v = .bl true) (fun _ _ _ => False) := by
    refine ⟨⟨[], []⟩, [], [.list (ns.map PyData.int)], rfl, rel0, ⟨.ref a, [], rfl, ⟨a, ns.map V.int, rfl, hS, reps_ints ns⟩, rfl⟩, ?_⟩
    rw [hlaw]
    exact fun v ρ' H' _ _ p => p
  refine codeAny_mono ((F _ kin (keepNs hns)).run callerA [] s₁ H ⟨[.ref a], []⟩ [.ref a] [.ref a] _ _ hr env (hbind (.ref a)) (.cons rfl .nil) sp) fun r s' h => ?_
  rcases r with e | fl
  · obtain ⟨_, _, _, _, _, _, _, _, _, _, _, _, z⟩ := h
    exact z.elim
  cases fl with
  | ret u =>
    obtain ⟨v, H', h1, h2, un, hok', rv, hv⟩ := h
    obtain rfl : v = .bl true := hv
    obtain rfl : u = .bool true := rv
    refine ⟨rfl, OldK.of_keep fun b o e => ?_, h1, h2⟩
    cases q : H b with
    | none => exact un.keep b o e q (fun z => absurd z List.not_mem_nil) (fun z => absurd z List.not_mem_nil)
    | some z =>
      obtain ⟨rfl, rfl, _⟩ := hH b z q
      have h3 := (hok' b _ (un.frzs b _ _ q)).1
      rw [ha] at e
      cases e
      exact h3
  | _ => exact h.elim
theorem law_callG {n : Nat} {fa a : Addr} {fd : FuncData} {x : Str} {g : List D → Sto → Out D} {s₁ : Shared} {vs : List Value} {ns : List Int}
    (KX : K.In s₁.heap) (hns : s₁.heap.Ns mainGlobals mg) (hb : s₁.heap.Ns builtinsNs mb) (hbb : ∀ x : Str, x ≠ "__name__" → mb x = bootBuiltins x) (hlim : s₁.heap.NoLimit) (hg : s₁.gens = #[])
    (ha : s₁.heap.get? a = some { cls := .type "list", data := .seq vs.toArray }) (hi : IntsAre vs ns) (hl : ns.length ≤ sizeLine) (hr : RoomG n callerA)
    (F : ∀ base : Heap, K.In base → base.Ns mainGlobals mg → FnG P w K mg base n fa fd [x] (spF ⟨K, ca⟩ 1 g)) (hbind : ∀ u : Value, BindsTo s₁ fd ⟨[u], []⟩ [(x, u)])
    (hlaw : ∃ S, g [.list (ns.map PyData.int)] [] = .ok (.bool true) S) :
    codeAny (model P w) callerA (.call (.ref fa) ⟨[.ref a], []⟩) (fun r s' => r = .ok (.ret (.bool true)) ∧ OldK s₁.heap s'.heap ∧ s'.os = s₁.os ∧ AllBare s'.gens) s₁ := by
  have rvs := vals_ints hi
  by_cases hk : K.lookup a = none
  · let u : HO := .frz { cls := .type "list", data := .seq vs.toArray } (.lst (ns.map V.int))
    have hu : upd (fun _ => none) a u a = some u := upd_same
    refine head_heap (upd (fun _ => none) a u) (fun b z e => ?_) (.inl ⟨⟨List.not_mem_nil, List.not_mem_nil⟩, .inr ⟨_, hu⟩⟩) KX hns hb hbb hlim hg ha hi hl hr F hbind hlaw
    by_cases hba : b = a
    · rw [hba, hu] at e
      exact ⟨hba, (Option.some.inj e).symm, hk⟩
    · rw [upd_ne hba] at e
      cases e
  · obtain ⟨o, ho⟩ := Option.ne_none_iff_exists'.mp hk
    have e := KX a o ho
    rw [ha] at e
    obtain rfl := Option.some.inj e
    exact head_heap (fun _ => none) (fun b z e => by cases e) (.inr ⟨vs, _, ho, by rw [List.length_map]; exact hl, rvs⟩) KX hns hb hbb hlim hg ha hi hl hr F hbind hlaw
theorem roomG_caller : RoomG 230 callerA := ⟨⟨rfl, by decide +kernel, by decide +kernel⟩, rfl⟩
end
/-- the goal behind the head -/
theorem walk_cr {l : PySem.W.OpenLaw} {q : Program} {loose : List Str} {XP : (Str → Option Value) → Heap → Prop} {YP : World → Heap → Prop} {d : DefRec} {K : Params → PySem.W.Frag} {n N f : Nat} {T : Nat → Option Fn} {fns : List (Str × Nat)} {gls : List (Str × D)}
    (hn : l.most = some 63) (hdf : d.params.defaults = []) (hr : n + 1 ≤ 230) (hY : ∀ (w : World) (h : Heap), YP w h → (K w.params).In h) (hf : fns[f]? = some (d.name, 1)) (hd : d.name ≠ Str.empty)
    (F : ∀ (w : World) (mg : Str → Option Value) (h : Heap), (K w.params).In h → h.Ns mainGlobals mg → Prg (K w.params) mg T fns gls)
    (hlaw : ∀ ns : List Int, ns.length ≤ 63 → (∀ z ∈ ns, Builtin.Int.intBits z ≤ 1048576) → ∃ S, callN T N (n + 1) f [.list (ns.map PyData.int)] [] = .ok (.bool true) S) :
    PySem.W.WalkO q loose XP YP l.row.toRowW d [] (fun f vs => PySem.call f vs) := by
  refine Att.attach_callB hn hdf fun w s₀ s₁ mg mb fa o pm cd doc a vs ns G Y ho hd1 hcd hmg hobj hints hlen hbits hg => ?_
  have KX := hY w _ Y
  have pr := F w mg _ KX G.T.g
  obtain ⟨fn, C, hT, hp, hc, hgl, D⟩ := pr.df f d.name 1 hf hd
  obtain ⟨fa', st, fd, ps, Fu, sc, hsc, hchk, hp2, hn2, hm, hb⟩ := D.ex
  rw [hmg] at hm
  obtain rfl : fa = fa' := by cases hm; rfl
  have hone : ps.length = 1 := by rw [hp2, hp]
  obtain ⟨x, rfl⟩ := List.length_eq_one_iff.mp hone
  have run : ∀ base : Heap, (K w.params).In base → base.Ns mainGlobals mg → FnG l.prog w (K w.params) mg base (n + 1) fa fd [x] (spF ⟨K w.params, fun _ => 0⟩ 1 (callN T N (n + 1) f)) := fun base _ _ => by
    have := fn_run (P := l.prog) (w := w) (base := base) (ca := fun _ => 0) (N := N) (n := n) (f := f) pr hT hc hgl Fu sc hsc hchk hp2 hn2 (fun g y np e hy => all_fns pr n g y np e hy)
    rw [hp] at this
    exact this
  have hbind : ∀ u : Value, BindsTo s₁ fd ⟨[u], []⟩ [(x, u)] := fun u => hb s₁ [u] KX rfl
  exact law_callG KX G.T.g G.T.b G.T.builtins G.T.nolimit hg hobj hints (Nat.le_trans hlen (by decide)) (roomG_caller.mono hr) run hbind (hlaw ns hlen hbits)
end Cr
set_option Elab.async false
set_option linter.all false
set_option maxHeartbeats 1000000
set_option maxRecDepth 10000
/-! Cr22: running the evaluator. -/
namespace Cr
set_option autoImplicit false
open PySem L2 PyProof.Rows
open PySem.PyData (strOk)
/-! ### texts -/
@[simp] theorem ofs_inj {s t : String} : Str.ofString s = Str.ofString t ↔ s = t := by
  refine ⟨fun h => ?_, fun h => by rw [h]⟩
  rw [Str.ofString_eq_toList, Str.ofString_eq_toList] at h
  have h := congrArg (fun x : Str => x.cps.toList) h
  have h : s.toList.map Char.toNat = t.toList.map Char.toNat := by simpa using h
  have inj : ∀ a b : Char, a.toNat = b.toNat → a = b := fun a b e => Char.ext (UInt32.toNat_inj.mp e)
  exact String.toList_inj.mp ((List.map_inj_right inj).mp h)
@[simp] theorem ok_ofs {s : String} : strOk (Str.ofString s) = true := by
  rw [Str.ofString_eq_toList]
  unfold strOk
  simp only [List.all_toArray, List.all_eq_true, List.mem_map, decide_eq_true_eq]
  rintro x ⟨c, _, rfl⟩
  have := c.valid
  have h2 : c.toNat = c.val.toNat := rfl
  unfold UInt32.isValidChar Nat.isValidChar at this
  omega
theorem ok_app {a b : Str} (ha : strOk a = true) (hb : strOk b = true) : strOk (a ++ b) = true := by
  show (a.cps ++ b.cps).all _ = true
  rw [Array.all_append]
  have ha : a.cps.all _ = true := ha
  have hb : b.cps.all _ = true := hb
  rw [ha, hb]; rfl
@[simp] theorem ofs_len {s : String} : (Str.ofString s).length = s.length := by
  rw [Str.ofString_eq_toList]
  show ((s.toList.map Char.toNat).toArray).size = _
  rw [List.size_toArray, List.length_map, String.length_toList]
theorem ofs_app {s t : String} : Str.ofString s ++ Str.ofString t = Str.ofString (s ++ t) := by
  rw [Str.ofString_eq_toList, Str.ofString_eq_toList, Str.ofString_eq_toList]
  show (⟨_ ++ _⟩ : Str) = _
  simp
theorem str_len_app {a b : Str} : (a ++ b).length = a.length + b.length := by
  show (a.cps ++ b.cps).size = _
  simp
  rfl
/-! ### data -/
@[simp] theorem lv_none {S : Sto} : lv S .none = .none := id rfl
@[simp] theorem lv_bool {S : Sto} {b : Bool} : lv S (.bool b) = .bool b := id rfl
@[simp] theorem lv_int {S : Sto} {b : Int} : lv S (.int b) = .int b := id rfl
@[simp] theorem lv_str {S : Sto} {b : Str} : lv S (.str b) = .str b := id rfl
@[simp] theorem lv_lst {S : Sto} {b : List D} : lv S (.list b) = .list b := id rfl
@[simp] theorem lv_tup {S : Sto} {b : List D} : lv S (.tuple b) = .tuple b := id rfl
@[simp] theorem stays_list {S : Sto} {xs : List D} : stays (.list xs) xs S = true := stays_iff.mpr (.inl rfl)
@[simp] theorem stays_tup {S : Sto} {xs : List D} : stays (.tuple xs) xs S = true := stays_iff.mpr (.inr (.inl rfl))
@[simp] theorem stays_non {S : Sto} {xs : List D} : stays .none xs S = true := stays_iff.mpr (.inr (.inr rfl))
@[simp] theorem keyOf_str {x : Str} : keyOf (.str x) = some (.inr x) := id rfl
@[simp] theorem keyOf_int {x : Int} : keyOf (.int x) = some (.inl x) := id rfl
/-- data without locations -/
theorem plain_iff {d : D} : plain d = true ↔ d.canLay0 = true ∧ d.depth ≤ 64 := by unfold plain; simp
@[simp] theorem plain_none : plain .none = true := id rfl
@[simp] theorem plain_bool {b : Bool} : plain (.bool b) = true := id rfl
@[simp] theorem plain_int {b : Int} : plain (.int b) = true := id rfl
@[simp] theorem plain_str {b : Str} : plain (.str b) = strOk b := by
  unfold plain
  rw [PyData.canLay0, PyData.depth]
  simp
/-- .. of at most that depth -/
def pl (n : Nat) (d : D) : Bool := d.canLay0 && decide (d.depth ≤ n)
theorem pl_plain {n : Nat} {d : D} (h : pl n d = true) (hn : n ≤ 64 := by decide) : plain d = true := by
  unfold pl at h
  unfold plain
  simp only [Bool.and_eq_true, decide_eq_true_eq] at h ⊢
  exact ⟨h.1, by omega⟩
theorem pl_mono {m n : Nat} {d : D} (h : pl m d = true) (hn : m ≤ n := by omega) : pl n d = true := by
  unfold pl at h ⊢
  simp only [Bool.and_eq_true, decide_eq_true_eq] at h ⊢
  exact ⟨h.1, by omega⟩
@[simp] theorem pl_none {n : Nat} : pl n .none = true := by unfold pl; rw [PyData.canLay0, PyData.depth]; simp
@[simp] theorem pl_bool {n : Nat} {b : Bool} : pl n (.bool b) = true := by unfold pl; rw [PyData.canLay0, PyData.depth]; simp
@[simp] theorem pl_int {n : Nat} {b : Int} : pl n (.int b) = true := by unfold pl; rw [PyData.canLay0, PyData.depth]; simp
@[simp] theorem pl_str {n : Nat} {b : Str} : pl n (.str b) = strOk b := by unfold pl; rw [PyData.canLay0, PyData.depth]; simp
theorem lay_all {xs : List D} : PyData.canLayAll0 xs = xs.all PyData.canLay0 := by
  induction xs with
  | nil => rw [PyData.canLayAll0]; rfl
  | cons x xs ih => rw [PyData.canLayAll0, ih]; rfl
theorem depth_all {n : Nat} {xs : List D} : decide (PyData.depthAll xs ≤ n) = xs.all fun x => decide (x.depth ≤ n) := by
  induction xs with
  | nil => rw [PyData.depthAll]; simp
  | cons x xs ih => rw [PyData.depthAll, List.all_cons, ← ih]; rw [Bool.eq_iff_iff]; simp [Nat.max_le]
@[simp] theorem pl_tup {n : Nat} {xs : List D} : pl (n + 1) (.tuple xs) = xs.all (pl n) := by
  unfold pl
  rw [PyData.canLay0, PyData.depth, lay_all]
  have e : decide (PyData.depthAll xs + 1 ≤ n + 1) = decide (PyData.depthAll xs ≤ n) := by simp
  rw [e, depth_all, Bool.eq_iff_iff]
  simp only [Bool.and_eq_true, List.all_eq_true, decide_eq_true_eq]
  exact ⟨fun h x hx => ⟨h.1 x hx, h.2 x hx⟩, fun h => ⟨fun x hx => (h x hx).1, fun x hx => (h x hx).2⟩⟩
@[simp] theorem pl_lst {n : Nat} {xs : List D} : pl (n + 1) (.list xs) = xs.all (pl n) := by
  unfold pl
  rw [PyData.canLay0, PyData.depth, lay_all]
  have e : decide (PyData.depthAll xs + 1 ≤ n + 1) = decide (PyData.depthAll xs ≤ n) := by simp
  rw [e, depth_all, Bool.eq_iff_iff]
  simp only [Bool.and_eq_true, List.all_eq_true, decide_eq_true_eq]
  exact ⟨fun h x hx => ⟨h.1 x hx, h.2 x hx⟩, fun h => ⟨fun x hx => (h x hx).1, fun x hx => (h x hx).2⟩⟩
theorem plain_pl {d : D} : plain d = pl 64 d := rfl
theorem pl_lv {n : Nat} {d : D} {S : Sto} (h : pl n d = true) : lv S d = d := by
  cases d <;> first
    | rfl
    | (unfold pl at h; rw [PyData.canLay0] at h; cases h)
mutual
theorem eqv_refl0 : ∀ d : D, d.canLay0 = true → PyData.eqv d d = true
  | .none, _ => by rw [PyData.eqv]
  | .bool b, _ => by rw [PyData.eqv]; simp
  | .int b, _ => by rw [PyData.eqv]; simp
  | .str b, _ => by rw [PyData.eqv]; simp
  | .list xs, h => by rw [PyData.canLay0] at h; rw [PyData.eqv]; exact eqvAll_refl0 xs h
  | .tuple xs, h => by rw [PyData.canLay0] at h; rw [PyData.eqv]; exact eqvAll_refl0 xs h
  | .dict xs, h => by rw [PyData.canLay0] at h; cases h
theorem eqvAll_refl0 : ∀ xs : List D, PyData.canLayAll0 xs = true → PyData.eqvAll xs xs = true
  | [], _ => by rw [PyData.eqvAll]
  | x :: xs, h => by
    rw [PyData.canLayAll0, Bool.and_eq_true] at h
    rw [PyData.eqvAll, eqv_refl0 x h.1, eqvAll_refl0 xs h.2]; rfl
end
theorem pl_refl {n : Nat} {d : D} (h : pl n d = true) : PyData.eqv d d = true := eqv_refl0 d (by unfold pl at h; simp only [Bool.and_eq_true] at h; exact h.1)
mutual
theorem frz_lay {φ : Int → Option D} : ∀ d : D, d.canLay0 = true → frz φ d = some d
  | .none, _ => rfl
  | .bool b, _ => rfl
  | .int b, _ => rfl
  | .str b, _ => rfl
  | .list xs, h => by rw [PyData.canLay0] at h; rw [frz, frzA_lay xs h]; rfl
  | .tuple xs, h => by rw [PyData.canLay0] at h; rw [frz, frzA_lay xs h]; rfl
  | .dict xs, h => by rw [PyData.canLay0] at h; cases h
theorem frzA_lay {φ : Int → Option D} : ∀ xs : List D, PyData.canLayAll0 xs = true → frzA φ xs = some xs
  | [], _ => by rw [frzA]
  | x :: xs, h => by
    rw [PyData.canLayAll0, Bool.and_eq_true] at h
    rw [frzA, frz_lay x h.1, frzA_lay xs h.2]; rfl
end
/-- what a def leaves behind is let go -/
theorem cut_app {fl : Bool} {S T : Sto} {d : D} (hf : fl = true ∨ T = []) (h : d.canLay0 = true) : cutF fl S d (S ++ T) = .ok d S := by
  unfold cutF
  split
  · rename_i c
    have : T = [] := by
      rcases c with c | c
      · rcases hf with hf | hf
        · rw [c] at hf; cases hf
        · exact hf
      · simp at c; exact c
    rw [this, List.append_nil]
  · rw [frz_lay d h]
    dsimp only
    rw [List.take_left, if_pos (.inl rfl)]
@[simp] theorem cut_no {S S' : Sto} {d : D} : cutF false S d S' = .ok d S' := by
  unfold cutF
  rw [if_pos (.inl rfl)]
@[simp] theorem cut_same {fl : Bool} {S : Sto} {d : D} : cutF fl S d S = .ok d S := by
  unfold cutF
  rw [if_pos (.inr rfl)]
/-! ### calls -/
noncomputable def fin (fl : Bool) (S : Sto) : SO → Out D
  | .nx _ S' => cutF fl S .none S'
  | .rt d S' => cutF fl S d S'
  | .ex c fs _ S' => .ex c fs S'
  | _ => .bad
@[simp] theorem fin_nx {fl : Bool} {S : Sto} {σ : Fr} {S' : Sto} : fin fl S (.nx σ S') = cutF fl S .none S' := id rfl
@[simp] theorem fin_rt {fl : Bool} {S : Sto} {d : D} {S' : Sto} : fin fl S (.rt d S') = cutF fl S d S' := id rfl
@[simp] theorem fin_ex {fl : Bool} {S : Sto} {c : Nat} {fs : List (Str × D)} {σ : Fr} {S' : Sto} : fin fl S (.ex c fs σ S') = .ex c fs S' := id rfl
theorem call_eq {T : Nat → Option Fn} {W n f : Nat} {fn : Fn} {xs : List D} {S : Sto} (hT : T f = some fn) (hl : xs.length = fn.p) : callN T W (n + 1) f xs S = fin fn.cut S (evB W (callN T W n) fn.body (start0 fn.n xs) S) := by
  rw [callN, hT]
  dsimp only
  rw [if_pos hl]
  unfold fin
  rfl
@[simp] theorem seq_bk {σ : Fr} {S : Sto} {f : Fr → Sto → SO} : (SO.bk σ S).seq f = .bk σ S := id rfl
@[simp] theorem seq_ct {σ : Fr} {S : Sto} {f : Fr → Sto → SO} : (SO.ct σ S).seq f = .ct σ S := id rfl
@[simp] theorem seq_ex {c : Nat} {fs : List (Str × D)} {σ : Fr} {S : Sto} {f : Fr → Sto → SO} : (SO.ex c fs σ S).seq f = .ex c fs σ S := id rfl
@[simp] theorem again_ex {c : Nat} {fs : List (Str × D)} {σ : Fr} {S : Sto} {f : Fr → Sto → SO} : (SO.ex c fs σ S).again f = .ex c fs σ S := id rfl
@[simp] theorem onS_b {b : Bool} {S : Sto} {t f : Sto → SO} : onS (.bool b) S t f = if b = true then t S else f S := by cases b <;> rfl
@[simp] theorem onB_b {α : Type} {b : Bool} {S : Sto} {t f : Sto → Out α} : onB (.bool b) S t f = if b = true then t S else f S := by cases b <;> rfl
@[simp] theorem asB_b {b : Bool} {S : Sto} : asB (.bool b) S = .ok (.bool b) S := id rfl
@[simp] theorem notD_b {b : Bool} {S : Sto} : notD (.bool b) S = .ok (.bool (!b)) S := id rfl
@[simp] theorem negD_i {b : Int} {S : Sto} : negD (.int b) S = .ok (.int (-b)) S := id rfl
/-! ### loops -/
theorem frL_cons {d : D} {all : List D} {step : D → Fr → Sto → SO} {x : D} {xs : List D} {σ : Fr} {S : Sto} (h : ∀ S, stays d all S = true) : frL d all step (x :: xs) σ S = (step x σ S).again fun σ1 S1 => frL d all step xs σ1 S1 := by
  rw [frL]
  congr 1
  funext σ1 S1
  rw [if_pos (h S1)]
/-- a loop whose turns leave everything but their slots -/
theorem frL_inv {d : D} {all : List D} {step : D → Fr → Sto → SO} (h : ∀ S, stays d all S = true) (I : List D → Fr → Sto → Prop) : ∀ (xs : List D) (σ : Fr) (S : Sto), I xs σ S →
    (∀ x xs σ S, I (x :: xs) σ S → ∃ σ' S', step x σ S = .nx σ' S' ∧ I xs σ' S') → ∃ σ' S', frL d all step xs σ S = .nx σ' S' ∧ I [] σ' S'
  | [], σ, S, i, _ => ⟨σ, S, by rw [frL], i⟩
  | x :: xs, σ, S, i, hs => by
    obtain ⟨σ1, S1, e, i1⟩ := hs x xs σ S i
    obtain ⟨σ2, S2, e2, i2⟩ := frL_inv h I xs σ1 S1 i1 hs
    exact ⟨σ2, S2, by rw [frL_cons h, e, again_nx, e2], i2⟩
/-- a comprehension whose turns leave the state -/
theorem lcL_pure {d : D} {all : List D} {step : D → Sto → Out (Option D)} {S : Sto} (h : stays d all S = true) (g : D → Option D) : ∀ xs : List D, (∀ x ∈ xs, step x S = .ok (g x) S) → lcL d all step xs S = .ok (xs.filterMap g) S
  | [], _ => by rw [lcL]; rfl
  | x :: xs, hs => by
    rw [lcL, hs x List.mem_cons_self, bind_ok, if_pos h, lcL_pure h g xs fun y hy => hs y (List.mem_cons_of_mem _ hy), bind_ok, List.filterMap_cons]
    cases g x <;> rfl
/-- a comprehension with an invariant -/
theorem lcL_inv {d : D} {all : List D} {step : D → Sto → Out (Option D)} (h : ∀ S, stays d all S = true) (I : List D → Sto → Prop) (P : D → Prop) : ∀ (xs : List D) (S : Sto), I xs S →
    (∀ x xs S, I (x :: xs) S → ∃ y S', step x S = .ok (some y) S' ∧ P y ∧ I xs S') → ∃ ys S', lcL d all step xs S = .ok ys S' ∧ ys.length = xs.length ∧ (∀ y ∈ ys, P y) ∧ I [] S'
  | [], S, i, _ => ⟨[], S, by rw [lcL], rfl, fun y hy => absurd hy List.not_mem_nil, i⟩
  | x :: xs, S, i, hs => by
    obtain ⟨y, S1, e, p, i1⟩ := hs x xs S i
    obtain ⟨ys, S2, e2, l, q, i2⟩ := lcL_inv h I P xs S1 i1 hs
    refine ⟨y :: ys, S2, ?_, by simp [l], fun z hz => ?_, i2⟩
    · rw [lcL, e, bind_ok, if_pos (h S1), e2, bind_ok]; rfl
    · rcases List.mem_cons.mp hz with rfl | hz
      · exact p
      · exact q z hz
/-! ### operations -/
@[simp] theorem add_i {i j : Int} {S : Sto} : binD .Add (.int i) (.int j) S = .ok (.int (i + j)) S := id rfl
@[simp] theorem sub_i {i j : Int} {S : Sto} : binD .Sub (.int i) (.int j) S = .ok (.int (i - j)) S := id rfl
theorem mul_i {i j : Int} {S : Sto} (h : i.natAbs.log2 + j.natAbs.log2 < 1000000) : binD .Mult (.int i) (.int j) S = .ok (.int (i * j)) S := by
  unfold binD
  unfold mulD
  exact if_pos h
theorem div_i {i j : Int} {S : Sto} (h : j ≠ 0) (h2 : j.natAbs.log2 < 9000) : binD .FloorDiv (.int i) (.int j) S = .ok (.int (i.fdiv j)) S := by
  unfold binD
  exact if_pos ⟨h, h2⟩
theorem mod_i {i j : Int} {S : Sto} (h : j ≠ 0) : binD .Mod (.int i) (.int j) S = .ok (.int (i.fmod j)) S := by
  unfold binD
  exact if_pos h
theorem eq_d {x y : D} {S : Sto} (hx : pl 64 x = true) (hy : pl 64 y = true) : cmpD .Eq x y S = .ok (.bool (PyData.eqv x y)) S := by
  unfold cmpD
  dsimp only
  rw [pl_lv hx, pl_lv hy]
  exact if_pos ⟨hx, hy⟩
theorem ne_d {x y : D} {S : Sto} (hx : pl 64 x = true) (hy : pl 64 y = true) : cmpD .NotEq x y S = .ok (.bool (!PyData.eqv x y)) S := by
  unfold cmpD
  dsimp only
  rw [pl_lv hx, pl_lv hy]
  exact if_pos ⟨hx, hy⟩
@[simp] theorem eqv_i {i j : Int} : PyData.eqv (.int i) (.int j) = decide (i = j) := by rw [PyData.eqv]; exact Bool.eq_iff_iff.mpr (by simp)
@[simp] theorem eqv_s {i j : Str} : PyData.eqv (.str i) (.str j) = decide (i = j) := by rw [PyData.eqv]; exact Bool.eq_iff_iff.mpr (by simp)
@[simp] theorem eqv_b {i j : Bool} : PyData.eqv (.bool i) (.bool j) = decide (i = j) := by rw [PyData.eqv]; exact Bool.eq_iff_iff.mpr (by simp)
@[simp] theorem eq_i {i j : Int} {S : Sto} : cmpD .Eq (.int i) (.int j) S = .ok (.bool (decide (i = j))) S := by rw [eq_d (by simp) (by simp), eqv_i]
@[simp] theorem ne_i {i j : Int} {S : Sto} : cmpD .NotEq (.int i) (.int j) S = .ok (.bool (!decide (i = j))) S := by rw [ne_d (by simp) (by simp), eqv_i]
@[simp] theorem eq_b {i j : Bool} {S : Sto} : cmpD .Eq (.bool i) (.bool j) S = .ok (.bool (decide (i = j))) S := by rw [eq_d (by simp) (by simp), eqv_b]
@[simp] theorem ne_b {i j : Bool} {S : Sto} : cmpD .NotEq (.bool i) (.bool j) S = .ok (.bool (!decide (i = j))) S := by rw [ne_d (by simp) (by simp), eqv_b]
theorem eq_s {i j : Str} {S : Sto} (hi : strOk i = true) (hj : strOk j = true) : cmpD .Eq (.str i) (.str j) S = .ok (.bool (decide (i = j))) S := by rw [eq_d (by simpa using hi) (by simpa using hj), eqv_s]
@[simp] theorem eq_ss {i j : String} {S : Sto} : cmpD .Eq (.str (Str.ofString i)) (.str (Str.ofString j)) S = .ok (.bool (decide (i = j))) S := by
  rw [eq_s ok_ofs ok_ofs]
  simp
theorem ne_s {i j : Str} {S : Sto} (hi : strOk i = true) (hj : strOk j = true) : cmpD .NotEq (.str i) (.str j) S = .ok (.bool (!decide (i = j))) S := by rw [ne_d (by simpa using hi) (by simpa using hj), eqv_s]
theorem eq_self {n : Nat} {d : D} {S : Sto} (h : pl n d = true) (hn : n ≤ 64 := by decide) : cmpD .Eq d d S = .ok (.bool true) S := by
  have h := pl_mono h hn
  rw [eq_d h h, pl_refl h]
theorem ne_self {n : Nat} {d : D} {S : Sto} (h : pl n d = true) (hn : n ≤ 64 := by decide) : cmpD .NotEq d d S = .ok (.bool false) S := by
  have h := pl_mono h hn
  rw [ne_d h h, pl_refl h]; rfl
@[simp] theorem lt_i {i j : Int} {S : Sto} : cmpD .Lt (.int i) (.int j) S = .ok (.bool (decide (i < j))) S := by
  unfold cmpD
  dsimp only
  rw [PySem.W.dataLt_int]
  refine if_pos (And.intro (rfl) (And.intro (rfl) (And.intro rfl rfl)))
@[simp] theorem gt_i {i j : Int} {S : Sto} : cmpD .Gt (.int i) (.int j) S = .ok (.bool (decide (j < i))) S := by
  unfold cmpD
  dsimp only
  rw [PySem.W.dataLt_int]
  refine if_pos (And.intro (rfl) (And.intro (rfl) (And.intro rfl rfl)))
theorem not_dlt (i j : Int) : (!decide (j < i)) = decide (i ≤ j) := by
  rw [Bool.eq_iff_iff]; simp
@[simp] theorem le_i {i j : Int} {S : Sto} : cmpD .LtE (.int i) (.int j) S = .ok (.bool (decide (i ≤ j))) S := by
  unfold cmpD
  dsimp only
  rw [PySem.W.dataLt_int, not_dlt]
  refine if_pos (And.intro (rfl) (And.intro (rfl) (And.intro rfl rfl)))
@[simp] theorem ge_i {i j : Int} {S : Sto} : cmpD .GtE (.int i) (.int j) S = .ok (.bool (decide (j ≤ i))) S := by
  unfold cmpD
  dsimp only
  rw [PySem.W.dataLt_int, not_dlt]
  refine if_pos (And.intro (rfl) (And.intro (rfl) (And.intro rfl rfl)))
theorem lt_s {i j : Str} {S : Sto} (hi : strOk i = true) (hj : strOk j = true) : cmpD .Lt (.str i) (.str j) S = .ok (.bool (decide (i.cps.toList < j.cps.toList))) S := by
  unfold cmpD
  dsimp only
  rw [PySem.W.dataLt_str]
  refine if_pos (And.intro (by simpa using hi) (And.intro (by simpa using hj) (And.intro rfl rfl)))
theorem gt_s {i j : Str} {S : Sto} (hi : strOk i = true) (hj : strOk j = true) : cmpD .Gt (.str i) (.str j) S = .ok (.bool (decide (j.cps.toList < i.cps.toList))) S := by
  unfold cmpD
  dsimp only
  rw [PySem.W.dataLt_str]
  refine if_pos (And.intro (by simpa using hi) (And.intro (by simpa using hj) (And.intro rfl rfl)))
@[simp] theorem is_bb {a b : Bool} {S : Sto} : cmpD .Is (.bool a) (.bool b) S = .ok (.bool (decide (a = b))) S := id rfl
@[simp] theorem isnot_bb {a b : Bool} {S : Sto} : cmpD .IsNot (.bool a) (.bool b) S = .ok (.bool (!decide (a = b))) S := id rfl
@[simp] theorem dicOf_tup {S : Sto} {xs : List D} : dicOf S (.tuple xs) = none := id rfl
@[simp] theorem dicOf_lst {S : Sto} {xs : List D} : dicOf S (.list xs) = none := id rfl
@[simp] theorem dicOf_str {S : Sto} {xs : Str} : dicOf S (.str xs) = none := id rfl
theorem ix_tup {xs : List D} {i : Int} {v : D} {S : Sto} (h : atI xs i = some v) : idxD (.tuple xs) (.int i) S = .ok v S := by
  unfold idxD
  simp [h]
theorem ix_lst {xs : List D} {i : Int} {v : D} {S : Sto} (h : atI xs i = some v) : idxD (.list xs) (.int i) S = .ok v S := by
  unfold idxD
  simp [h]
theorem atI_at {α : Type} {xs : List α} {v : α} (j : Nat) {i : Int} (h : xs[j]? = some v) (hi : i = (j : Int) := by rfl) : atI xs i = some v := by rw [hi]; exact atI_nat h
@[simp] theorem ix_t0 {x : D} {xs : List D} {S : Sto} : idxD (.tuple (x :: xs)) (.int 0) S = .ok x S := ix_tup (atI_at 0 rfl)
@[simp] theorem ix_t1 {x y : D} {xs : List D} {S : Sto} : idxD (.tuple (x :: y :: xs)) (.int 1) S = .ok y S := ix_tup (atI_at 1 rfl)
@[simp] theorem ix_t2 {x y z : D} {xs : List D} {S : Sto} : idxD (.tuple (x :: y :: z :: xs)) (.int 2) S = .ok z S := ix_tup (atI_at 2 rfl)
@[simp] theorem ix_l0 {x : D} {xs : List D} {S : Sto} : idxD (.list (x :: xs)) (.int 0) S = .ok x S := ix_lst (atI_at 0 rfl)
@[simp] theorem ix_l1 {x y : D} {xs : List D} {S : Sto} : idxD (.list (x :: y :: xs)) (.int 1) S = .ok y S := ix_lst (atI_at 1 rfl)
@[simp] theorem len_t {xs : List D} {S : Sto} : bltD .len [.tuple xs] S = .ok (.int xs.length) S := id rfl
@[simp] theorem len_l {xs : List D} {S : Sto} : bltD .len [.list xs] S = .ok (.int xs.length) S := id rfl
theorem len_s {x : Str} {S : Sto} (h : x.length ≤ sizeLine) : bltD .len [.str x] S = .ok (.int x.length) S := if_pos h
@[simp] theorem abs_i {i : Int} {S : Sto} : bltD .abs [.int i] S = .ok (.int (if i < 0 then -i else i)) S := id rfl
@[simp] theorem int_i {i : Int} {S : Sto} : bltD .int [.int i] S = .ok (.int i) S := id rfl
@[simp] theorem int_b {i : Bool} {S : Sto} : bltD .int [.bool i] S = .ok (.int (if i then 1 else 0)) S := id rfl
@[simp] theorem tup_l {xs : List D} {S : Sto} : bltD .tuple [.list xs] S = .ok (.tuple xs) S := id rfl
@[simp] theorem tup_t {xs : List D} {S : Sto} : bltD .tuple [.tuple xs] S = .ok (.tuple xs) S := id rfl
@[simp] theorem lst_t {xs : List D} {S : Sto} : bltD .list [.tuple xs] S = .ok (.list xs) S := id rfl
@[simp] theorem lst_l {xs : List D} {S : Sto} : bltD .list [.list xs] S = .ok (.list xs) S := id rfl
theorem mk_l {xs : List D} {S : Sto} (h : xs.length ≤ sizeLine) : mkL false xs S = .ok (.list xs) S := by unfold mkL; rw [if_pos h]; rfl
theorem mk_n {xs : List D} {S : Sto} (h : xs.length ≤ sizeLine) : mkL true xs S = .ok (loc S.length) (S ++ [.lst xs]) := by unfold mkL; rw [if_pos h]; rfl
@[simp] theorem wk_l {xs : List D} {S : Sto} : walked (.list xs) S = .ok (.list xs, xs) S := id rfl
@[simp] theorem wk_t {xs : List D} {S : Sto} : walked (.tuple xs) S = .ok (.tuple xs, xs) S := id rfl
@[simp] theorem wk_s {x : Str} {S : Sto} : walked (.str x) S = .ok (.none, x.cps.toList.map fun c => .str ⟨#[c]⟩) S := id rfl
theorem size_small {n : Nat} (h : n ≤ 1000) : n ≤ sizeLine := Nat.le_trans h (by decide)
end Cr
set_option Elab.async false
set_option linter.all false
set_option maxHeartbeats 1000000
set_option maxRecDepth 10000
/-! Cr23: the evaluator's equations, for simp. -/
namespace Cr
set_option autoImplicit false
open PySem L2 PyProof.Rows
open PySem.PyData (strOk)
section
variable {R : Nat → List D → Sto → Out D} {W : Nat} {σ : Fr} {S : Sto}
@[simp] theorem x_var {i : Nat} : evE R (.var i) σ S = (match σ[i]? with | some (some d) => .ok d S | _ => .bad) := by rw [evE] <;> rfl
@[simp] theorem x_con {p : D} : evE R (.con p) σ S = .ok p S := by rw [evE]
@[simp] theorem x_bop {op : Operator} {a b : CE} : evE R (.bop op a b) σ S = (evE R a σ S).bind fun x S1 => (evE R b σ S1).bind fun y S2 => binD op x y S2 := by rw [evE]
@[simp] theorem x_cmp {op : CmpOp} {a b : CE} : evE R (.cmp op a b) σ S = (evE R a σ S).bind fun x S1 => (evE R b σ S1).bind fun y S2 => cmpD op x y S2 := by rw [evE]
@[simp] theorem x_chn {o1 o2 : CmpOp} {a b c : CE} : evE R (.chn o1 o2 a b c) σ S = (evE R a σ S).bind fun x S1 => (evE R b σ S1).bind fun y S2 => (cmpD o1 x y S2).bind fun t S3 => onB t S3 (fun S3 => (evE R c σ S3).bind fun z S4 => cmpD o2 y z S4) fun S3 => .ok (.bool false) S3 := by rw [evE]
@[simp] theorem x_and {a b : CE} : evE R (.and a b) σ S = (evE R a σ S).bind fun x S1 => onB x S1 (fun S1 => evE R b σ S1) fun S1 => .ok (.bool false) S1 := by rw [evE]
@[simp] theorem x_or {a b : CE} : evE R (.or a b) σ S = (evE R a σ S).bind fun x S1 => onB x S1 (fun S1 => .ok (.bool true) S1) fun S1 => evE R b σ S1 := by rw [evE]
@[simp] theorem x_not {a : CE} : evE R (.not a) σ S = (evE R a σ S).bind fun x S1 => notD x S1 := by rw [evE]
@[simp] theorem x_neg {a : CE} : evE R (.neg a) σ S = (evE R a σ S).bind fun x S1 => negD x S1 := by rw [evE]
@[simp] theorem x_ite {c a b : CE} : evE R (.ite c a b) σ S = (evE R c σ S).bind fun x S1 => onB x S1 (fun S1 => evE R a σ S1) fun S1 => evE R b σ S1 := by rw [evE]
@[simp] theorem x_tup {xs : List CE} : evE R (.tup xs) σ S = (evEs R xs σ S).bind fun ys S1 => if ys.length ≤ sizeLine then .ok (.tuple ys) S1 else .bad := by rw [evE]
@[simp] theorem x_lst {al : Bool} {xs : List CE} : evE R (.lst al xs) σ S = (evEs R xs σ S).bind fun ys S1 => mkL al ys S1 := by rw [evE]
@[simp] theorem x_dsp {xs : List CE} : evE R (.dsp xs) σ S = (evEs R xs σ S).bind fun ys S1 => mkD ys S1 := by rw [evE]
@[simp] theorem x_lc {al : Bool} {tg : Nat} {it elt : CE} {ifs : List CE} : evE R (.lc al tg it ifs elt) σ S = ((evE R it σ S).bind fun x S1 => walked x S1).bind fun p S1 => (lcL p.1 p.2 (turnE (evT R ifs) (evE R elt) σ tg) p.2 S1).bind fun ys S5 => mkL al ys S5 := by rw [evE] <;> rfl
@[simp] theorem x_lr {al : Bool} {tg : Nat} {rg : List CE} {elt : CE} {ifs : List CE} : evE R (.lr al tg rg ifs elt) σ S = ((evEs R rg σ S).bind fun x S1 => rangeD x S1).bind fun p S1 => (lcL p.1 p.2 (turnE (evT R ifs) (evE R elt) σ tg) p.2 S1).bind fun ys S5 => mkL al ys S5 := by rw [evE] <;> rfl
@[simp] theorem x_idx {a b : CE} : evE R (.idx a b) σ S = (evE R a σ S).bind fun x S1 => (evE R b σ S1).bind fun y S2 => idxD x y S2 := by rw [evE]
@[simp] theorem x_sli {a : CE} {lo hi : Option CE} : evE R (.sli a lo hi) σ S = (evE R a σ S).bind fun x S1 => ((evO R lo σ S1).bind prtD).bind fun l S2 => ((evO R hi σ S2).bind prtD).bind fun h S3 => sliD x l h S3 := by rw [evE]
@[simp] theorem x_call {f : Nat} {xs : List CE} : evE R (.call f xs) σ S = (evEs R xs σ S).bind fun ys S1 => R f ys S1 := by rw [evE]
@[simp] theorem x_blt {b : Bi} {xs : List CE} : evE R (.blt b xs) σ S = (evEs R xs σ S).bind fun ys S1 => bltD b ys S1 := by rw [evE]
@[simp] theorem x_mth {m : Mt} {o : CE} {xs : List CE} : evE R (.mth m o xs) σ S = (evE R o σ S).bind fun x S1 => if recvB m x S1 = true then (evEs R xs σ S1).bind fun ys S2 => mthD m x ys S2 else .bad := by rw [evE]
@[simp] theorem x_isi {a : CE} {t : String} : evE R (.isi a t) σ S = (evE R a σ S).bind fun x S1 => isiD t x S1 := by rw [evE]
@[simp] theorem x_mxd {a : CE} {k : Int} : evE R (.mxd a k) σ S = (evE R a σ S).bind fun x S1 => mxD k x S1 := by rw [evE]
@[simp] theorem x_nil : evEs R [] σ S = .ok [] S := by rw [evEs]
@[simp] theorem x_cons {a : CE} {r : List CE} : evEs R (a :: r) σ S = (evE R a σ S).bind fun x S1 => (evEs R r σ S1).bind fun xs S2 => .ok (x :: xs) S2 := by rw [evEs]
@[simp] theorem x_tnil : evT R [] σ S = .ok true S := by rw [evT]
@[simp] theorem x_tcons {a : CE} {r : List CE} : evT R (a :: r) σ S = (evE R a σ S).bind fun x S1 => onB x S1 (fun S1 => evT R r σ S1) fun S1 => .ok false S1 := by rw [evT]
@[simp] theorem x_onone : (evO R none σ S).bind prtD = .ok none S := by rw [evO]; rfl
@[simp] theorem x_osome {a : CE} : (evO R (some a) σ S).bind prtD = (evE R a σ S).bind fun x S1 => prtD (some x) S1 := by
  rw [evO]
  cases evE R a σ S <;> rfl
@[simp] theorem prt_i {i : Int} : prtD (some (.int i)) S = .ok (some i) S := id rfl
@[simp] theorem y_nil : evB W R [] σ S = .nx σ S := by rw [evB]
@[simp] theorem y_cons {c : CS} {r : List CS} : evB W R (c :: r) σ S = (evS W R c σ S).seq (evB W R r) := by rw [evB]
@[simp] theorem y_exp {e : CE} : evS W R (.exp e) σ S = (evE R e σ S).st σ fun _ S1 => .nx σ S1 := by rw [evS]
@[simp] theorem y_asg {i : Nat} {e : CE} : evS W R (.asg (.nm i) e) σ S = (evE R e σ S).st σ fun x S1 => .nx (σ.set i (some x)) S1 := by rw [evS] <;> rfl
@[simp] theorem y_asgT {is : List Nat} {e : CE} : evS W R (.asg (.tup is) e) σ S = (evE R e σ S).st σ fun x S1 => evG R (.tup is) x σ S1 := by rw [evS]
@[simp] theorem y_asgS {o i e : CE} : evS W R (.asg (.sub o i) e) σ S = (evE R e σ S).st σ fun x S1 => (evE R o σ S1).st σ fun ov S1 => (evE R i σ S1).st σ fun iv S2 => (setD ov iv x S2).st σ fun _ S3 => .nx σ S3 := by rw [evS] <;> rfl
@[simp] theorem y_par {i j : Nat} {a b : CE} : evS W R (.par i j a b) σ S = (evE R a σ S).st σ fun x S1 => (evE R b σ S1).st σ fun y S2 => .nx ((σ.set i (some x)).set j (some y)) S2 := by rw [evS]
@[simp] theorem y_aug {i : Nat} {op : Operator} {e : CE} : evS W R (.aug i op e) σ S = (match σ[i]? with | some (some x) => (evE R e σ S).st σ fun y S1 => (augD op x y S1).st σ fun z S2 => .nx (σ.set i (some z)) S2 | _ => .bad) := by rw [evS] <;> rfl
@[simp] theorem y_ret {e : CE} : evS W R (.ret e) σ S = (evE R e σ S).st σ fun x S1 => .rt x S1 := by rw [evS]
@[simp] theorem y_ife {c : CE} {a b : List CS} : evS W R (.ife c a b) σ S = (evE R c σ S).st σ fun t S1 => onS t S1 (fun S1 => evB W R a σ S1) fun S1 => evB W R b σ S1 := by rw [evS]
@[simp] theorem y_whl {c : CE} {b : List CS} : evS W R (.whl c b) σ S = whL (evE R c) (evB W R b) W σ S := by rw [evS]
@[simp] theorem y_fro {t : CT} {it : CE} {b : List CS} : evS W R (.fro t it b) σ S = ((evE R it σ S).bind fun x S1 => walked x S1).st σ fun p S1 => frL p.1 p.2 (fun x σ1 S2 => (evG R t x σ1 S2).seq (evB W R b)) p.2 σ S1 := by rw [evS]
@[simp] theorem y_frr {t : CT} {rg : List CE} {b : List CS} : evS W R (.frr t rg b) σ S = ((evEs R rg σ S).bind fun x S1 => rangeD x S1).st σ fun p S1 => frL p.1 p.2 (fun x σ1 S2 => (evG R t x σ1 S2).seq (evB W R b)) p.2 σ S1 := by rw [evS]
@[simp] theorem y_brk : evS W R .brk σ S = .bk σ S := by rw [evS]
@[simp] theorem y_cnt : evS W R .cnt σ S = .ct σ S := by rw [evS]
@[simp] theorem y_pss : evS W R .pss σ S = .nx σ S := by rw [evS]
@[simp] theorem y_gnm {i : Nat} {x : D} : evG R (.nm i) x σ S = .nx (σ.set i (some x)) S := by rw [evG]
@[simp] theorem y_gt2 {i j : Nat} {x y : D} : evG R (.tup [i, j]) (.tuple [x, y]) σ S = .nx ((σ.set i (some x)).set j (some y)) S := by rw [evG] <;> rfl
@[simp] theorem y_gt3 {i j k : Nat} {x y z : D} : evG R (.tup [i, j, k]) (.tuple [x, y, z]) σ S = .nx (((σ.set i (some x)).set j (some y)).set k (some z)) S := by rw [evG] <;> rfl
end
@[simp] theorem sz1 : 1 ≤ sizeLine := by decide
@[simp] theorem sz2 : 2 ≤ sizeLine := by decide
@[simp] theorem sz3 : 3 ≤ sizeLine := by decide
@[simp] theorem sz4 : 4 ≤ sizeLine := by decide
@[simp] theorem sz5 : 5 ≤ sizeLine := by decide
@[simp] theorem sz6 : 6 ≤ sizeLine := by decide
@[simp] theorem sz7 : 7 ≤ sizeLine := by decide
@[simp] theorem sz8 : 8 ≤ sizeLine := by decide
@[simp] theorem sz9 : 9 ≤ sizeLine := by decide
@[simp] theorem st_if {α : Type} {p : Prop} [Decidable p] {a b : Out α} {σ : Fr} {f : α → Sto → SO} : (if p then a else b).st σ f = if p then a.st σ f else b.st σ f := by split <;> rfl
@[simp] theorem bind_if {α β : Type} {p : Prop} [Decidable p] {a b : Out α} {f : α → Sto → Out β} : (if p then a else b).bind f = if p then a.bind f else b.bind f := by split <;> rfl
@[simp] theorem seq_if {p : Prop} [Decidable p] {a b : SO} {f : Fr → Sto → SO} : (if p then a else b).seq f = if p then a.seq f else b.seq f := by split <;> rfl
@[simp] theorem again_if {p : Prop} [Decidable p] {a b : SO} {f : Fr → Sto → SO} : (if p then a else b).again f = if p then a.again f else b.again f := by split <;> rfl
@[simp] theorem fin_if {p : Prop} [Decidable p] {a b : SO} {fl : Bool} {S : Sto} : fin fl S (if p then a else b) = if p then fin fl S a else fin fl S b := by split <;> rfl
theorem ok_if {α : Type} {p : Prop} [Decidable p] {a b : α} {S : Sto} : (if p then Out.ok a S else Out.ok b S) = .ok (if p then a else b) S := by split <;> rfl
end Cr
set_option Elab.async false
set_option linter.all false
set_option maxHeartbeats 1000000
set_option maxRecDepth 10000
/-! Cr24: more for running the evaluator. -/
namespace Cr
set_option autoImplicit false
open PySem L2 PyProof.Rows
open PySem.PyData (strOk)
theorem log_lt {n k : Nat} (h : n < 2 ^ k) : n.log2 ≤ k := by
  rcases Nat.eq_zero_or_pos n with rfl | hp
  · simp [Nat.log2_zero]
  · exact Nat.le_of_lt ((Nat.log2_lt (by omega)).mpr h)
theorem mul_lg {x y : Int} {k l : Nat} (hx : x.natAbs < 2 ^ k) (hy : y.natAbs < 2 ^ l) (h : k + l < 1000000 := by decide) : x.natAbs.log2 + y.natAbs.log2 < 1000000 := by
  have := log_lt hx
  have := log_lt hy
  omega
theorem log_ok {x : Int} (h : x.natAbs < 2 ^ 60) : x.natAbs.log2 < 9000 := by
  have := log_lt h
  omega
theorem pl_lay {n : Nat} {d : D} (h : pl n d = true) : d.canLay0 = true := by
  unfold pl at h
  simp only [Bool.and_eq_true] at h
  exact h.1
/-! ### locations -/
theorem dicOf_loc {S : Sto} {n : Nat} : dicOf S (loc n) = (match S[n]? with | some (.dic kvs) => some kvs | _ => none) := by
  simp only [dicOf, loc, Int.toNat_natCast]
  all_goals
    cases S[n]? with
    | none => rfl
    | some o => cases o <;> rfl
theorem ix_dic {S : Sto} {n : Nat} {k : D} {kvs : List (Key × D)} {v : D} (h : S[n]? = some (.dic kvs)) (hk : (keyOf k).bind (getK kvs) = some v) : idxD (loc n) k S = .ok v S := by
  unfold idxD
  rw [dicOf_loc, h]
  dsimp only
  rw [hk]
theorem ix_loc {S : Sto} {s : Nat} {xs : List D} {i : Int} {v : D} (h : S[s]? = some (.lst xs)) (hv : atI xs i = some v) : idxD (loc s) (.int i) S = .ok v S := by
  unfold idxD
  rw [dicOf_loc, h]
  dsimp only
  rw [lv_loc, h]
  dsimp only
  rw [hv]
theorem len_loc {S : Sto} {s : Nat} {xs : List D} (h : S[s]? = some (.lst xs)) : bltD .len [loc s] S = .ok (.int xs.length) S := by
  unfold bltD
  dsimp only
  rw [lv_loc, h]
theorem ixN_lt {n j : Nat} (h : j < n) : ixN n (j : Int) = some j := by
  unfold ixN
  rw [if_pos (by omega)]
  first
    | rw [if_pos (by omega)]; simp
    | simp [h]
theorem set_loc {S : Sto} {s j : Nat} {xs : List D} {i : Int} {v : D} (h : S[s]? = some (.lst xs)) (hj : j < xs.length) (hi : i = (j : Int)) : setD (loc s) (.int i) v S = .ok () (S.set s (.lst (xs.set j v))) := by
  unfold setD
  rw [locOf_loc]
  dsimp only
  rw [h]
  dsimp only
  rw [hi, ixN_lt hj]
theorem recv_loc {S : Sto} {s : Nat} {xs : List D} {m : Mt} (hm : m ≠ .join) (hm2 : m ≠ .replace) (h : S[s]? = some (.lst xs)) : recvB m (loc s) S = true := by
  unfold recvB
  cases m <;> first
    | exact absurd rfl hm
    | exact absurd rfl hm2
    | (dsimp only; rw [locOf_loc]; dsimp only; rw [h])
theorem pop_loc {S : Sto} {s : Nat} {x : D} {xs : List D} (h : S[s]? = some (.lst (x :: xs))) : mthD .popAt (loc s) [.int 0] S = .ok x (S.set s (.lst xs)) := by
  unfold mthD
  dsimp only
  rw [locOf_loc]
  dsimp only
  rw [h]
  dsimp only
  rw [if_pos ⟨by decide, by decide⟩]
  have e : PySem.seqIndex? 0 (x :: xs).length = some 0 := by simp [PySem.seqIndex?]
  rw [e]
  rfl
theorem app_loc {S : Sto} {s : Nat} {y : D} {xs : List D} (h : S[s]? = some (.lst xs)) (hz : xs.length < sizeLine) : mthD .append (loc s) [y] S = .ok .none (S.set s (.lst (xs ++ [y]))) := by
  unfold mthD
  dsimp only
  rw [locOf_loc]
  dsimp only
  rw [h]
  exact if_pos hz
/-! ### more operations -/
@[simp] theorem ne_ss {i j : String} {S : Sto} : cmpD .NotEq (.str (Str.ofString i)) (.str (Str.ofString j)) S = .ok (.bool (!decide (i = j))) S := by
  rw [ne_s ok_ofs ok_ofs]
  simp
@[simp] theorem frL_nil {d : D} {all : List D} {step : D → Fr → Sto → SO} {σ : Fr} {S : Sto} : frL d all step [] σ S = .nx σ S := by rw [frL]
@[simp] theorem repr_b {k : Bool} {S : Sto} : bltD .repr [.bool k] S = .ok (.str (if k = true then "True" else "False")) S := id rfl
theorem mul_tup {a : List D} {k : Int} {S : Sto} (h : a ≠ [] ∧ 2 ≤ k ∧ k ≤ 1000 ∧ a.length ≤ 1000) : binD .Mult (.tuple a) (.int k) S = .ok (.tuple (List.replicate k.toNat a).flatten) S := by
  unfold binD
  exact if_pos h
theorem mul_lst {a : List D} {k : Int} {S : Sto} (h0 : -(2 ^ 63) ≤ k) (h1 : k < 2 ^ 63) (h2 : a.length * k.toNat ≤ sizeLine) : binD .Mult (.list a) (.int k) S = .ok (.list (List.replicate k.toNat a).flatten) S := by
  unfold binD
  exact if_pos (And.intro h0 (And.intro h1 h2))
theorem mul_str {a : Str} {k : Int} {S : Sto} (h0 : 0 ≤ k) (h1 : k ≤ 1000) (h2 : a.length ≤ 1000) : binD .Mult (.str a) (.int k) S = .ok (.str (repS k a)) S := by
  unfold binD
  exact if_pos (And.intro h0 (And.intro h1 h2))
theorem cat_s {a b : Str} {S : Sto} (h : a.length + b.length ≤ sizeLine) : binD .Add (.str a) (.str b) S = .ok (.str (a ++ b)) S := by
  unfold binD
  exact if_pos h
theorem cat_t {a b : List D} {S : Sto} (h : a.length + b.length ≤ sizeLine) : binD .Add (.tuple a) (.tuple b) S = .ok (.tuple (a ++ b)) S := by
  unfold binD
  exact if_pos h
theorem cat_l {a b : List D} {S : Sto} (h : a.length + b.length ≤ sizeLine) : binD .Add (.list a) (.list b) S = .ok (.list (a ++ b)) S := by
  unfold binD
  exact if_pos h
theorem str_i {i : Int} {S : Sto} (h : i.natAbs.log2 < 1920) : bltD .str [.int i] S = .ok (.str (Str.ofString i.repr)) S := if_pos h
theorem in_tup {x : D} {ys : List D} {S : Sto} (h1 : plain (.tuple ys) = true) (h2 : plain x = true) : cmpD .In x (.tuple ys) S = .ok (.bool (inD x ys)) S := by
  unfold cmpD
  exact if_pos (And.intro h1 h2)
theorem in_lst {x : D} {ys : List D} {S : Sto} (h1 : plain (.list ys) = true) (h2 : plain x = true) : cmpD .In x (.list ys) S = .ok (.bool (inD x ys)) S := by
  unfold cmpD
  exact if_pos (And.intro h1 h2)
theorem nin_lst {x : D} {ys : List D} {S : Sto} (h1 : plain (.list ys) = true) (h2 : plain x = true) : cmpD .NotIn x (.list ys) S = .ok (.bool (!inD x ys)) S := by
  unfold cmpD
  exact if_pos (And.intro h1 h2)
@[simp] theorem isi_s {x : Str} {S : Sto} : isiD "tuple" (.str x) S = .ok (.bool false) S := id rfl
@[simp] theorem isi_t {x : List D} {S : Sto} : isiD "tuple" (.tuple x) S = .ok (.bool true) S := id rfl
@[simp] theorem isi_n {S : Sto} : isiD "tuple" .none S = .ok (.bool false) S := id rfl
@[simp] theorem isi_b {b : Bool} {S : Sto} : isiD "tuple" (.bool b) S = .ok (.bool false) S := id rfl
@[simp] theorem is_nn {S : Sto} : cmpD .Is .none .none S = .ok (.bool true) S := id rfl
@[simp] theorem is_sn {x : Str} {S : Sto} : cmpD .Is (.str x) .none S = .ok (.bool false) S := id rfl
@[simp] theorem is_tn {x : List D} {S : Sto} : cmpD .Is (.tuple x) .none S = .ok (.bool false) S := id rfl
@[simp] theorem is_bn {x : Bool} {S : Sto} : cmpD .Is (.bool x) .none S = .ok (.bool false) S := id rfl
@[simp] theorem is_sb {x : Str} {b : Bool} {S : Sto} : cmpD .Is (.str x) (.bool b) S = .ok (.bool false) S := id rfl
@[simp] theorem is_tb {x : List D} {b : Bool} {S : Sto} : cmpD .Is (.tuple x) (.bool b) S = .ok (.bool false) S := id rfl
@[simp] theorem is_nb {b : Bool} {S : Sto} : cmpD .Is .none (.bool b) S = .ok (.bool false) S := id rfl
@[simp] theorem isnot_sb {x : Str} {b : Bool} {S : Sto} : cmpD .IsNot (.str x) (.bool b) S = .ok (.bool true) S := id rfl
@[simp] theorem isnot_tb {x : List D} {b : Bool} {S : Sto} : cmpD .IsNot (.tuple x) (.bool b) S = .ok (.bool true) S := id rfl
@[simp] theorem isnot_nb {b : Bool} {S : Sto} : cmpD .IsNot .none (.bool b) S = .ok (.bool true) S := id rfl
/-! ### texts by signs -/
theorem one_lt {a b : Nat} : ([a] < [b]) ↔ a < b := by simp [List.cons_lt_cons_iff]
theorem ok_one {c : Nat} (h : c < 0x110000) : strOk ⟨#[c]⟩ = true := by simp [strOk, h]
theorem ok_cps {a : Str} (oa : strOk a = true) : ∀ c ∈ a.cps.toList, c < 0x110000 := by
  intro c hc
  have := oa
  unfold strOk at this
  rw [Array.all_eq_true_iff_forall_mem] at this
  simpa using this c (by simpa using hc)
theorem lt_cc {a b : Nat} {S : Sto} {x y : Str} (hx : x.cps.toList = [a]) (hy : y.cps.toList = [b]) (ox : strOk x = true) (oy : strOk y = true) : cmpD .Lt (.str x) (.str y) S = .ok (.bool (decide (a < b))) S := by
  rw [lt_s ox oy, hx, hy]
  congr 2
  exact Bool.eq_iff_iff.mpr (by simp [one_lt])
theorem gt_cc {a b : Nat} {S : Sto} {x y : Str} (hx : x.cps.toList = [a]) (hy : y.cps.toList = [b]) (ox : strOk x = true) (oy : strOk y = true) : cmpD .Gt (.str x) (.str y) S = .ok (.bool (decide (b < a))) S := by
  rw [gt_s ox oy, hx, hy]
  congr 2
  exact Bool.eq_iff_iff.mpr (by simp [one_lt])
theorem le_cc {a b : Nat} {S : Sto} {x y : Str} (hx : x.cps.toList = [a]) (hy : y.cps.toList = [b]) (ox : strOk x = true) (oy : strOk y = true) : cmpD .LtE (.str x) (.str y) S = .ok (.bool (decide (a ≤ b))) S := by
  unfold cmpD
  dsimp only
  rw [PySem.W.dataLt_str, hx, hy]
  refine (if_pos (And.intro (by simpa using ox) (And.intro (by simpa using oy) (And.intro rfl rfl)))).trans ?_
  congr 2
  rw [Bool.eq_iff_iff]
  simp [one_lt]
/-- a loop with an invariant that may return -/
theorem frL_ret {d : D} {all : List D} {step : D → Fr → Sto → SO} (h : ∀ S, stays d all S = true) (I : List D → Fr → Sto → Prop) (P : D → Sto → Prop) : ∀ (xs : List D) (σ : Fr) (S : Sto), I xs σ S →
    (∀ x xs σ S, I (x :: xs) σ S → (∃ σ' S', step x σ S = .nx σ' S' ∧ I xs σ' S') ∨ ∃ v S', step x σ S = .rt v S' ∧ P v S') → (∃ σ' S', frL d all step xs σ S = .nx σ' S' ∧ I [] σ' S') ∨ ∃ v S', frL d all step xs σ S = .rt v S' ∧ P v S'
  | [], σ, S, i, _ => .inl ⟨σ, S, by rw [frL], i⟩
  | x :: xs, σ, S, i, hs => by
    rcases hs x xs σ S i with ⟨σ1, S1, e, i1⟩ | ⟨v, S1, e, p⟩
    · rcases frL_ret h I P xs σ1 S1 i1 hs with ⟨σ2, S2, e2, i2⟩ | ⟨v, S2, e2, p⟩
      · exact .inl ⟨σ2, S2, by rw [frL_cons h, e, again_nx, e2], i2⟩
      · exact .inr ⟨v, S2, by rw [frL_cons h, e, again_nx, e2], p⟩
    · exact .inr ⟨v, S1, by rw [frL_cons h, e, again_rt], p⟩
end Cr
set_option Elab.async false
set_option linter.all false
set_option maxRecDepth 100000
namespace K10
open PySem L2 Cr
def top (i : Nat) : Stmt := PySem.Challenge.pw_flowreprise_k10_types_and_values.main.body.getD i (.Pass ⟨0, 0, 0, 0⟩)
def fns : List (Str × Nat) := [("is_type", 1), ("kind_of", 1), ("fits", 2), ("joined", 2), ("known_type", 1), ("depth_of", 1), ("within", 1), ("is_value", 1), ("_law_state", 1), ("_law_draw", 2), ("_law_pick", 2), ("_law_type", 2), ("_law_value", 2), ("_law_deep_list", 2), ("_law_shape", 2), ("_law_within", 1), ("_law_depth", 1), ("_law_fits", 2), ("_law_known", 1), ("_law_both", 2), ("_law_kinds", 1), ("law", 1)]
def gls : List (Str × D) := [("MOST_NUMBER", (.int 1000000000000)), ("MOST_TEXT", (.int 60)), ("MOST_ITEMS", (.int 20)), ("MOST_DEPTH", (.int 6)), ("PLAIN", (.tuple [(.str "int"), (.str "bool"), (.str "text"), (.str "nothing")]))]
/-! is_type(kind): 0 kind, 1 depth -/
def b0 : List CS := [
  .asg (.nm 1) (.con (.int 0)),
  .whl (.and (.isi (.var 0) "tuple") (.and (.cmp .Eq (.blt .len [.var 0]) (.con (.int 2))) (.cmp .Eq (.idx (.var 0) (.con (.int 0))) (.con (.str "list"))))) [.asg (.nm 0) (.idx (.var 0) (.con (.int 1))), .aug 1 .Add (.con (.int 1))],
  .ret (.and (.cmp .In (.var 0) (.con (.tuple [(.str "int"), (.str "bool"), (.str "text"), (.str "nothing")]))) (.cmp .LtE (.var 1) (.con (.int 6))))]
def f0 : Fn := ⟨2, 1, false, b0⟩
/-! kind_of(value): 0 value -/
def b1 : List CS := [
  .ret (.idx (.var 0) (.con (.int 0)))]
def f1 : Fn := ⟨1, 1, false, b1⟩
/-! fits(value, kind): 0 value, 1 kind, 2 item -/
def b2 : List CS := [
  .ife (.isi (.var 1) "tuple") [.ret (.and (.cmp .Eq (.idx (.var 0) (.con (.int 0))) (.con (.str "list"))) (.blt .all [.lc false 2 (.idx (.var 0) (.con (.int 1))) [] (.call 2 [.var 2, .idx (.var 1) (.con (.int 1))])]))] [],
  .ret (.cmp .Eq (.idx (.var 0) (.con (.int 0))) (.var 1))]
def f2 : Fn := ⟨3, 2, false, b2⟩
/-! joined(one, other): 0 one, 1 other, 2 inner -/
def b3 : List CS := [
  .ife (.or (.cmp .Is (.var 0) (.con .none)) (.cmp .Is (.var 1) (.con .none))) [.ret (.ite (.cmp .Is (.var 0) (.con .none)) (.var 1) (.var 0))] [],
  .ife (.or (.not (.isi (.var 0) "tuple")) (.not (.isi (.var 1) "tuple"))) [.ret (.ite (.cmp .Eq (.var 0) (.var 1)) (.var 0) (.con (.bool false)))] [],
  .asg (.nm 2) (.call 3 [.idx (.var 0) (.con (.int 1)), .idx (.var 1) (.con (.int 1))]),
  .ret (.ite (.cmp .Is (.var 2) (.con (.bool false))) (.con (.bool false)) (.tup [.con (.str "list"), .var 2]))]
def f3 : Fn := ⟨3, 2, false, b3⟩
/-! known_type(value): 0 value, 1 inner, 2 item, 3 kind -/
def b4 : List CS := [
  .ife (.cmp .NotEq (.idx (.var 0) (.con (.int 0))) (.con (.str "list"))) [.ret (.idx (.var 0) (.con (.int 0)))] [],
  .asg (.nm 1) (.con .none),
  .fro (.nm 2) (.idx (.var 0) (.con (.int 1))) [.asg (.nm 3) (.call 4 [.var 2]), .asg (.nm 1) (.ite (.cmp .Is (.var 3) (.con (.bool false))) (.con (.bool false)) (.call 3 [.var 1, .var 3])), .ife (.cmp .Is (.var 1) (.con (.bool false))) [.ret (.con (.bool false))] []],
  .ret (.tup [.con (.str "list"), .var 1])]
def f4 : Fn := ⟨4, 1, false, b4⟩
/-! depth_of(value): 0 value, 1 item -/
def b5 : List CS := [
  .ife (.cmp .NotEq (.idx (.var 0) (.con (.int 0))) (.con (.str "list"))) [.ret (.con (.int 0))] [],
  .ret (.bop .Add (.con (.int 1)) (.mxd (.lc false 1 (.idx (.var 0) (.con (.int 1))) [] (.call 5 [.var 1])) 0))]
def f5 : Fn := ⟨2, 1, false, b5⟩
/-! within(value): 0 value, 1 char, 2 item -/
def b6 : List CS := [
  .ife (.cmp .Eq (.idx (.var 0) (.con (.int 0))) (.con (.str "int"))) [.ret (.chn .LtE .LtE (.neg (.con (.int 1000000000000))) (.idx (.var 0) (.con (.int 1))) (.con (.int 1000000000000)))] [],
  .ife (.cmp .Eq (.idx (.var 0) (.con (.int 0))) (.con (.str "text"))) [.ret (.and (.cmp .LtE (.blt .len [.idx (.var 0) (.con (.int 1))]) (.con (.int 60))) (.blt .all [.lc false 1 (.idx (.var 0) (.con (.int 1))) [] (.chn .LtE .LtE (.con (.str " ")) (.var 1) (.con (.str "~")))]))] [],
  .ife (.cmp .Eq (.idx (.var 0) (.con (.int 0))) (.con (.str "list"))) [.ret (.and (.cmp .LtE (.blt .len [.idx (.var 0) (.con (.int 1))]) (.con (.int 20))) (.blt .all [.lc false 2 (.idx (.var 0) (.con (.int 1))) [] (.call 6 [.var 2])]))] [],
  .ret (.con (.bool true))]
def f6 : Fn := ⟨3, 1, false, b6⟩
/-! is_value(value): 0 value -/
def b7 : List CS := [
  .ret (.and (.call 6 [.var 0]) (.and (.cmp .LtE (.call 5 [.var 0]) (.con (.int 6))) (.cmp .IsNot (.call 4 [.var 0]) (.con (.bool false)))))]
def f7 : Fn := ⟨1, 1, false, b7⟩
/-! _law_state(_law_script): 0 _law_script, 1 _law_seed, 2 _law_cell -/
def b8 : List CS := [
  .asg (.nm 1) (.con (.int 7)),
  .fro (.nm 2) (.var 0) [.asg (.nm 1) (.bop .Mod (.blt .int [.bop .Add (.bop .Mult (.var 1) (.con (.int 31))) (.var 2)]) (.con (.int 1000003)))],
  .ret (.lst true [.lc true 2 (.var 0) [] (.blt .abs [.var 2]), .bop .Add (.var 1) (.con (.int 1))])]
def f8 : Fn := ⟨3, 1, false, b8⟩
/-! _law_draw(_law_state_here, _law_many): 0 _law_state_here, 1 _law_many, 2 _law_cells, 3 _law_mixed, 4 _law_value_here -/
def b9 : List CS := [
  .ife (.cmp .Lt (.var 1) (.con (.int 1))) [.ret (.con (.int 0))] [],
  .asg (.nm 2) (.idx (.var 0) (.con (.int 0))),
  .whl (.and (.cmp .Gt (.blt .len [.var 2]) (.con (.int 0))) (.cmp .Eq (.idx (.var 2) (.con (.int 0))) (.con (.int 0)))) [.exp (.mth .popAt (.var 2) [.con (.int 0)])],
  .ife (.cmp .Gt (.blt .len [.var 2]) (.con (.int 0))) [.asg (.nm 4) (.idx (.var 2) (.con (.int 0))), .asg (.sub (.var 2) (.con (.int 0))) (.bop .FloorDiv (.var 4) (.var 1)), .ret (.bop .Mod (.blt .int [.var 4]) (.var 1))] [],
  .asg (.nm 3) (.bop .Mod (.blt .int [.bop .Add (.bop .Mult (.idx (.var 0) (.con (.int 1))) (.con (.int 48271))) (.con (.int 12345))]) (.con (.int 2147483647))),
  .asg (.sub (.var 0) (.con (.int 1))) (.var 3),
  .ret (.bop .Mod (.blt .int [.bop .FloorDiv (.var 3) (.con (.int 64))]) (.var 1))]
def f9 : Fn := ⟨5, 2, false, b9⟩
/-! _law_pick(_law_state_here, _law_row): 0 _law_state_here, 1 _law_row -/
def b10 : List CS := [
  .ret (.idx (.var 1) (.call 9 [.var 0, .blt .len [.var 1]]))]
def f10 : Fn := ⟨2, 2, false, b10⟩
/-! _law_type(_law_state_here, _law_deep): 0 _law_state_here, 1 _law_deep -/
def b11 : List CS := [
  .ife (.and (.cmp .Gt (.var 1) (.con (.int 0))) (.cmp .Eq (.call 9 [.var 0, .con (.int 3)]) (.con (.int 0)))) [.ret (.tup [.con (.str "list"), .call 11 [.var 0, .bop .Sub (.var 1) (.con (.int 1))]])] [],
  .ret (.call 10 [.var 0, .lst false [.con (.str "int"), .con (.str "bool"), .con (.str "text"), .con (.str "nothing")]])]
def f11 : Fn := ⟨2, 2, false, b11⟩
/-! _law_value(_law_state_here, _law_kind): 0 _law_state_here, 1 _law_kind, 2 _law_many, 3 _law_k -/
def b12 : List CS := [
  .ife (.cmp .Eq (.var 1) (.con (.str "int"))) [.ret (.tup [.con (.str "int"), .call 10 [.var 0, .lst false [.con (.int 0), .con (.int 1), .neg (.con (.int 1)), .con (.int 10), .neg (.bop .Pow (.con (.int 10)) (.con (.int 12))), .bop .Pow (.con (.int 10)) (.con (.int 12)), .bop .Sub (.call 9 [.var 0, .con (.int 1000)]) (.con (.int 500))]]])] [],
  .ife (.cmp .Eq (.var 1) (.con (.str "bool"))) [.ret (.tup [.con (.str "bool"), .cmp .Eq (.call 9 [.var 0, .con (.int 2)]) (.con (.int 0))])] [],
  .ife (.cmp .Eq (.var 1) (.con (.str "text"))) [.ret (.tup [.con (.str "text"), .call 10 [.var 0, .lst false [.con (.str ""), .con (.str "a"), .con (.str "\""), .con (.str "\"\""), .con (.str "a b, c]"), .bop .Mult (.con (.str "~")) (.con (.int 60)), .bop .Mult (.con (.str "\"")) (.con (.int 60)), .con (.str "true")]]])] [],
  .ife (.cmp .Eq (.var 1) (.con (.str "nothing"))) [.ret (.tup [.con (.str "nothing")])] [],
  .asg (.nm 2) (.ite (.and (.cmp .Eq (.call 9 [.var 0, .con (.int 30)]) (.con (.int 0))) (.not (.isi (.idx (.var 1) (.con (.int 1))) "tuple"))) (.con (.int 20)) (.call 9 [.var 0, .con (.int 4)])),
  .ret (.tup [.con (.str "list"), .blt .tuple [.lr false 3 [.var 2] [] (.call 12 [.var 0, .idx (.var 1) (.con (.int 1))])]])]
def f12 : Fn := ⟨4, 2, false, b12⟩
/-! _law_deep_list(_law_value_here, _law_count): 0 _law_value_here, 1 _law_count, 2 _law_k -/
def b13 : List CS := [
  .frr (.nm 2) [.var 1] [.asg (.nm 0) (.tup [.con (.str "list"), .tup [.var 0]])],
  .ret (.var 0)]
def f13 : Fn := ⟨3, 2, false, b13⟩
/-! _law_shape(_law_state_here, _law_deep): 0 _law_state_here, 1 _law_deep, 2 _law_kind, 3 _law_k -/
def b14 : List CS := [
  .asg (.nm 2) (.call 9 [.var 0, .con (.int 12)]),
  .ife (.or (.cmp .Lt (.var 2) (.con (.int 5))) (.cmp .Eq (.var 1) (.con (.int 0)))) [.ret (.call 12 [.var 0, .call 10 [.var 0, .lst false [.con (.str "int"), .con (.str "bool"), .con (.str "text"), .con (.str "nothing")]]])] [],
  .ife (.cmp .Eq (.var 2) (.con (.int 5))) [.ret (.tup [.con (.str "int"), .call 10 [.var 0, .lst false [.bop .Add (.bop .Pow (.con (.int 10)) (.con (.int 12))) (.con (.int 1)), .bop .Sub (.neg (.bop .Pow (.con (.int 10)) (.con (.int 12)))) (.con (.int 1))]]])] [],
  .ife (.cmp .Eq (.var 2) (.con (.int 6))) [.ret (.tup [.con (.str "text"), .call 10 [.var 0, .lst false [.bop .Mult (.con (.str "a")) (.con (.int 61)), .con (.str "a\n"), .con (.str "\t")]]])] [],
  .ife (.cmp .Eq (.var 2) (.con (.int 7))) [.ret (.tup [.con (.str "list"), .blt .tuple [.bop .Mult (.lst false [.tup [.con (.str "int"), .con (.int 1)]]) (.call 10 [.var 0, .lst false [.con (.int 20), .con (.int 21)]])]])] [],
  .ife (.cmp .Eq (.var 2) (.con (.int 8))) [.ret (.call 13 [.call 10 [.var 0, .lst false [.tup [.con (.str "int"), .con (.int 3)], .tup [.con (.str "list"), .tup []]]], .bop .Add (.con (.int 3)) (.call 9 [.var 0, .con (.int 5)])])] [],
  .ret (.tup [.con (.str "list"), .blt .tuple [.lr false 3 [.call 9 [.var 0, .con (.int 3)]] [] (.call 14 [.var 0, .bop .Sub (.var 1) (.con (.int 1))])]])]
def f14 : Fn := ⟨4, 2, false, b14⟩
/-! _law_within(_law_value_here): 0 _law_value_here, 1 _law_item, 2 _law_char -/
def b15 : List CS := [
  .ife (.cmp .Eq (.idx (.var 0) (.con (.int 0))) (.con (.str "int"))) [.ret (.cmp .LtE (.blt .abs [.idx (.var 0) (.con (.int 1))]) (.bop .Pow (.con (.int 10)) (.con (.int 12))))] [],
  .ife (.cmp .Eq (.idx (.var 0) (.con (.int 0))) (.con (.str "text"))) [.ret (.and (.cmp .LtE (.blt .len [.idx (.var 0) (.con (.int 1))]) (.con (.int 60))) (.cmp .Eq (.blt .len [.lc false 2 (.idx (.var 0) (.con (.int 1))) [.or (.cmp .Lt (.var 2) (.con (.str " "))) (.cmp .Gt (.var 2) (.con (.str "~")))] (.var 2)]) (.con (.int 0))))] [],
  .ife (.cmp .Eq (.idx (.var 0) (.con (.int 0))) (.con (.str "list"))) [.ret (.and (.cmp .LtE (.blt .len [.idx (.var 0) (.con (.int 1))]) (.con (.int 20))) (.cmp .NotIn (.con (.bool false)) (.lc false 1 (.idx (.var 0) (.con (.int 1))) [] (.call 15 [.var 1]))))] [],
  .ret (.con (.bool true))]
def f15 : Fn := ⟨3, 1, false, b15⟩
/-! _law_depth(_law_value_here): 0 _law_value_here, 1 _law_item -/
def b16 : List CS := [
  .ife (.cmp .NotEq (.idx (.var 0) (.con (.int 0))) (.con (.str "list"))) [.ret (.con (.int 0))] [],
  .ret (.bop .Add (.con (.int 1)) (.blt .max [.bop .Add (.lst false [.con (.int 0)]) (.lc false 1 (.idx (.var 0) (.con (.int 1))) [] (.call 16 [.var 1]))]))]
def f16 : Fn := ⟨2, 1, false, b16⟩
/-! _law_fits(_law_value_here, _law_kind): 0 _law_value_here, 1 _law_kind, 2 _law_item -/
def b17 : List CS := [
  .ife (.not (.isi (.var 1) "tuple")) [.ret (.cmp .Eq (.idx (.var 0) (.con (.int 0))) (.var 1))] [],
  .ret (.and (.cmp .Eq (.idx (.var 0) (.con (.int 0))) (.con (.str "list"))) (.cmp .NotIn (.con (.bool false)) (.lc false 2 (.idx (.var 0) (.con (.int 1))) [] (.call 17 [.var 2, .idx (.var 1) (.con (.int 1))]))))]
def f17 : Fn := ⟨3, 2, false, b17⟩
/-! _law_known(_law_value_here): 0 _law_value_here, 1 _law_found, 2 _law_item -/
def b18 : List CS := [
  .ife (.cmp .NotEq (.idx (.var 0) (.con (.int 0))) (.con (.str "list"))) [.ret (.idx (.var 0) (.con (.int 0)))] [],
  .asg (.nm 1) (.con .none),
  .fro (.nm 2) (.idx (.var 0) (.con (.int 1))) [.asg (.nm 1) (.call 19 [.var 1, .call 18 [.var 2]])],
  .ret (.ite (.cmp .Eq (.var 1) (.con (.str "none"))) (.con (.str "none")) (.tup [.con (.str "list"), .var 1]))]
def f18 : Fn := ⟨3, 1, false, b18⟩
/-! _law_both(_law_one, _law_other): 0 _law_one, 1 _law_other, 2 _law_inner -/
def b19 : List CS := [
  .ife (.or (.cmp .Is (.var 0) (.con .none)) (.cmp .Is (.var 1) (.con .none))) [.ret (.ite (.cmp .Is (.var 0) (.con .none)) (.var 1) (.var 0))] [],
  .ife (.and (.isi (.var 0) "tuple") (.isi (.var 1) "tuple")) [.asg (.nm 2) (.call 19 [.idx (.var 0) (.con (.int 1)), .idx (.var 1) (.con (.int 1))]), .ret (.ite (.cmp .Eq (.var 2) (.con (.str "none"))) (.con (.str "none")) (.tup [.con (.str "list"), .var 2]))] [],
  .ret (.ite (.cmp .Eq (.var 0) (.var 1)) (.var 0) (.con (.str "none")))]
def f19 : Fn := ⟨3, 2, false, b19⟩
/-! _law_kinds(_law_deep): 0 _law_deep, 1 _law_found, 2 _law_last, 3 _law_k, 4 _law_kind -/
def b20 : List CS := [
  .asg (.nm 1) (.lst false [.con (.str "int"), .con (.str "bool"), .con (.str "text"), .con (.str "nothing")]),
  .asg (.nm 2) (.var 1),
  .frr (.nm 3) [.var 0] [.asg (.nm 2) (.lc false 4 (.var 2) [] (.tup [.con (.str "list"), .var 4])), .asg (.nm 1) (.bop .Add (.var 1) (.var 2))],
  .ret (.var 1)]
def f20 : Fn := ⟨5, 1, false, b20⟩
/-! law(_law_script): 0 _law_script, 1 _law_state_here, 2 _law_kind, 3 _law_k, 4 _law_value_here, 5 _law_rows, 6 _law_one, 7 _law_shape_here, 8 _law_turn, 9 _law_core, 10 _law_told, 11 _law_due, 12 _law_other, 13 _law_both_here, 14 _law_wanted -/
def b21 : List CS := [
  .asg (.nm 1) (.call 8 [.var 0]),
  .asg (.nm 2) (.call 11 [.var 1, .con (.int 6)]),
  .frr (.nm 3) [.con (.int 9)] [.asg (.nm 7) (.call 10 [.var 1, .lst false [.con (.str "int"), .con (.str "bool"), .con (.str "text"), .con (.str "nothing"), .con (.str "list"), .con (.str "number"), .con (.str "")]]), .frr (.nm 8) [.var 3] [.asg (.nm 7) (.tup [.con (.str "list"), .var 7])], .asg (.nm 9) (.var 7), .frr (.nm 8) [.var 3] [.asg (.nm 9) (.idx (.var 9) (.con (.int 1)))], .ife (.cmp .NotEq (.blt .repr [.call 0 [.var 7]]) (.blt .repr [.and (.cmp .In (.var 9) (.tup [.con (.str "int"), .con (.str "bool"), .con (.str "text"), .con (.str "nothing")])) (.cmp .LtE (.var 3) (.con (.int 6)))])) [.ret (.con (.bool false))] []],
  .asg (.nm 4) (.call 12 [.var 1, .var 2]),
  .ife (.or (.not (.call 0 [.var 2])) (.or (.cmp .IsNot (.call 2 [.var 4, .var 2]) (.con (.bool true))) (.or (.cmp .IsNot (.call 7 [.var 4]) (.con (.bool true))) (.cmp .NotEq (.call 1 [.var 4]) (.idx (.var 4) (.con (.int 0))))))) [.ret (.con (.bool false))] [],
  .asg (.nm 5) (.lr false 3 [.con (.int 3)] [] (.call 14 [.var 1, .con (.int 3)])),
  .fro (.nm 6) (.var 5) [.asg (.nm 10) (.call 4 [.var 6]), .asg (.nm 11) (.call 18 [.var 6]), .ife (.cmp .NotEq (.var 10) (.ite (.cmp .Eq (.var 11) (.con (.str "none"))) (.con (.bool false)) (.var 11))) [.ret (.con (.bool false))] [], .ife (.cmp .NotEq (.blt .repr [.call 7 [.var 6]]) (.blt .repr [.and (.call 15 [.var 6]) (.and (.cmp .LtE (.call 16 [.var 6]) (.con (.int 6))) (.cmp .NotEq (.var 11) (.con (.str "none"))))])) [.ret (.con (.bool false))] [], .fro (.nm 12) (.call 20 [.con (.int 4)]) [.ife (.cmp .NotEq (.blt .repr [.call 2 [.var 6, .var 12]]) (.blt .repr [.call 17 [.var 6, .var 12]])) [.ret (.con (.bool false))] []], .fro (.nm 12) (.var 5) [.ife (.and (.cmp .NotEq (.call 18 [.var 12]) (.con (.str "none"))) (.cmp .NotEq (.var 11) (.con (.str "none")))) [.asg (.nm 13) (.call 3 [.var 10, .call 4 [.var 12]]), .asg (.nm 14) (.call 19 [.var 11, .call 18 [.var 12]]), .ife (.or (.cmp .NotEq (.var 13) (.ite (.cmp .Eq (.var 14) (.con (.str "none"))) (.con (.bool false)) (.var 14))) (.cmp .NotEq (.call 3 [.call 4 [.var 12], .var 10]) (.var 13))) [.ret (.con (.bool false))] []] []]],
  .ret (.con (.bool true))]
def f21 : Fn := ⟨15, 1, false, b21⟩
def T (i : Nat) : Option Fn := match i with
  | 0 => some f0
  | 1 => some f1
  | 2 => some f2
  | 3 => some f3
  | 4 => some f4
  | 5 => some f5
  | 6 => some f6
  | 7 => some f7
  | 8 => some f8
  | 9 => some f9
  | 10 => some f10
  | 11 => some f11
  | 12 => some f12
  | 13 => some f13
  | 14 => some f14
  | 15 => some f15
  | 16 => some f16
  | 17 => some f17
  | 18 => some f18
  | 19 => some f19
  | 20 => some f20
  | 21 => some f21
  | _ => none
def cx0 : Cxt := ⟨["kind", "depth"], defScope (top 6), fns, gls⟩
theorem k0 : chkB cx0 b0 (defBody (top 6)) = true := by decide +kernel
theorem s0 : C8.scC cx0.N ["kind"] (defScope (top 6)) = true := by decide +kernel
def cx1 : Cxt := ⟨["value"], defScope (top 7), fns, gls⟩
theorem k1 : chkB cx1 b1 (defBody (top 7)) = true := by decide +kernel
theorem s1 : C8.scC cx1.N ["value"] (defScope (top 7)) = true := by decide +kernel
def cx2 : Cxt := ⟨["value", "kind", "item"], defScope (top 8), fns, gls⟩
theorem k2 : chkB cx2 b2 (defBody (top 8)) = true := by decide +kernel
theorem s2 : C8.scC cx2.N ["value", "kind"] (defScope (top 8)) = true := by decide +kernel
def cx3 : Cxt := ⟨["one", "other", "inner"], defScope (top 9), fns, gls⟩
theorem k3 : chkB cx3 b3 (defBody (top 9)) = true := by decide +kernel
theorem s3 : C8.scC cx3.N ["one", "other"] (defScope (top 9)) = true := by decide +kernel
def cx4 : Cxt := ⟨["value", "inner", "item", "kind"], defScope (top 10), fns, gls⟩
theorem k4 : chkB cx4 b4 (defBody (top 10)) = true := by decide +kernel
theorem s4 : C8.scC cx4.N ["value"] (defScope (top 10)) = true := by decide +kernel
def cx5 : Cxt := ⟨["value", "item"], defScope (top 11), fns, gls⟩
theorem k5 : chkB cx5 b5 (defBody (top 11)) = true := by decide +kernel
theorem s5 : C8.scC cx5.N ["value"] (defScope (top 11)) = true := by decide +kernel
def cx6 : Cxt := ⟨["value", "char", "item"], defScope (top 12), fns, gls⟩
theorem k6 : chkB cx6 b6 (defBody (top 12)) = true := by decide +kernel
theorem s6 : C8.scC cx6.N ["value"] (defScope (top 12)) = true := by decide +kernel
def cx7 : Cxt := ⟨["value"], defScope (top 13), fns, gls⟩
theorem k7 : chkB cx7 b7 (defBody (top 13)) = true := by decide +kernel
theorem s7 : C8.scC cx7.N ["value"] (defScope (top 13)) = true := by decide +kernel
def cx8 : Cxt := ⟨["_law_script", "_law_seed", "_law_cell"], defScope (top 15), fns, gls⟩
theorem k8 : chkB cx8 b8 (defBody (top 15)) = true := by decide +kernel
theorem s8 : C8.scC cx8.N ["_law_script"] (defScope (top 15)) = true := by decide +kernel
def cx9 : Cxt := ⟨["_law_state_here", "_law_many", "_law_cells", "_law_mixed", "_law_value_here"], defScope (top 16), fns, gls⟩
theorem k9 : chkB cx9 b9 (defBody (top 16)) = true := by decide +kernel
theorem s9 : C8.scC cx9.N ["_law_state_here", "_law_many"] (defScope (top 16)) = true := by decide +kernel
def cx10 : Cxt := ⟨["_law_state_here", "_law_row"], defScope (top 17), fns, gls⟩
theorem k10 : chkB cx10 b10 (defBody (top 17)) = true := by decide +kernel
theorem s10 : C8.scC cx10.N ["_law_state_here", "_law_row"] (defScope (top 17)) = true := by decide +kernel
def cx11 : Cxt := ⟨["_law_state_here", "_law_deep"], defScope (top 18), fns, gls⟩
theorem k11 : chkB cx11 b11 (defBody (top 18)) = true := by decide +kernel
theorem s11 : C8.scC cx11.N ["_law_state_here", "_law_deep"] (defScope (top 18)) = true := by decide +kernel
def cx12 : Cxt := ⟨["_law_state_here", "_law_kind", "_law_many", "_law_k"], defScope (top 19), fns, gls⟩
theorem k12 : chkB cx12 b12 (defBody (top 19)) = true := by decide +kernel
theorem s12 : C8.scC cx12.N ["_law_state_here", "_law_kind"] (defScope (top 19)) = true := by decide +kernel
def cx13 : Cxt := ⟨["_law_value_here", "_law_count", "_law_k"], defScope (top 20), fns, gls⟩
theorem k13 : chkB cx13 b13 (defBody (top 20)) = true := by decide +kernel
theorem s13 : C8.scC cx13.N ["_law_value_here", "_law_count"] (defScope (top 20)) = true := by decide +kernel
def cx14 : Cxt := ⟨["_law_state_here", "_law_deep", "_law_kind", "_law_k"], defScope (top 21), fns, gls⟩
theorem k14 : chkB cx14 b14 (defBody (top 21)) = true := by decide +kernel
theorem s14 : C8.scC cx14.N ["_law_state_here", "_law_deep"] (defScope (top 21)) = true := by decide +kernel
def cx15 : Cxt := ⟨["_law_value_here", "_law_item", "_law_char"], defScope (top 22), fns, gls⟩
theorem k15 : chkB cx15 b15 (defBody (top 22)) = true := by decide +kernel
theorem s15 : C8.scC cx15.N ["_law_value_here"] (defScope (top 22)) = true := by decide +kernel
def cx16 : Cxt := ⟨["_law_value_here", "_law_item"], defScope (top 23), fns, gls⟩
theorem k16 : chkB cx16 b16 (defBody (top 23)) = true := by decide +kernel
theorem s16 : C8.scC cx16.N ["_law_value_here"] (defScope (top 23)) = true := by decide +kernel
def cx17 : Cxt := ⟨["_law_value_here", "_law_kind", "_law_item"], defScope (top 24), fns, gls⟩
theorem k17 : chkB cx17 b17 (defBody (top 24)) = true := by decide +kernel
theorem s17 : C8.scC cx17.N ["_law_value_here", "_law_kind"] (defScope (top 24)) = true := by decide +kernel
def cx18 : Cxt := ⟨["_law_value_here", "_law_found", "_law_item"], defScope (top 25), fns, gls⟩
theorem k18 : chkB cx18 b18 (defBody (top 25)) = true := by decide +kernel
theorem s18 : C8.scC cx18.N ["_law_value_here"] (defScope (top 25)) = true := by decide +kernel
def cx19 : Cxt := ⟨["_law_one", "_law_other", "_law_inner"], defScope (top 26), fns, gls⟩
theorem k19 : chkB cx19 b19 (defBody (top 26)) = true := by decide +kernel
theorem s19 : C8.scC cx19.N ["_law_one", "_law_other"] (defScope (top 26)) = true := by decide +kernel
def cx20 : Cxt := ⟨["_law_deep", "_law_found", "_law_last", "_law_k", "_law_kind"], defScope (top 27), fns, gls⟩
theorem k20 : chkB cx20 b20 (defBody (top 27)) = true := by decide +kernel
theorem s20 : C8.scC cx20.N ["_law_deep"] (defScope (top 27)) = true := by decide +kernel
def cx21 : Cxt := ⟨["_law_script", "_law_state_here", "_law_kind", "_law_k", "_law_value_here", "_law_rows", "_law_one", "_law_shape_here", "_law_turn", "_law_core", "_law_told", "_law_due", "_law_other", "_law_both_here", "_law_wanted"], defScope (top 28), fns, gls⟩
theorem k21 : chkB cx21 b21 (defBody (top 28)) = true := by decide +kernel
theorem s21 : C8.scC cx21.N ["_law_script"] (defScope (top 28)) = true := by decide +kernel
end K10
set_option Elab.async false
set_option linter.all false
set_option maxRecDepth 100000
set_option maxHeartbeats 2000000
namespace K10
set_option autoImplicit false
open PySem L2 Cr PyProof.Rows
open PySem.PyData (strOk)
def fuel : Nat := 100
/-! ### known types -/
inductive KT where
  | non
  | atom (s : Str)
  | list (t : KT)
def toK : KT → D
  | .non => .none
  | .atom s => .str s
  | .list t => .tuple [.str "list", toK t]
def join : KT → KT → Option KT
  | .non, y => some y
  | .atom s, .non => some (.atom s)
  | .atom s, .atom t => if s = t then some (.atom s) else none
  | .atom _, .list _ => none
  | .list t, .non => some (.list t)
  | .list _, .atom _ => none
  | .list t, .list u => (join t u).map .list
def kdep : KT → Nat
  | .list t => kdep t + 1
  | _ => 0
/-- its names are texts, none of them none -/
def kok : KT → Prop
  | .non => True
  | .atom s => strOk s = true ∧ s ≠ "none"
  | .list t => kok t
def fD : Option KT → D
  | some t => toK t
  | none => .bool false
def oD : Option KT → D
  | some t => toK t
  | none => .str "none"
theorem join_comm : ∀ a b : KT, join a b = join b a
  | .non, .non => rfl
  | .non, .atom _ => rfl
  | .non, .list _ => rfl
  | .atom _, .non => rfl
  | .atom s, .atom t => by
    unfold join
    by_cases h : s = t
    · subst h; rfl
    · rw [if_neg h, if_neg (Ne.symm h)]
  | .atom _, .list _ => rfl
  | .list _, .non => rfl
  | .list _, .atom _ => rfl
  | .list t, .list u => by rw [join, join, join_comm t u]
theorem join_ok : ∀ {a b c : KT}, join a b = some c → kok a → kok b → kok c
  | .non, b, c, h, ha, hb => by cases b <;> (rw [join] at h; cases h; exact hb)
  | .atom s, .non, c, h, ha, hb => by rw [join] at h; cases h; exact ha
  | .atom s, .atom t, c, h, ha, hb => by
    rw [join] at h
    split at h
    · cases h; exact ha
    · cases h
  | .atom s, .list t, c, h, ha, hb => by rw [join] at h; cases h
  | .list s, .non, c, h, ha, hb => by rw [join] at h; cases h; exact ha
  | .list s, .atom t, c, h, ha, hb => by rw [join] at h; cases h
  | .list s, .list t, c, h, ha, hb => by
    rw [join] at h
    obtain ⟨d, e, rfl⟩ := Option.map_eq_some_iff.mp h
    exact join_ok (a := s) (b := t) (c := d) e ha hb
theorem join_dep : ∀ {a b c : KT} {n : Nat}, join a b = some c → kdep a ≤ n → kdep b ≤ n → kdep c ≤ n
  | .non, b, c, n, h, ha, hb => by cases b <;> (rw [join] at h; cases h; exact hb)
  | .atom s, .non, c, n, h, ha, hb => by rw [join] at h; cases h; exact ha
  | .atom s, .atom t, c, n, h, ha, hb => by
    rw [join] at h
    split at h
    · cases h; exact ha
    · cases h
  | .atom s, .list t, c, n, h, ha, hb => by rw [join] at h; cases h
  | .list s, .non, c, n, h, ha, hb => by rw [join] at h; cases h; exact ha
  | .list s, .atom t, c, n, h, ha, hb => by rw [join] at h; cases h
  | .list s, .list t, c, n, h, ha, hb => by
    rw [join] at h
    obtain ⟨d, e, rfl⟩ := Option.map_eq_some_iff.mp h
    unfold kdep at ha hb ⊢
    cases n with
    | zero => omega
    | succ n =>
      have := join_dep (n := n) (a := s) (b := t) e (by omega) (by omega)
      omega
theorem toK_pl : ∀ (a : KT) (n : Nat), kok a → kdep a ≤ n → pl n (toK a) = true
  | .non, n, h, hd => by simp [toK]
  | .atom s, n, h, hd => by simpa [toK] using h.1
  | .list t, 0, h, hd => by unfold kdep at hd; omega
  | .list t, n + 1, h, hd => by
    unfold kdep at hd
    simp [toK, toK_pl t n h (by omega)]
theorem eq_al {s : Str} {t : KT} {S : Sto} (ha : kok (.atom s)) (hb : kok (.list t)) (hd : kdep (.list t) ≤ 60) : cmpD .Eq (.str s) (.tuple [.str "list", toK t]) S = .ok (.bool false) S := by
  have h1 : pl 64 (.str s) = true := by simpa using ha.1
  have h2 : pl 64 (.tuple [.str "list", toK t]) = true := pl_mono (toK_pl (.list t) 60 hb hd)
  rw [eq_d h1 h2, PyData.eqv]
theorem eq_la {s : Str} {t : KT} {S : Sto} (ha : kok (.atom s)) (hb : kok (.list t)) (hd : kdep (.list t) ≤ 60) : cmpD .Eq (.tuple [.str "list", toK t]) (.str s) S = .ok (.bool false) S := by
  have h1 : pl 64 (.str s) = true := by simpa using ha.1
  have h2 : pl 64 (.tuple [.str "list", toK t]) = true := pl_mono (toK_pl (.list t) 60 hb hd)
  rw [eq_d h2 h1, PyData.eqv]
section
variable (k : Nat) (S : Sto)
/-- joined -/
theorem r_join : ∀ (a b : KT) (n : Nat), kok a → kok b → kdep a ≤ n → n ≤ 60 → kdep b ≤ 60 → callN T fuel (k + n + 1) 3 [toK a, toK b] S = .ok (fD (join a b)) S
  | .non, b, n, ha, hb, hd, h60, hb60 => by
    rw [call_eq (fn := f3) rfl rfl]
    have e : join .non b = some b := by cases b <;> rw [join]
    simp [f3, b3, start0, toK, e, fD]
  | .atom s, .non, n, ha, hb, hd, h60, hb60 => by
    rw [call_eq (fn := f3) rfl rfl]
    simp [f3, b3, start0, toK, join, fD]
  | .atom s, .atom t, n, ha, hb, hd, h60, hb60 => by
    rw [call_eq (fn := f3) rfl rfl]
    by_cases h : s = t
    · subst h
      simp [f3, b3, start0, toK, join, fD, eq_s ha.1 hb.1]
    · simp [f3, b3, start0, toK, join, fD, eq_s ha.1 hb.1, h]
  | .atom s, .list t, n, ha, hb, hd, h60, hb60 => by
    rw [call_eq (fn := f3) rfl rfl]
    have e : cmpD .Eq (.str s) (.tuple [.str "list", toK t]) S = .ok (.bool false) S := by
      exact eq_al ha hb hb60
    simp [f3, b3, start0, toK, join, fD, e]
  | .list t, .non, n, ha, hb, hd, h60, hb60 => by
    rw [call_eq (fn := f3) rfl rfl]
    simp [f3, b3, start0, toK, join, fD]
  | .list t, .atom s, n, ha, hb, hd, h60, hb60 => by
    rw [call_eq (fn := f3) rfl rfl]
    have e : cmpD .Eq (.tuple [.str "list", toK t]) (.str s) S = .ok (.bool false) S := by
      exact eq_la hb ha (by omega)
    simp [f3, b3, start0, toK, join, fD, e]
  | .list t, .list u, n, ha, hb, hd, h60, hb60 => by
    cases n with
    | zero => unfold kdep at hd; omega
    | succ n =>
      unfold kdep at hd
      unfold kdep at hb60
      have ih := r_join t u n ha hb (by omega) (by omega) (by omega)
      rw [show k + (n + 1) + 1 = (k + n + 1) + 1 from by omega, call_eq (fn := f3) rfl rfl]
      rw [join]
      cases hj : join t u with
      | none =>
        rw [hj] at ih
        simp [f3, b3, start0, toK, ih, fD]
      | some c =>
        rw [hj] at ih
        cases c <;> simp [f3, b3, start0, toK, ih, fD]
theorem eqv_none {t : KT} (h : kok t) : PyData.eqv (toK t) (.str "none") = false := by
  cases t with
  | non => rw [toK, PyData.eqv]
  | atom s =>
    rw [toK, eqv_s]
    simp [h.2]
  | list t => rw [toK, PyData.eqv]
theorem eq_none {t : KT} {S : Sto} (h : kok t) (hd : kdep t ≤ 60) : cmpD .Eq (toK t) (.str "none") S = .ok (.bool false) S := by
  rw [eq_d (pl_mono (toK_pl t 60 h hd)) (by simp), eqv_none h]
theorem oD_pl {o : Option KT} (h : ∀ t, o = some t → kok t ∧ kdep t ≤ 60) : pl 64 (oD o) = true := by
  cases o with
  | none => simp [oD]
  | some t => exact pl_mono (toK_pl t 60 (h t rfl).1 (h t rfl).2)
/-- _law_both of two known types -/
theorem r_both0 : ∀ (a b : KT) (n : Nat), kok a → kok b → kdep a ≤ n → n ≤ 60 → kdep b ≤ 60 → callN T fuel (k + n + 1) 19 [toK a, toK b] S = .ok (oD (join a b)) S
  | .non, b, n, ha, hb, hd, h60, hb60 => by
    rw [call_eq (fn := f19) rfl rfl]
    have e : join .non b = some b := by cases b <;> rw [join]
    simp [f19, b19, start0, toK, e, oD]
  | .atom s, .non, n, ha, hb, hd, h60, hb60 => by
    rw [call_eq (fn := f19) rfl rfl]
    simp [f19, b19, start0, toK, join, oD]
  | .atom s, .atom t, n, ha, hb, hd, h60, hb60 => by
    rw [call_eq (fn := f19) rfl rfl]
    by_cases h : s = t
    · subst h
      simp [f19, b19, start0, toK, join, oD, eq_s ha.1 hb.1]
    · simp [f19, b19, start0, toK, join, oD, eq_s ha.1 hb.1, h]
  | .atom s, .list t, n, ha, hb, hd, h60, hb60 => by
    rw [call_eq (fn := f19) rfl rfl]
    have e : cmpD .Eq (.str s) (.tuple [.str "list", toK t]) S = .ok (.bool false) S := by
      exact eq_al ha hb hb60
    simp [f19, b19, start0, toK, join, oD, e]
  | .list t, .non, n, ha, hb, hd, h60, hb60 => by
    rw [call_eq (fn := f19) rfl rfl]
    simp [f19, b19, start0, toK, join, oD]
  | .list t, .atom s, n, ha, hb, hd, h60, hb60 => by
    rw [call_eq (fn := f19) rfl rfl]
    have e : cmpD .Eq (.tuple [.str "list", toK t]) (.str s) S = .ok (.bool false) S := by
      exact eq_la hb ha (by omega)
    simp [f19, b19, start0, toK, join, oD, e]
  | .list t, .list u, n, ha, hb, hd, h60, hb60 => by
    cases n with
    | zero => unfold kdep at hd; omega
    | succ n =>
      unfold kdep at hd hb60
      have ih := r_both0 t u n ha hb (by omega) (by omega) (by omega)
      rw [show k + (n + 1) + 1 = (k + n + 1) + 1 from by omega, call_eq (fn := f19) rfl rfl]
      rw [join]
      cases hj : join t u with
      | none =>
        rw [hj] at ih
        have e : oD none = .str "none" := rfl
        rw [e] at ih
        simp [f19, b19, start0, toK, ih, oD]
      | some c =>
        rw [hj] at ih
        have e : oD (some c) = toK c := rfl
        rw [e] at ih
        have e2 := eq_none (S := S) (join_ok hj ha hb) (join_dep (n := 60) hj (by omega) (by omega))
        simp [f19, b19, start0, toK, ih, oD, e2]
/-- .. and of such as are none -/
theorem r_both (a b : Option KT) (n : Nat) (ha : ∀ t, a = some t → kok t ∧ kdep t ≤ n) (hb : ∀ t, b = some t → kok t ∧ kdep t ≤ n) (hn : n ≤ 60) : callN T fuel (k + n + 1) 19 [oD a, oD b] S = .ok (oD (a.bind fun x => b.bind (join x))) S := by
  have N : pl 64 (.str "none" : D) = true := by simp
  cases a with
  | none =>
    have e : oD none = .str "none" := rfl
    rw [e, call_eq (fn := f19) rfl rfl]
    cases b with
    | none => simp [f19, b19, start0, oD]
    | some t =>
      obtain ⟨h1, h2⟩ := hb t rfl
      have q := eq_none (S := S) h1 (by omega)
      have q2 : cmpD .Eq (.str "none") (toK t) S = .ok (.bool false) S := by
        rw [eq_d N (pl_mono (toK_pl t n h1 h2)), PySem.W.eqv_comm, eqv_none h1]
      cases t <;> simp [f19, b19, start0, oD, toK] at q2 ⊢ <;> simp [q2]
  | some s =>
    obtain ⟨g1, g2⟩ := ha s rfl
    cases b with
    | some t =>
      obtain ⟨h1, h2⟩ := hb t rfl
      exact r_both0 k S s t n g1 h1 g2 hn (by omega)
    | none =>
      have e : oD none = .str "none" := rfl
      rw [e, call_eq (fn := f19) rfl rfl]
      have q := eq_none (S := S) g1 (by omega)
      cases s <;> simp [f19, b19, start0, oD, toK] at q ⊢ <;> simp [q]
end
end K10
set_option Elab.async false
set_option linter.all false
set_option maxRecDepth 100000
set_option maxHeartbeats 2000000
namespace K10
set_option autoImplicit false
open PySem L2 Cr PyProof.Rows
open PySem.PyData (strOk)
def vi (i : Int) : D := .tuple [.str "int", .int i]
def vt (x : Str) : D := .tuple [.str "text", .str x]
def vl (xs : List D) : D := .tuple [.str "list", .tuple xs]
def vb (b : Bool) : D := .tuple [.str "bool", .bool b]
def vn : D := .tuple [.str "nothing"]
inductive Sh : Nat → D → Prop where
  | int (n : Nat) (i : Int) : Sh n (vi i)
  | text (n : Nat) (s : Str) (o : strOk s = true) (l : s.length ≤ 1000) : Sh n (vt s)
  | bool (n : Nat) (b : Bool) : Sh n (vb b)
  | non (n : Nat) : Sh n vn
  | list (n : Nat) (xs : List D) (l : xs.length ≤ 1000) (h : ∀ x ∈ xs, Sh n x) : Sh (n + 1) (vl xs)
theorem pick_fun {α : Type} [Inhabited α] {xs : List D} {P : D → α → Prop} (h : ∀ x ∈ xs, ∃ b, P x b) : ∃ g : D → α, ∀ x ∈ xs, P x (g x) := by
  classical
  exact ⟨fun x => if c : x ∈ xs then Classical.choose (h x c) else default, fun x hx => by
    show P x (if c : x ∈ xs then Classical.choose (h x c) else default)
    rw [dif_pos hx]
    exact Classical.choose_spec (h x hx)⟩
/-- a comprehension that calls a def for each item -/
theorem lc_call {R : Nat → List D → Sto → Out D} {σ : Cr.Fr} {tg f : Nat} {args : List CE} {d : D} {S : Sto} {ys : D → List D} {g : D → D} (all : List D) (hs : ∀ S, stays d all S = true) : ∀ (xs : List D),
    (∀ x ∈ xs, evEs R args (σ.set tg (some x)) S = .ok (ys x) S ∧ R f (ys x) S = .ok (g x) S) → lcL d all (turnE (evT R []) (evE R (.call f args)) σ tg) xs S = .ok (xs.map g) S
  | [], _ => by rw [lcL]; rfl
  | x :: xs, h => by
    have ih := lc_call (R := R) (σ := σ) (tg := tg) (args := args) (f := f) (ys := ys) (g := g) (S := S) all hs xs fun y hy => h y (List.mem_cons_of_mem _ hy)
    obtain ⟨h1, h2⟩ := h x List.mem_cons_self
    rw [lcL]
    simp [turnE, h1, h2, hs, ih]
theorem bools_map (g : D → Bool) : ∀ xs : List D, boolsOf (xs.map fun x => .bool (g x)) = some (xs.map g)
  | [] => rfl
  | x :: xs => by rw [List.map_cons, boolsOf, bools_map g xs]; rfl
theorem all_of {xs : List D} {bs : List Bool} {S : Sto} (h : boolsOf xs = some bs) : bltD .all [.list xs] S = .ok (.bool (bs.all id)) S := by
  have e : bltD .all [.list xs] S = (match boolsOf xs with | some bs => .ok (.bool (bs.all id)) S | none => .bad) := rfl
  rw [e, h]
theorem all_map (g : D → Bool) (xs : List D) (S : Sto) : bltD .all [.list (xs.map fun x => .bool (g x))] S = .ok (.bool (xs.all g)) S := by
  rw [all_of (bools_map g xs), List.all_map]
  rfl
theorem in_false (g : D → Bool) : ∀ xs : List D, (!inD (.bool false) (xs.map fun x => .bool (g x))) = xs.all g
  | [] => rfl
  | x :: xs => by
    have ih := in_false g xs
    unfold inD at ih ⊢
    rw [List.map_cons, List.any_cons, List.all_cons, eqv_b, ← ih]
    cases g x <;> rfl
theorem pl_bools (g : D → Bool) (xs : List D) : plain (.list (xs.map fun x => .bool (g x))) = true := pl_plain (n := 1) (by simp)
theorem nin_map (g : D → Bool) (xs : List D) (S : Sto) : cmpD .NotIn (.bool false) (.list (xs.map fun x => .bool (g x))) S = .ok (.bool (xs.all g)) S := by
  rw [nin_lst (pl_bools g xs) (by simp), in_false]
/-! ### within -/
def okC (c : Nat) : Bool := decide (32 ≤ c) && decide (c ≤ 126)
theorem sp : (Str.ofString " ").cps.toList = [32] := by decide +kernel
theorem tl : (Str.ofString "~").cps.toList = [126] := by decide +kernel
theorem cps1 {c : Nat} : (⟨#[c]⟩ : Str).cps.toList = [c] := rfl
theorem lc_in {R : Nat → List D → Sto → Out D} {σ : Cr.Fr} {S : Sto} (hσ : 1 < σ.length) : ∀ (cs : List Nat) (all : List D), (∀ c ∈ cs, c < 0x110000) →
    lcL .none all (turnE (evT R []) (evE R (.chn .LtE .LtE (.con (.str " ")) (.var 1) (.con (.str "~")))) σ 1) (cs.map fun c => .str ⟨#[c]⟩) S = .ok (cs.map fun c => .bool (okC c)) S
  | [], all, _ => by rw [List.map_nil, lcL]; rfl
  | c :: cs, all, h => by
    have ih := lc_in (R := R) (σ := σ) (S := S) hσ cs all fun d hd => h d (List.mem_cons_of_mem _ hd)
    have oc := ok_one (h c List.mem_cons_self)
    have h1 := le_cc (S := S) sp (cps1 (c := c)) ok_ofs oc
    have h2 := le_cc (S := S) (cps1 (c := c)) tl oc ok_ofs
    rw [List.map_cons, lcL]
    by_cases q1 : 32 ≤ c
    · simp [turnE, hσ, h1, h2, q1, ih, okC]
    · simp [turnE, hσ, h1, q1, ih, okC]
theorem bools_c (g : Nat → Bool) : ∀ xs : List Nat, boolsOf (xs.map fun x => .bool (g x)) = some (xs.map g)
  | [] => rfl
  | x :: xs => by rw [List.map_cons, boolsOf, bools_c g xs]; rfl
theorem all_c (g : Nat → Bool) (xs : List Nat) (S : Sto) : bltD .all [.list (xs.map fun x => .bool (g x))] S = .ok (.bool (xs.all g)) S := by
  rw [all_of (bools_c g xs), List.all_map]
  rfl
theorem lc_bad {R : Nat → List D → Sto → Out D} {σ : Cr.Fr} {S : Sto} (hσ : 2 < σ.length) : ∀ (cs : List Nat) (all : List D), (∀ c ∈ cs, c < 0x110000) →
    lcL .none all (turnE (evT R [.or (.cmp .Lt (.var 2) (.con (.str " "))) (.cmp .Gt (.var 2) (.con (.str "~")))]) (evE R (.var 2)) σ 2) (cs.map fun c => .str ⟨#[c]⟩) S = .ok ((cs.filter fun c => !okC c).map fun c => .str ⟨#[c]⟩) S
  | [], all, _ => by rw [List.map_nil, lcL]; rfl
  | c :: cs, all, h => by
    have ih := lc_bad (R := R) (σ := σ) (S := S) hσ cs all fun d hd => h d (List.mem_cons_of_mem _ hd)
    have oc := ok_one (h c List.mem_cons_self)
    have h1 := lt_cc (S := S) (cps1 (c := c)) sp oc ok_ofs
    have h2 := gt_cc (S := S) (cps1 (c := c)) tl oc ok_ofs
    rw [List.map_cons, lcL]
    by_cases q1 : c < 32
    · have e : okC c = false := by simp [okC]; omega
      simp [turnE, hσ, h1, q1, ih, e]
    · by_cases q2 : 126 < c
      · have e : okC c = false := by simp [okC]; omega
        simp [turnE, hσ, h1, h2, q1, q2, ih, e]
      · have e : okC c = true := by simp [okC]; omega
        simp [turnE, hσ, h1, h2, q1, q2, ih, e]
theorem filt_nil (cs : List Nat) : (decide (((cs.filter fun c => !okC c).length : Int) = 0)) = cs.all okC := by
  rw [Bool.eq_iff_iff]
  simp
def okT (x : Str) : Bool := decide (x.length ≤ 60) && x.cps.toList.all okC
def inI (x : Int) : Bool := decide (-1000000000000 ≤ x) && decide (x ≤ 1000000000000)
section
variable (k : Nat) (S : Sto)
theorem w_int (i : Int) : callN T fuel (k + 1) 6 [vi i] S = .ok (.bool (inI i)) S := by
  rw [call_eq (fn := f6) rfl rfl]
  unfold inI
  by_cases h : -1000000000000 ≤ i <;> simp [f6, b6, start0, vi, h]
theorem w_text (a : Str) (oa : strOk a = true) (ha : a.length ≤ 1000) : callN T fuel (k + 1) 6 [vt a] S = .ok (.bool (okT a)) S := by
  rw [call_eq (fn := f6) rfl rfl]
  have hc := ok_cps oa
  have lc := fun all => lc_in (R := callN T fuel k) (σ := [some (vt a), none, none]) (S := S) (by simp) a.cps.toList all hc
  unfold vt at lc
  have hl : (a.cps.toList.map fun c => PyData.bool (okC c)).length ≤ 1000 := by rw [List.length_map]; exact ha
  unfold okT
  by_cases h : a.length ≤ 60
  · have h' : (a.length : Int) ≤ 60 := by omega
    simp [f6, b6, start0, vt, len_s (size_small ha), h, h', lc, mk_l (size_small hl), all_c]
  · have h' : ¬ (a.length : Int) ≤ 60 := by omega
    simp [f6, b6, start0, vt, len_s (size_small ha), h, h']
theorem w_list (xs : List D) (g : D → Bool) (n : Nat) (hx : ∀ x ∈ xs, callN T fuel n 6 [x] S = .ok (.bool (g x)) S) (hl : xs.length ≤ 1000) : callN T fuel (n + 1) 6 [vl xs] S = .ok (.bool (decide (xs.length ≤ 20) && xs.all g)) S := by
  rw [call_eq (fn := f6) rfl rfl]
  have lc := lc_call (R := callN T fuel n) (σ := [some (vl xs), none, none]) (tg := 2) (f := 6) (args := [.var 2]) (d := .tuple xs) (S := S) (ys := fun x => [x]) (g := fun x => .bool (g x)) xs (fun _ => stays_tup) xs (fun x hxm => ⟨by simp, hx x hxm⟩)
  unfold vl at lc
  have hm : (xs.map fun x => PyData.bool (g x)).length ≤ 1000 := by rw [List.length_map]; exact hl
  by_cases h : xs.length ≤ 20
  · have h' : (xs.length : Int) ≤ 20 := by omega
    simp [f6, b6, start0, vl, h, h']
    rw [lc]
    simp [mk_l (size_small hm), all_map]
  · have h' : ¬ (xs.length : Int) ≤ 20 := by omega
    simp [f6, b6, start0, vl, h, h']
theorem w_bool (b : Bool) : callN T fuel (k + 1) 6 [vb b] S = .ok (.bool true) S := by
  rw [call_eq (fn := f6) rfl rfl]
  simp [f6, b6, start0, vb]
theorem w_non : callN T fuel (k + 1) 6 [vn] S = .ok (.bool true) S := by
  rw [call_eq (fn := f6) rfl rfl]
  simp [f6, b6, start0, vn]
theorem pow12 : binD .Pow (.int 10) (.int 12) S = .ok (.int 1000000000000) S := by
  unfold binD
  exact if_pos (by decide)
theorem x_int (i : Int) : callN T fuel (k + 1) 15 [vi i] S = .ok (.bool (inI i)) S := by
  rw [call_eq (fn := f15) rfl rfl]
  have e : decide ((if i < 0 then -i else i) ≤ 1000000000000) = inI i := by
    unfold inI
    rw [Bool.eq_iff_iff]
    simp
    split <;> omega
  simp [f15, b15, start0, vi, pow12, e]
theorem x_text (a : Str) (oa : strOk a = true) (ha : a.length ≤ 1000) : callN T fuel (k + 1) 15 [vt a] S = .ok (.bool (okT a)) S := by
  rw [call_eq (fn := f15) rfl rfl]
  have hc := ok_cps oa
  have lc := fun all => lc_bad (R := callN T fuel k) (σ := [some (vt a), none, none]) (S := S) (by simp) a.cps.toList all hc
  unfold vt at lc
  have hl : (a.cps.toList.filter fun c => !okC c).length ≤ 1000 := Nat.le_trans (List.length_filter_le _ _) ha
  unfold okT
  by_cases h : a.length ≤ 60
  · have h' : (a.length : Int) ≤ 60 := by omega
    simp [f15, b15, start0, vt, len_s (size_small ha), h, h', lc, mk_l (xs := (a.cps.toList.filter fun c => !okC c).map fun c => PyData.str ⟨#[c]⟩) (size_small (by simpa using hl)), filt_nil]
    rw [Bool.eq_iff_iff, Array.all_eq_true_iff_forall_mem]
    simp
  · have h' : ¬ (a.length : Int) ≤ 60 := by omega
    simp [f15, b15, start0, vt, len_s (size_small ha), h, h']
theorem x_list (xs : List D) (g : D → Bool) (n : Nat) (hx : ∀ x ∈ xs, callN T fuel n 15 [x] S = .ok (.bool (g x)) S) (hl : xs.length ≤ 1000) : callN T fuel (n + 1) 15 [vl xs] S = .ok (.bool (decide (xs.length ≤ 20) && xs.all g)) S := by
  rw [call_eq (fn := f15) rfl rfl]
  have lc := lc_call (R := callN T fuel n) (σ := [some (vl xs), none, none]) (tg := 1) (f := 15) (args := [.var 1]) (d := .tuple xs) (S := S) (ys := fun x => [x]) (g := fun x => .bool (g x)) xs (fun _ => stays_tup) xs (fun x hxm => ⟨by simp, hx x hxm⟩)
  unfold vl at lc
  have hm : (xs.map fun x => PyData.bool (g x)).length ≤ 1000 := by rw [List.length_map]; exact hl
  by_cases h : xs.length ≤ 20
  · have h' : (xs.length : Int) ≤ 20 := by omega
    simp [f15, b15, start0, vl, h, h']
    rw [lc]
    simp [mk_l (size_small hm), nin_map]
  · have h' : ¬ (xs.length : Int) ≤ 20 := by omega
    simp [f15, b15, start0, vl, h, h']
theorem x_bool (b : Bool) : callN T fuel (k + 1) 15 [vb b] S = .ok (.bool true) S := by
  rw [call_eq (fn := f15) rfl rfl]
  simp [f15, b15, start0, vb]
theorem x_non : callN T fuel (k + 1) 15 [vn] S = .ok (.bool true) S := by
  rw [call_eq (fn := f15) rfl rfl]
  simp [f15, b15, start0, vn]
end
/-- within is what the law says -/
theorem within_ok : ∀ (n : Nat) (v : D), Sh n v → ∃ b : Bool, ∀ k S, callN T fuel (k + n + 1) 6 [v] S = .ok (.bool b) S ∧ callN T fuel (k + n + 1) 15 [v] S = .ok (.bool b) S := by
  intro n v h
  induction h with
  | int n i => exact ⟨_, fun k S => ⟨w_int _ S i, x_int _ S i⟩⟩
  | text n s o l => exact ⟨_, fun k S => ⟨w_text _ S s o l, x_text _ S s o l⟩⟩
  | bool n b => exact ⟨_, fun k S => ⟨w_bool _ S b, x_bool _ S b⟩⟩
  | non n => exact ⟨_, fun k S => ⟨w_non _ S, x_non _ S⟩⟩
  | list n xs l h ih =>
    obtain ⟨g, hg⟩ := pick_fun ih
    exact ⟨_, fun k S => ⟨w_list S xs g _ (fun x hx => (hg x hx k S).1) l, x_list S xs g _ (fun x hx => (hg x hx k S).2) l⟩⟩
end K10
set_option Elab.async false
set_option linter.all false
set_option maxRecDepth 100000
set_option maxHeartbeats 2000000
namespace K10
set_option autoImplicit false
open PySem L2 Cr PyProof.Rows
open PySem.PyData (strOk)
/-! ### depth -/
theorem ints_map (g : D → Nat) : ∀ xs : List D, intsOf (xs.map fun x => .int (g x : Int)) = some (xs.map fun x => (g x : Int))
  | [] => rfl
  | x :: xs => by rw [List.map_cons, intsOf, ints_map g xs]; rfl
theorem maxI_fold : ∀ (r : List Int) (n : Int), maxI n r = r.foldl max n
  | [], n => rfl
  | m :: r, n => by
    rw [maxI, List.foldl_cons, maxI_fold r]
    congr 1
    split <;> omega
theorem fold_nat (g : D → Nat) : ∀ (xs : List D) (n : Nat), (xs.map fun x => (g x : Int)).foldl max (n : Int) = ((xs.foldl (fun a x => max a (g x)) n : Nat) : Int)
  | [], n => rfl
  | x :: xs, n => by
    rw [List.map_cons, List.foldl_cons, List.foldl_cons]
    have e : max (n : Int) (g x : Int) = ((max n (g x) : Nat) : Int) := by omega
    rw [e, fold_nat g xs]
theorem mx_map (g : D → Nat) (xs : List D) (S : Sto) : mxD 0 (.list (xs.map fun x => .int (g x : Int))) S = .ok (.int ((xs.foldl (fun a x => max a (g x)) 0 : Nat) : Int)) S := by
  have e : mxD 0 (.list (xs.map fun x => .int (g x : Int))) S = (match intsOf (xs.map fun x => .int (g x : Int)) with | some [] => .ok (.int 0) S | some (n :: r) => .ok (.int (r.foldl max n)) S | none => .bad) := rfl
  rw [e, ints_map]
  cases xs with
  | nil => rfl
  | cons x xs =>
    have := fold_nat g xs (g x)
    rw [List.map_cons, List.foldl_cons]
    dsimp only
    rw [this, Nat.zero_max]
theorem max0_map (g : D → Nat) (xs : List D) (S : Sto) : bltD .max [.list (.int 0 :: xs.map fun x => .int (g x : Int))] S = .ok (.int ((xs.foldl (fun a x => max a (g x)) 0 : Nat) : Int)) S := by
  have e : bltD .max [.list (.int 0 :: xs.map fun x => .int (g x : Int))] S = (match intsOf (.int 0 :: xs.map fun x => .int (g x : Int)) with | some (n :: r) => .ok (.int (maxI n r)) S | _ => .bad) := rfl
  rw [e, intsOf, ints_map]
  have := fold_nat g xs 0
  show Out.ok (PyData.int (maxI 0 (xs.map fun x => (g x : Int)))) S = _
  rw [maxI_fold]
  have e0 : ((0 : Nat) : Int) = 0 := rfl
  rw [e0] at this
  rw [this]
section
variable (k : Nat) (S : Sto)
theorem d_list (xs : List D) (g : D → Nat) (n : Nat) (hx : ∀ x ∈ xs, callN T fuel n 5 [x] S = .ok (.int (g x : Int)) S) (hl : xs.length ≤ 1000) : callN T fuel (n + 1) 5 [vl xs] S = .ok (.int ((1 + xs.foldl (fun a x => max a (g x)) 0 : Nat) : Int)) S := by
  rw [call_eq (fn := f5) rfl rfl]
  have lc := lc_call (R := callN T fuel n) (σ := [some (vl xs), none]) (tg := 1) (f := 5) (args := [.var 1]) (d := .tuple xs) (S := S) (ys := fun x => [x]) (g := fun x => .int (g x : Int)) xs (fun _ => stays_tup) xs (fun x hxm => ⟨by simp, hx x hxm⟩)
  unfold vl at lc
  have hm : (xs.map fun x => PyData.int (g x : Int)).length ≤ 1000 := by rw [List.length_map]; exact hl
  simp [f5, b5, start0, vl]
  rw [lc]
  simp [mk_l (size_small hm), mx_map]
theorem e_list (xs : List D) (g : D → Nat) (n : Nat) (hx : ∀ x ∈ xs, callN T fuel n 16 [x] S = .ok (.int (g x : Int)) S) (hl : xs.length ≤ 1000) : callN T fuel (n + 1) 16 [vl xs] S = .ok (.int ((1 + xs.foldl (fun a x => max a (g x)) 0 : Nat) : Int)) S := by
  rw [call_eq (fn := f16) rfl rfl]
  have lc := lc_call (R := callN T fuel n) (σ := [some (vl xs), none]) (tg := 1) (f := 16) (args := [.var 1]) (d := .tuple xs) (S := S) (ys := fun x => [x]) (g := fun x => .int (g x : Int)) xs (fun _ => stays_tup) xs (fun x hxm => ⟨by simp, hx x hxm⟩)
  unfold vl at lc
  have hm : (xs.map fun x => PyData.int (g x : Int)).length ≤ 1000 := by rw [List.length_map]; exact hl
  have hc := cat_l (a := [.int 0]) (b := xs.map fun x => PyData.int (g x : Int)) (S := S) (Nat.le_trans (by show 1 + _ ≤ 2000; omega) (show 2000 ≤ sizeLine by decide))
  have hc : binD .Add (.list [.int 0]) (.list (xs.map fun x => PyData.int (g x : Int))) S = .ok (.list (.int 0 :: xs.map fun x => PyData.int (g x : Int))) S := hc
  simp [f16, b16, start0, vl, mk_l]
  rw [lc]
  simp [mk_l (size_small hm), hc, max0_map]
end
theorem fold_le (g : D → Nat) (n : Nat) : ∀ (xs : List D) (a : Nat), a ≤ n → (∀ x ∈ xs, g x ≤ n) → xs.foldl (fun a x => max a (g x)) a ≤ n
  | [], a, ha, _ => ha
  | x :: xs, a, ha, h => by
    rw [List.foldl_cons]
    exact fold_le g n xs _ (by have := h x List.mem_cons_self; omega) fun y hy => h y (List.mem_cons_of_mem _ hy)
theorem depth_ok : ∀ (n : Nat) (v : D), Sh n v → ∃ b : Nat, b ≤ n ∧ ∀ k S, callN T fuel (k + n + 1) 5 [v] S = .ok (.int (b : Int)) S ∧ callN T fuel (k + n + 1) 16 [v] S = .ok (.int (b : Int)) S := by
  intro n v h
  induction h with
  | int n i => exact ⟨0, Nat.zero_le _, fun k S => ⟨by rw [call_eq (fn := f5) rfl rfl]; simp [f5, b5, start0, vi], by rw [call_eq (fn := f16) rfl rfl]; simp [f16, b16, start0, vi]⟩⟩
  | text n s o l => exact ⟨0, Nat.zero_le _, fun k S => ⟨by rw [call_eq (fn := f5) rfl rfl]; simp [f5, b5, start0, vt], by rw [call_eq (fn := f16) rfl rfl]; simp [f16, b16, start0, vt]⟩⟩
  | bool n b => exact ⟨0, Nat.zero_le _, fun k S => ⟨by rw [call_eq (fn := f5) rfl rfl]; simp [f5, b5, start0, vb], by rw [call_eq (fn := f16) rfl rfl]; simp [f16, b16, start0, vb]⟩⟩
  | non n => exact ⟨0, Nat.zero_le _, fun k S => ⟨by rw [call_eq (fn := f5) rfl rfl]; simp [f5, b5, start0, vn], by rw [call_eq (fn := f16) rfl rfl]; simp [f16, b16, start0, vn]⟩⟩
  | list n xs l h ih =>
    obtain ⟨g, hg⟩ := pick_fun ih
    refine ⟨1 + xs.foldl (fun a x => max a (g x)) 0, ?_, fun k S => ⟨d_list S xs g _ (fun x hx => ((hg x hx).2 k S).1) l, e_list S xs g _ (fun x hx => ((hg x hx).2 k S).2) l⟩⟩
    have := fold_le g n xs 0 (Nat.zero_le _) fun x hx => (hg x hx).1
    omega
/-! ### known types -/
def foldK (K : D → Option KT) : KT → List D → Option KT
  | a, [] => some a
  | a, x :: xs => (K x).bind fun t => (join a t).bind fun b => foldK K b xs
def foldO (K : D → Option KT) (o : Option KT) (xs : List D) : Option KT := xs.foldl (fun o x => o.bind fun a => (K x).bind (join a)) o
theorem foldO_none (K : D → Option KT) : ∀ xs : List D, foldO K none xs = none
  | [] => rfl
  | x :: xs => foldO_none K xs
theorem foldO_some (K : D → Option KT) : ∀ (xs : List D) (a : KT), foldO K (some a) xs = foldK K a xs
  | [], a => rfl
  | x :: xs, a => by
    show foldO K ((some a).bind fun a => (K x).bind (join a)) xs = _
    rw [foldK, Option.bind_some]
    cases K x with
    | none => exact foldO_none K xs
    | some t =>
      rw [Option.bind_some, Option.bind_some]
      cases join a t with
      | none => exact foldO_none K xs
      | some b => rw [Option.bind_some]; exact foldO_some K xs b
section
variable (S : Sto)
theorem isf {t : KT} : cmpD .Is (toK t) (.bool false) S = .ok (.bool false) S := by cases t <;> simp [toK]
noncomputable def step4 (R : Nat → List D → Sto → Out D) : D → Cr.Fr → Sto → SO := fun x σ1 S2 => (evG R (.nm 2) x σ1 S2).seq (evB fuel R [.asg (.nm 3) (.call 4 [.var 2]), .asg (.nm 1) (.ite (.cmp .Is (.var 3) (.con (.bool false))) (.con (.bool false)) (.call 3 [.var 1, .var 3])), .ife (.cmp .Is (.var 1) (.con (.bool false))) [.ret (.con (.bool false))] []])
theorem loop4 (k n : Nat) (hn : n ≤ 60) (v : D) (all : List D) (K : D → Option KT) : ∀ (xs : List D) (a : KT) (o2 o3 : Option D), kok a → kdep a ≤ n → (∀ x ∈ xs, callN T fuel (k + n + 1) 4 [x] S = .ok (fD (K x)) S ∧ ∀ t, K x = some t → kok t ∧ kdep t ≤ n) →
    (∃ b, foldK K a xs = some b ∧ kok b ∧ kdep b ≤ n ∧ ∃ p2 p3 : Option D, frL (.tuple all) all (step4 (callN T fuel (k + n + 1))) xs [some v, some (toK a), o2, o3] S = .nx [some v, some (toK b), p2, p3] S) ∨
    (foldK K a xs = none ∧ frL (.tuple all) all (step4 (callN T fuel (k + n + 1))) xs [some v, some (toK a), o2, o3] S = .rt (.bool false) S)
  | [], a, o2, o3, ha, hd, _ => .inl ⟨a, rfl, ha, hd, o2, o3, by simp⟩
  | x :: xs, a, o2, o3, ha, hd, h => by
    obtain ⟨h1, h2⟩ := h x List.mem_cons_self
    rw [frL_cons (fun _ => stays_tup)]
    unfold foldK
    cases hK : K x with
    | none =>
      refine .inr ⟨rfl, ?_⟩
      rw [hK] at h1
      have h1 : callN T fuel (k + n + 1) 4 [x] S = .ok (.bool false) S := h1
      simp [step4, h1]
    | some t =>
      rw [hK] at h1
      have h1 : callN T fuel (k + n + 1) 4 [x] S = .ok (toK t) S := h1
      obtain ⟨t1, t2⟩ := h2 t hK
      have hj := r_join k S a t n ha t1 hd hn (by omega)
      rw [Option.bind_some]
      cases hc : join a t with
      | none =>
        rw [hc] at hj
        have hj : callN T fuel (k + n + 1) 3 [toK a, toK t] S = .ok (.bool false) S := hj
        refine .inr ⟨rfl, ?_⟩
        simp [step4, h1, isf, hj]
      | some c =>
        rw [hc] at hj
        have hj : callN T fuel (k + n + 1) 3 [toK a, toK t] S = .ok (toK c) S := hj
        rw [Option.bind_some]
        have ih := loop4 k n hn v all K xs c (some x) (some (toK t)) (join_ok hc ha t1) (join_dep hc hd t2) fun y hy => h y (List.mem_cons_of_mem _ hy)
        have hs : step4 (callN T fuel (k + n + 1)) x [some v, some (toK a), o2, o3] S = .nx [some v, some (toK c), some x, some (toK t)] S := by simp [step4, h1, isf, hj]
        rw [hs, again_nx]
        exact ih
theorem kn_list (k n : Nat) (hn : n ≤ 60) (K : D → Option KT) (xs : List D) (h : ∀ x ∈ xs, callN T fuel (k + n + 1) 4 [x] S = .ok (fD (K x)) S ∧ ∀ t, K x = some t → kok t ∧ kdep t ≤ n) :
    callN T fuel (k + n + 1 + 1) 4 [vl xs] S = .ok (fD ((foldK K .non xs).map .list)) S ∧ ∀ t, (foldK K .non xs).map KT.list = some t → kok t ∧ kdep t ≤ n + 1 := by
  have L := loop4 S k n hn (vl xs) xs K xs .non none none trivial (Nat.zero_le _) h
  have e : evS fuel (callN T fuel (k + n + 1)) (.fro (.nm 2) (.idx (.var 0) (.con (.int 1))) [.asg (.nm 3) (.call 4 [.var 2]), .asg (.nm 1) (.ite (.cmp .Is (.var 3) (.con (.bool false))) (.con (.bool false)) (.call 3 [.var 1, .var 3])), .ife (.cmp .Is (.var 1) (.con (.bool false))) [.ret (.con (.bool false))] []]) [some (vl xs), some .none, none, none] S = frL (.tuple xs) xs (step4 (callN T fuel (k + n + 1))) xs [some (vl xs), some (toK .non), none, none] S := by
    rw [y_fro]
    simp only [x_idx, x_var, x_con, List.getElem?_cons_zero, bind_ok, vl, ix_t1, wk_t, st_ok]
    rfl
  rw [call_eq (fn := f4) rfl rfl]
  rcases L with ⟨b, h1, h2, h3, p2, p3, h4⟩ | ⟨h1, h4⟩
  · rw [h1]
    rw [h4] at e
    refine ⟨?_, fun t ht => ?_⟩
    · unfold f4 b4
      rw [y_cons, y_ife]
      simp [start0, vl] at e ⊢
      rw [e]
      simp [fD, toK]
    · cases ht
      exact ⟨h2, by unfold kdep; omega⟩
  · rw [h1]
    rw [h4] at e
    refine ⟨?_, fun t ht => by cases ht⟩
    unfold f4 b4
    rw [y_cons, y_ife]
    simp [start0, vl] at e ⊢
    rw [e]
    simp [fD]
end
end K10
set_option Elab.async false
set_option linter.all false
set_option maxRecDepth 100000
set_option maxHeartbeats 2000000
namespace K10
set_option autoImplicit false
open PySem L2 Cr PyProof.Rows
open PySem.PyData (strOk)
section
variable (S : Sto)
noncomputable def step18 (R : Nat → List D → Sto → Out D) : D → Cr.Fr → Sto → SO := fun x σ1 S2 => (evG R (.nm 2) x σ1 S2).seq (evB fuel R [.asg (.nm 1) (.call 19 [.var 1, .call 18 [.var 2]])])
theorem loop18 (k n : Nat) (hn : n ≤ 60) (v : D) (all : List D) (K : D → Option KT) : ∀ (xs : List D) (a : Option KT) (o2 : Option D), (∀ t, a = some t → kok t ∧ kdep t ≤ n) → (∀ x ∈ xs, callN T fuel (k + n + 1) 18 [x] S = .ok (oD (K x)) S ∧ ∀ t, K x = some t → kok t ∧ kdep t ≤ n) →
    (∀ t, foldO K a xs = some t → kok t ∧ kdep t ≤ n) ∧ ∃ p2 : Option D, frL (.tuple all) all (step18 (callN T fuel (k + n + 1))) xs [some v, some (oD a), o2] S = .nx [some v, some (oD (foldO K a xs)), p2] S
  | [], a, o2, ha, _ => ⟨ha, o2, by simp [foldO]⟩
  | x :: xs, a, o2, ha, h => by
    obtain ⟨h1, h2⟩ := h x List.mem_cons_self
    have hb := r_both k S a (K x) n ha h2 hn
    have hok : ∀ t, (a.bind fun y => (K x).bind (join y)) = some t → kok t ∧ kdep t ≤ n := by
      intro t ht
      obtain ⟨y, hy, ht⟩ := Option.bind_eq_some_iff.mp ht
      obtain ⟨z, hz, ht⟩ := Option.bind_eq_some_iff.mp ht
      exact ⟨join_ok ht (ha y hy).1 (h2 z hz).1, join_dep ht (ha y hy).2 (h2 z hz).2⟩
    have ih := loop18 k n hn v all K xs (a.bind fun y => (K x).bind (join y)) (some x) hok fun y hy => h y (List.mem_cons_of_mem _ hy)
    rw [frL_cons (fun _ => stays_tup)]
    have hs : step18 (callN T fuel (k + n + 1)) x [some v, some (oD a), o2] S = .nx [some v, some (oD (a.bind fun y => (K x).bind (join y))), some x] S := by simp [step18, h1, hb]
    rw [hs, again_nx]
    exact ih
theorem kl_list (k n : Nat) (hn : n ≤ 60) (K : D → Option KT) (xs : List D) (h : ∀ x ∈ xs, callN T fuel (k + n + 1) 18 [x] S = .ok (oD (K x)) S ∧ ∀ t, K x = some t → kok t ∧ kdep t ≤ n) :
    callN T fuel (k + n + 1 + 1) 18 [vl xs] S = .ok (oD ((foldK K .non xs).map .list)) S := by
  obtain ⟨h1, p2, h2⟩ := loop18 S k n hn (vl xs) xs K xs (some .non) none (fun t ht => by cases ht; exact ⟨trivial, Nat.zero_le _⟩) h
  have e : evS fuel (callN T fuel (k + n + 1)) (.fro (.nm 2) (.idx (.var 0) (.con (.int 1))) [.asg (.nm 1) (.call 19 [.var 1, .call 18 [.var 2]])]) [some (vl xs), some .none, none] S = frL (.tuple xs) xs (step18 (callN T fuel (k + n + 1))) xs [some (vl xs), some (oD (some .non)), none] S := by
    rw [y_fro]
    simp only [x_idx, x_var, x_con, List.getElem?_cons_zero, bind_ok, vl, ix_t1, wk_t, st_ok]
    rfl
  rw [h2, foldO_some] at e
  rw [foldO_some] at h1
  rw [call_eq (fn := f18) rfl rfl]
  unfold f18 b18
  rw [y_cons, y_ife]
  simp [start0, vl] at e ⊢
  rw [e]
  cases hf : foldK K .non xs with
  | none => simp [oD]
  | some t =>
    have q := eq_none (S := S) (h1 t hf).1 (by have := (h1 t hf).2; omega)
    simp [oD, q, toK]
end
theorem str_ne {a : String} (h : a ≠ "none") : (Str.ofString a) ≠ Str.ofString "none" := fun e => h (ofs_inj.mp e)
theorem known_ok : ∀ (n : Nat) (v : D), Sh n v → n ≤ 60 → ∃ K : Option KT, (∀ t, K = some t → kok t ∧ kdep t ≤ n) ∧ ∀ k S, callN T fuel (k + n + 1) 4 [v] S = .ok (fD K) S ∧ callN T fuel (k + n + 1) 18 [v] S = .ok (oD K) S := by
  intro n v h
  induction h with
  | int n i => exact fun _ => ⟨some (.atom "int"), fun t ht => by cases ht; exact ⟨⟨ok_ofs, str_ne (by decide)⟩, Nat.zero_le _⟩, fun k S => ⟨by rw [call_eq (fn := f4) rfl rfl]; simp [f4, b4, start0, vi, fD, toK], by rw [call_eq (fn := f18) rfl rfl]; simp [f18, b18, start0, vi, oD, toK]⟩⟩
  | text n s o l => exact fun _ => ⟨some (.atom "text"), fun t ht => by cases ht; exact ⟨⟨ok_ofs, str_ne (by decide)⟩, Nat.zero_le _⟩, fun k S => ⟨by rw [call_eq (fn := f4) rfl rfl]; simp [f4, b4, start0, vt, fD, toK], by rw [call_eq (fn := f18) rfl rfl]; simp [f18, b18, start0, vt, oD, toK]⟩⟩
  | bool n b => exact fun _ => ⟨some (.atom "bool"), fun t ht => by cases ht; exact ⟨⟨ok_ofs, str_ne (by decide)⟩, Nat.zero_le _⟩, fun k S => ⟨by rw [call_eq (fn := f4) rfl rfl]; simp [f4, b4, start0, vb, fD, toK], by rw [call_eq (fn := f18) rfl rfl]; simp [f18, b18, start0, vb, oD, toK]⟩⟩
  | non n => exact fun _ => ⟨some (.atom "nothing"), fun t ht => by cases ht; exact ⟨⟨ok_ofs, str_ne (by decide)⟩, Nat.zero_le _⟩, fun k S => ⟨by rw [call_eq (fn := f4) rfl rfl]; simp [f4, b4, start0, vn, fD, toK], by rw [call_eq (fn := f18) rfl rfl]; simp [f18, b18, start0, vn, oD, toK]⟩⟩
  | list n xs l h ih =>
    intro hn
    obtain ⟨K, hK⟩ := pick_fun fun x hx => ih x hx (by omega)
    have q := fun k S => kn_list S k n (by omega) K xs fun x hx => ⟨((hK x hx).2 k S).1, (hK x hx).1⟩
    exact ⟨_, (q 0 []).2, fun k S => ⟨(q k S).1, kl_list S k n (by omega) K xs fun x hx => ⟨((hK x hx).2 k S).2, (hK x hx).1⟩⟩⟩
/-! ### types -/
inductive Ty : Nat → D → Prop where
  | atom (n : Nat) (s : String) : Ty n (.str s)
  | list (n : Nat) (t : D) (h : Ty n t) : Ty (n + 1) (.tuple [.str "list", t])
theorem Ty.mono {n : Nat} {t : D} (h : Ty n t) : ∀ m, n ≤ m → Ty m t := by
  induction h with
  | atom n s => exact fun m _ => .atom m s
  | list n t h ih =>
    intro m hm
    cases m with
    | zero => omega
    | succ m => exact .list m t (ih m (by omega))
theorem Sh.head {n : Nat} {v : D} (h : Sh n v) : ∃ (s : String) (r : List D), v = .tuple (.str s :: r) ∧ (s = "list" → ∃ xs m, n = m + 1 ∧ v = vl xs ∧ xs.length ≤ 1000 ∧ ∀ x ∈ xs, Sh m x) := by
  cases h with
  | int n i => exact ⟨"int", _, rfl, fun e => absurd e (by decide)⟩
  | text n s o l => exact ⟨"text", _, rfl, fun e => absurd e (by decide)⟩
  | bool n b => exact ⟨"bool", _, rfl, fun e => absurd e (by decide)⟩
  | non n => exact ⟨"nothing", _, rfl, fun e => absurd e (by decide)⟩
  | list n xs l h => exact ⟨"list", _, rfl, fun _ => ⟨xs, n, rfl, rfl, l, h⟩⟩
/-- fits is what the law says -/
theorem fits_ok : ∀ (m : Nat) (t : D), Ty m t → ∀ (n : Nat) (v : D), Sh n v → ∃ b : Bool, ∀ k S, callN T fuel (k + m + 1) 2 [v, t] S = .ok (.bool b) S ∧ callN T fuel (k + m + 1) 17 [v, t] S = .ok (.bool b) S := by
  intro m t h
  induction h with
  | atom m s =>
    intro n v hv
    obtain ⟨s', r, rfl, _⟩ := hv.head
    exact ⟨decide (s' = s), fun k S => ⟨by rw [call_eq (fn := f2) rfl rfl]; simp [f2, b2, start0], by rw [call_eq (fn := f17) rfl rfl]; simp [f17, b17, start0]⟩⟩
  | list m t h ih =>
    intro n v hv
    obtain ⟨s', r, e, hl⟩ := hv.head
    by_cases hs : s' = "list"
    · obtain ⟨xs, n', rfl, rfl, l, hx⟩ := hl hs
      obtain ⟨g, hg⟩ := pick_fun fun x hxm => ih n' x (hx x hxm)
      refine ⟨xs.all g, fun k S => ?_⟩
      have hm : (xs.map fun x => PyData.bool (g x)).length ≤ 1000 := by rw [List.length_map]; exact l
      have lc := fun (f : Nat) (hf : f = 2 ∨ f = 17) => lc_call (R := callN T fuel (k + m + 1)) (σ := [some (vl xs), some (.tuple [.str "list", t]), none]) (tg := 2) (f := f) (args := [.var 2, .idx (.var 1) (.con (.int 1))]) (d := .tuple xs) (S := S) (ys := fun x => [x, t]) (g := fun x => .bool (g x)) xs (fun _ => stays_tup) xs
        (fun x hxm => ⟨by simp, by rcases hf with rfl | rfl; exact (hg x hxm k S).1; exact (hg x hxm k S).2⟩)
      unfold vl at lc
      constructor
      · rw [show k + (m + 1) + 1 = (k + m + 1) + 1 from by omega, call_eq (fn := f2) rfl rfl]
        simp [f2, b2, start0, vl]
        rw [lc 2 (.inl rfl)]
        simp [mk_l (size_small hm), all_map]
      · rw [show k + (m + 1) + 1 = (k + m + 1) + 1 from by omega, call_eq (fn := f17) rfl rfl]
        simp [f17, b17, start0, vl]
        rw [lc 17 (.inr rfl)]
        simp [mk_l (size_small hm), nin_map]
    · subst e
      refine ⟨false, fun k S => ⟨?_, ?_⟩⟩
      · rw [show k + (m + 1) + 1 = (k + m + 1) + 1 from by omega, call_eq (fn := f2) rfl rfl]
        simp [f2, b2, start0, hs]
      · rw [show k + (m + 1) + 1 = (k + m + 1) + 1 from by omega, call_eq (fn := f17) rfl rfl]
        simp [f17, b17, start0, hs]
end K10
set_option Elab.async false
set_option linter.all false
set_option maxRecDepth 100000
set_option maxHeartbeats 2000000
namespace K10
set_option autoImplicit false
open PySem L2 Cr PyProof.Rows
open PySem.PyData (strOk)
/-! ### is_type -/
def wr : Nat → D → D
  | 0, d => d
  | j + 1, d => .tuple [.str "list", wr j d]
def plainNames : List String := ["int", "bool", "text", "nothing"]
section
variable (S : Sto) (R : Nat → List D → Sto → Out D)
theorem wh_type (s : String) : ∀ (j m : Nat) (d : Int), j < m → whL (evE R (.and (.isi (.var 0) "tuple") (.and (.cmp .Eq (.blt .len [.var 0]) (.con (.int 2))) (.cmp .Eq (.idx (.var 0) (.con (.int 0))) (.con (.str "list")))))) (evB fuel R [.asg (.nm 0) (.idx (.var 0) (.con (.int 1))), .aug 1 .Add (.con (.int 1))]) m [some (wr j (.str s)), some (.int d)] S = .nx [some (.str s), some (.int (d + j))] S
  | 0, m + 1, d, h => by
    rw [whL]
    simp [wr]
  | j + 1, m + 1, d, h => by
    have ih := wh_type s j m (d + 1) (by omega)
    rw [whL]
    simp [wr, augD]
    rw [ih]
    have e : d + 1 + (j : Int) = d + ((j : Int) + 1) := by omega
    rw [e]
  | 0, 0, d, h => by omega
  | j + 1, 0, d, h => by omega
end
theorem wr_pl (s : String) : ∀ j : Nat, j ≤ 60 → pl j (wr j (.str s)) = true
  | 0, _ => by simp [wr]
  | j + 1, h => by
    have := wr_pl s j (by omega)
    simp [wr, this]
theorem r_istype (k : Nat) (S : Sto) (s : String) (j : Nat) (hj : j ≤ 50) : callN T fuel (k + 1) 0 [wr j (.str s)] S = .ok (.bool (decide (s ∈ plainNames) && decide (j ≤ 6))) S := by
  rw [call_eq (fn := f0) rfl rfl]
  have W := wh_type S (callN T fuel k) s j fuel 0 (by unfold fuel; omega)
  have hi : cmpD .In (.str s) (.tuple [.str "int", .str "bool", .str "text", .str "nothing"]) S = .ok (.bool (decide (s ∈ plainNames))) S := by
    rw [in_tup (pl_plain (n := 1) (by simp)) (by simp)]
    congr 2
    unfold inD plainNames
    rw [Bool.eq_iff_iff]
    simp
    constructor <;> (rintro (rfl | rfl | rfl | rfl) <;> simp)
  simp only [Int.zero_add] at W
  unfold f0 b0
  simp [start0]
  rw [W]
  have h6' : ((j : Int) ≤ 6) ↔ j ≤ 6 := by omega
  by_cases hs : s ∈ plainNames <;> by_cases h6 : j ≤ 6 <;> simp [hi, hs, h6, h6']
/-! ### typed values -/
def goodT (a : Str) : Bool := strOk a && decide (a.length ≤ 60) && okT a
theorem good_1 {a : Str} (h : goodT a = true) : strOk a = true ∧ a.length ≤ 60 ∧ okT a = true := by
  unfold goodT at h
  simp only [Bool.and_eq_true, decide_eq_true_eq] at h
  exact ⟨h.1.1, h.1.2, h.2⟩
inductive Vt : D → D → Prop where
  | int (t : D) (e : t = .str "int") (i : Int) (h : i.natAbs ≤ 1000000000000) : Vt t (vi i)
  | text (t : D) (e : t = .str "text") (a : Str) (h : goodT a = true) : Vt t (vt a)
  | bool (t : D) (e : t = .str "bool") (b : Bool) : Vt t (vb b)
  | non (t : D) (e : t = .str "nothing") : Vt t vn
  | list (t u : D) (e : t = .tuple [.str "list", u]) (xs : List D) (l : xs.length ≤ 20) (h : ∀ x ∈ xs, Vt u x) : Vt t (vl xs)
theorem str_eq {a b : String} (h : (PyData.str a) = PyData.str b) : a = b := ofs_inj.mp (PyData.str.inj h)
theorem inI_of {i : Int} (h : i.natAbs ≤ 1000000000000) : inI i = true := by
  unfold inI
  simp
  omega
/-- compatible -/
def cp : KT → D → Prop
  | .non, _ => True
  | .atom s, t => t = .str s
  | .list a, t => ∃ u, t = .tuple [.str "list", u] ∧ cp a u
theorem join_cp : ∀ (a b : KT) (t : D), cp a t → cp b t → ∃ c, join a b = some c ∧ cp c t
  | .non, b, t, ha, hb => ⟨b, by cases b <;> rw [join], hb⟩
  | .atom s, .non, t, ha, hb => ⟨.atom s, by rw [join], ha⟩
  | .atom s, .atom u, t, ha, hb => by
    obtain rfl : t = .str s := ha
    obtain rfl : s = u := by cases hb; rfl
    exact ⟨.atom s, by rw [join, if_pos rfl], rfl⟩
  | .atom s, .list u, t, ha, hb => by
    obtain rfl : t = .str s := ha
    obtain ⟨u, e, _⟩ := hb
    cases e
  | .list s, .non, t, ha, hb => ⟨.list s, by rw [join], ha⟩
  | .list s, .atom u, t, ha, hb => by
    obtain rfl : t = .str u := hb
    obtain ⟨u, e, _⟩ := ha
    cases e
  | .list a, .list b, t, ha, hb => by
    obtain ⟨u, rfl, ha⟩ := ha
    obtain ⟨u', e, hb⟩ := hb
    cases e
    obtain ⟨c, h1, h2⟩ := join_cp a b u ha hb
    exact ⟨.list c, by rw [join, h1]; rfl, u, rfl, h2⟩
theorem fold_cp (K : D → Option KT) (t : D) : ∀ (xs : List D) (a : KT), cp a t → (∀ x ∈ xs, ∃ c, K x = some c ∧ cp c t) → ∃ c, foldK K a xs = some c ∧ cp c t
  | [], a, ha, _ => ⟨a, rfl, ha⟩
  | x :: xs, a, ha, h => by
    obtain ⟨c, h1, h2⟩ := h x List.mem_cons_self
    obtain ⟨d, h3, h4⟩ := join_cp a c t ha h2
    obtain ⟨e, h5, h6⟩ := fold_cp K t xs d h4 fun y hy => h y (List.mem_cons_of_mem _ hy)
    exact ⟨e, by rw [foldK, h1, Option.bind_some, h3, Option.bind_some, h5], h6⟩
theorem all_true (xs : List D) : xs.all (fun _ => true) = true := by simp
theorem vt_all : ∀ (n : Nat) (t : D), Ty n t → n ≤ 60 → ∀ v, Vt t v → Sh n v ∧ (∀ k S, callN T fuel (k + n + 1) 2 [v, t] S = .ok (.bool true) S) ∧ (∀ k S, callN T fuel (k + n + 1) 6 [v] S = .ok (.bool true) S) ∧
    ∃ K : KT, kok K ∧ kdep K ≤ n ∧ cp K t ∧ ∀ k S, callN T fuel (k + n + 1) 4 [v] S = .ok (toK K) S := by
  intro n t h
  induction h with
  | atom n s =>
    intro hn v hv
    cases hv with
    | int _ e i h =>
      obtain rfl := str_eq e
      exact ⟨.int n i, fun k S => by rw [call_eq (fn := f2) rfl rfl]; simp [f2, b2, start0, vi], fun k S => by rw [w_int, inI_of h], .atom "int", ⟨ok_ofs, str_ne (by decide)⟩, Nat.zero_le _, rfl, fun k S => by rw [call_eq (fn := f4) rfl rfl]; simp [f4, b4, start0, vi, toK]⟩
    | text _ e a h =>
      obtain rfl := str_eq e
      obtain ⟨h1, h2, h3⟩ := good_1 h
      exact ⟨.text n a h1 (by omega), fun k S => by rw [call_eq (fn := f2) rfl rfl]; simp [f2, b2, start0, vt], fun k S => by rw [w_text _ S a h1 (by omega), h3], .atom "text", ⟨ok_ofs, str_ne (by decide)⟩, Nat.zero_le _, rfl, fun k S => by rw [call_eq (fn := f4) rfl rfl]; simp [f4, b4, start0, vt, toK]⟩
    | bool _ e b =>
      obtain rfl := str_eq e
      exact ⟨.bool n b, fun k S => by rw [call_eq (fn := f2) rfl rfl]; simp [f2, b2, start0, vb], fun k S => by rw [w_bool], .atom "bool", ⟨ok_ofs, str_ne (by decide)⟩, Nat.zero_le _, rfl, fun k S => by rw [call_eq (fn := f4) rfl rfl]; simp [f4, b4, start0, vb, toK]⟩
    | list _ u e xs l h => cases e
    | non _ e =>
      obtain rfl := str_eq e
      exact ⟨.non n, fun k S => by rw [call_eq (fn := f2) rfl rfl]; simp [f2, b2, start0, vn], fun k S => by rw [w_non], .atom "nothing", ⟨ok_ofs, str_ne (by decide)⟩, Nat.zero_le _, rfl, fun k S => by rw [call_eq (fn := f4) rfl rfl]; simp [f4, b4, start0, vn, toK]⟩
  | list n t h ih =>
    intro hn v hv
    cases hv with
    | int _ e i h => cases e
    | text _ e a h => cases e
    | bool _ e b => cases e
    | non _ e => cases e
    | list _ u e xs l hx =>
      cases e
      have q := fun x hxm => ih (by omega) x (hx x hxm)
      refine ⟨.list n xs (by omega) fun x hxm => (q x hxm).1, fun k S => ?_, fun k S => ?_, ?_⟩
      · have hm : (xs.map fun x => PyData.bool true).length ≤ 1000 := by rw [List.length_map]; omega
        have lc := lc_call (R := callN T fuel (k + n + 1)) (σ := [some (vl xs), some (.tuple [.str "list", t]), none]) (tg := 2) (f := 2) (args := [.var 2, .idx (.var 1) (.con (.int 1))]) (d := .tuple xs) (S := S) (ys := fun x => [x, t]) (g := fun x => .bool true) xs (fun _ => stays_tup) xs
          (fun x hxm => ⟨by simp, (q x hxm).2.1 k S⟩)
        unfold vl at lc
        have am := all_map (fun _ => true) xs S
        rw [all_true] at am
        rw [show k + (n + 1) + 1 = (k + n + 1) + 1 from by omega, call_eq (fn := f2) rfl rfl]
        simp only [List.map_const'] at lc am hm
        simp [f2, b2, start0, vl]
        rw [lc]
        simp [mk_l (size_small hm), am]
      · have := w_list S xs (fun _ => true) (k + n + 1) (fun x hxm => (q x hxm).2.2.1 k S) (by omega)
        rw [all_true] at this
        rw [show k + (n + 1) + 1 = (k + n + 1) + 1 from by omega, this]
        simp [l]
      · obtain ⟨K, hK⟩ := pick_fun (α := Option KT) (P := fun x o => ∃ c, o = some c ∧ kok c ∧ kdep c ≤ n ∧ cp c t ∧ ∀ k S, callN T fuel (k + n + 1) 4 [x] S = .ok (toK c) S) fun x hxm => by
          obtain ⟨c, h1, h2, h3, h4⟩ := (q x hxm).2.2.2
          exact ⟨some c, c, rfl, h1, h2, h3, h4⟩
        have kl := fun k S => kn_list S k n (by omega) K xs fun x hxm => by
          obtain ⟨c, e, h1, h2, h3, h4⟩ := hK x hxm
          rw [e]
          exact ⟨h4 k S, fun t ht => by cases ht; exact ⟨h1, h2⟩⟩
        obtain ⟨c, e, hc⟩ := fold_cp K t xs .non trivial fun x hxm => by
          obtain ⟨c, e, h1, h2, h3, h4⟩ := hK x hxm
          exact ⟨c, e, h3⟩
        rw [e] at kl
        obtain ⟨g1, g2⟩ := (kl 0 []).2 _ rfl
        exact ⟨.list c, g1, g2, ⟨t, rfl, hc⟩, fun k S => (kl k S).1⟩
end K10
set_option Elab.async false
set_option linter.all false
set_option maxRecDepth 100000
set_option maxHeartbeats 4000000
namespace K10
set_option autoImplicit false
open PySem L2 Cr PyProof.Rows
open PySem.PyData (strOk)
structure In (s c : Nat) (S : Sto) : Prop where
  ne : s ≠ c
  ex : ∃ (cells : List Nat) (mix : Nat), cells.length ≤ 63 ∧ mix < 2 ^ 40 ∧ S[s]? = some (.lst [loc c, .int mix]) ∧ S[c]? = some (.lst (cells.map fun x : Nat => PyData.int x))
/-- zeros in front are dropped -/
theorem zeros (R : Nat → List D → Sto → Out D) (L m : Option D) (s c : Nat) (mix : Nat) (hne : s ≠ c) (o3 o4 : Option D) : ∀ (cells : List Nat) (S : Sto) (w : Nat), cells.length < w → S[s]? = some (.lst [loc c, .int mix]) → S[c]? = some (.lst (cells.map fun x : Nat => PyData.int x)) →
    ∃ (cells' : List Nat) (S' : Sto), whL (evE R (.and (.cmp .Gt (.blt .len [.var 2]) (.con (.int 0))) (.cmp .Eq (.idx (.var 2) (.con (.int 0))) (.con (.int 0))))) (evB fuel R [.exp (.mth .popAt (.var 2) [.con (.int 0)])]) w [L, m, some (loc c), o3, o4] S = .nx [L, m, some (loc c), o3, o4] S' ∧
      cells'.length ≤ cells.length ∧ S'[s]? = some (.lst [loc c, .int mix]) ∧ S'[c]? = some (.lst (cells'.map fun x : Nat => PyData.int x)) ∧ S'.length = S.length
  | [], S, w + 1, h, hs, hc => by
    have e := len_loc (S := S) hc
    refine ⟨[], S, ?_, Nat.le_refl _, hs, hc, rfl⟩
    rw [whL]
    simp at e
    simp [e]
  | x :: r, S, w + 1, h, hs, hc => by
    have e := len_loc (S := S) hc
    have g := ix_loc (S := S) (i := 0) (v := .int x) hc (atI_at 0 rfl)
    rw [List.length_map] at e
    have e0 : 0 < ((x :: r).length : Int) := by rw [List.length_cons]; omega
    by_cases hx : x = 0
    · have p := pop_loc (S := S) (s := c) (x := .int x) (xs := r.map fun x : Nat => PyData.int x) hc
      have rc := recv_loc (S := S) (m := .popAt) (by decide) (by decide) hc
      have hs' : (S.set c (.lst (r.map fun x : Nat => PyData.int x)))[s]? = some (.lst [loc c, .int mix]) := by rw [List.getElem?_set_ne (Ne.symm hne)]; exact hs
      have hc' : (S.set c (.lst (r.map fun x : Nat => PyData.int x)))[c]? = some (.lst (r.map fun x : Nat => PyData.int x)) := List.getElem?_set_self (List.getElem?_eq_some_iff.mp hc).1
      obtain ⟨cells', S', h1, h2, h3, h4, h5⟩ := zeros R L m s c mix hne o3 o4 r _ w (by simpa using h) hs' hc'
      refine ⟨cells', S', ?_, by simp; omega, h3, h4, by rw [h5, List.length_set]⟩
      rw [whL]
      subst hx
      simp [e, e0, g, rc, p]
      exact h1
    · refine ⟨x :: r, S, ?_, Nat.le_refl _, hs, hc, rfl⟩
      have hx' : ¬ ((x : Int) = 0) := by omega
      rw [whL]
      simp [e, e0, g, hx]
  | [], S, 0, h, hs, hc => by simp at h
  | x :: r, S, 0, h, hs, hc => by simp at h
theorem draw_ok (n s c : Nat) (many : Nat) (S : Sto) (I : In s c S) (h1 : 1 ≤ many := by decide) (h2 : many < 2 ^ 60 := by decide) :
    ∃ v : Nat, ∃ S', callN T fuel (n + 1) 9 [loc s, .int (many : Int)] S = .ok (.int v) S' ∧ v < many ∧ In s c S' ∧ S'.length = S.length := by
  obtain ⟨cells, mix, hl, hmix, hs, hc⟩ := I.ex
  obtain ⟨cells', S', hw, hl', hs', hc', hlen⟩ := zeros (callN T fuel n) (some (loc s)) (some (.int (many : Int))) s c mix I.ne none none cells S fuel (by unfold fuel; omega) hs hc
  rw [call_eq (fn := f9) rfl rfl]
  have g0 : idxD (loc s) (.int 0) S = .ok (loc c) S := ix_loc hs (atI_at 0 rfl)
  have hm1 : ¬ ((many : Int) < 1) := by omega
  have hmz : (many : Int) ≠ 0 := by omega
  have e2 : (many : Int).natAbs.log2 < 9000 := log_ok (by simpa using h2)
  have e := len_loc (S := S') hc'
  rw [List.length_map] at e
  cases cells' with
  | nil =>
    have e : bltD .len [loc c] S' = .ok (.int 0) S' := e
    have g1 : idxD (loc s) (.int 1) S' = .ok (.int mix) S' := ix_loc hs' (atI_at 1 rfl)
    have m1 := mul_i (i := (mix : Int)) (j := 48271) (S := S') (mul_lg (k := 60) (l := 60) (by omega) (by decide))
    let a1 : Nat := (mix * 48271 + 12345) % 2147483647
    have r1 : binD .Mod (.int ((mix : Int) * 48271 + 12345)) (.int 2147483647) S' = .ok (.int (a1 : Int)) S' := by
      rw [mod_i (by decide), Int.fmod_eq_emod_of_nonneg _ (by decide)]; rfl
    have ha1 : a1 < 2147483647 := Nat.mod_lt _ (by decide)
    let S2 : Sto := S'.set s (.lst [loc c, .int (a1 : Int)])
    have gs : setD (loc s) (.int 1) (.int (a1 : Int)) S' = .ok () S2 := set_loc (j := 1) hs' (by simp) rfl
    have r3 : binD .FloorDiv (.int (a1 : Int)) (.int 64) S2 = .ok (.int ((a1 : Int) / 64)) S2 := by
      rw [div_i (by decide) (log_ok (by decide)), Int.fdiv_eq_ediv_of_nonneg _ (by decide)]
    have r4 : binD .Mod (.int ((a1 : Int) / 64)) (.int (many : Int)) S2 = .ok (.int ((a1 : Int) / 64 % many)) S2 := by
      rw [mod_i hmz, Int.fmod_eq_emod_of_nonneg _ (by omega)]
    have hs2 : S2[s]? = some (.lst [loc c, .int (a1 : Int)]) := List.getElem?_set_self (List.getElem?_eq_some_iff.mp hs').1
    have hc2 : S2[c]? = some (.lst (([] : List Nat).map fun x : Nat => PyData.int x)) := by
      show (S'.set s _)[c]? = _
      rw [List.getElem?_set_ne I.ne]; exact hc'
    have hl2 : S2.length = S.length := by rw [show S2.length = S'.length from List.length_set, hlen]
    clear_value a1 S2
    refine ⟨a1 / 64 % many, S2, ?_, Nat.mod_lt _ (by omega), ⟨I.ne, [], a1, by simp, by omega, hs2, hc2⟩, hl2⟩
    unfold f9 b9
    rw [y_cons, y_ife]
    simp [start0, hm1, g0]
    rw [hw]
    simp [e, g1, m1, r1, gs, r3, r4]
  | cons x r =>
    have g := ix_loc (S := S') (i := 0) (v := .int x) hc' (atI_at 0 rfl)
    have gd : binD .FloorDiv (.int (x : Int)) (.int (many : Int)) S' = .ok (.int ((x : Int) / many)) S' := by
      rw [div_i hmz e2, Int.fdiv_eq_ediv_of_nonneg _ (by omega)]
    let S2 : Sto := S'.set c (.lst (((x / many) :: r).map fun x : Nat => PyData.int x))
    have gs : setD (loc c) (.int 0) (.int ((x : Int) / many)) S' = .ok () S2 := by
      have := set_loc (j := 0) (i := 0) (v := .int ((x / many : Nat) : Int)) hc' (by simp) rfl
      rw [Int.natCast_ediv] at this
      rw [this]
      rfl
    have gr : binD .Mod (.int (x : Int)) (.int (many : Int)) S2 = .ok (.int ((x : Int) % many)) S2 := by
      rw [mod_i hmz, Int.fmod_eq_emod_of_nonneg _ (by omega)]
    have hs2 : S2[s]? = some (.lst [loc c, .int (mix : Int)]) := by
      show (S'.set c _)[s]? = _
      rw [List.getElem?_set_ne (Ne.symm I.ne)]; exact hs'
    have hc2 : S2[c]? = some (.lst (((x / many) :: r).map fun x : Nat => PyData.int x)) := List.getElem?_set_self (List.getElem?_eq_some_iff.mp hc').1
    have hl2 : S2.length = S.length := by rw [show S2.length = S'.length from List.length_set, hlen]
    have e0 : 0 < ((x :: r).length : Int) := by rw [List.length_cons]; omega
    clear_value S2
    refine ⟨x % many, S2, ?_, Nat.mod_lt _ (by omega), ⟨I.ne, (x / many) :: r, mix, by simpa using Nat.le_trans hl' hl, hmix, hs2, hc2⟩, hl2⟩
    unfold f9 b9
    rw [y_cons, y_ife]
    simp [start0, hm1, g0]
    rw [hw]
    simp [e, e0, g, gd, gs, gr]
theorem pick_ok (n s c : Nat) (row : List D) (S : Sto) (I : In s c S) (h1 : 1 ≤ row.length) (h2 : row.length < 1000) :
    ∃ x ∈ row, ∃ S', callN T fuel (n + 2) 10 [loc s, .list row] S = .ok x S' ∧ In s c S' ∧ S'.length = S.length := by
  obtain ⟨v, S', e, l, I', n'⟩ := draw_ok n s c row.length S I h1 (by omega)
  refine ⟨row[v], List.getElem_mem l, S', ?_, I', n'⟩
  have g : idxD (.list row) (.int (v : Int)) S' = .ok row[v] S' := ix_lst (atI_nat (List.getElem?_eq_getElem l))
  rw [call_eq (fn := f10) rfl rfl]
  simp [f10, b10, start0, e, g]
end K10
set_option Elab.async false
set_option linter.all false
set_option maxRecDepth 100000
set_option maxHeartbeats 4000000
namespace K10
set_option autoImplicit false
open PySem L2 Cr PyProof.Rows
open PySem.PyData (strOk)
theorem r_type (n s c : Nat) : ∀ (m : Nat) (S : Sto), m ≤ 60 → In s c S → ∃ (p : String) (j : Nat), p ∈ plainNames ∧ j ≤ m ∧ ∃ S', callN T fuel (n + m + 3) 11 [loc s, .int (m : Int)] S = .ok (wr j (.str p)) S' ∧ In s c S' ∧ S'.length = S.length := by
  intro m
  induction m with
  | zero =>
    intro S _ I
    obtain ⟨x, hx, S1, e1, I1, n1⟩ := pick_ok n s c [.str "int", .str "bool", .str "text", .str "nothing"] S I (by simp) (by simp)
    have hx : ∃ p, p ∈ plainNames ∧ x = .str p := by
      simp only [List.mem_cons, List.not_mem_nil, or_false] at hx
      rcases hx with rfl | rfl | rfl | rfl <;> exact ⟨_, by decide, rfl⟩
    obtain ⟨p, hp, rfl⟩ := hx
    refine ⟨p, 0, hp, Nat.le_refl _, S1, ?_, I1, n1⟩
    rw [call_eq (fn := f11) rfl rfl]
    simp [f11, b11, start0, mk_l, e1, wr]
  | succ m ih =>
    intro S hm I
    obtain ⟨v, S1, e1, l1, I1, n1⟩ := draw_ok (n + (m + 1) + 1) s c 3 S I
    rw [call_eq (fn := f11) rfl rfl]
    have hpos : (0 : Int) < ((m + 1 : Nat) : Int) := by omega
    have hsub : ((m + 1 : Nat) : Int) - 1 = (m : Int) := by omega
    simp at e1
    by_cases hv : v = 0
    · obtain ⟨p, j, hp, hj, S2, e2, I2, n2⟩ := ih S1 (by omega) I1
      refine ⟨p, j + 1, hp, by omega, S2, ?_, I2, by rw [n2, n1]⟩
      have e2 : callN T fuel (n + m + 3) 11 [loc s, .int ((m : Int) + 1 - 1)] S1 = .ok (wr j (.str p)) S2 := by
        rw [show ((m : Int) + 1 - 1) = (m : Int) from by omega]; exact e2
      have hpos' : (0 : Int) < (m : Int) + 1 := by omega
      rw [show n + (m + 1) + 2 = n + m + 3 from by omega]
      rw [show n + (m + 1) + 2 = n + m + 3 from by omega] at e1
      simp at e2
      simp [f11, b11, start0, hpos', e1, hv, wr, e2]
    · obtain ⟨x, hx, S2, e2, I2, n2⟩ := pick_ok (n + (m + 1)) s c [.str "int", .str "bool", .str "text", .str "nothing"] S1 I1 (by simp) (by simp)
      have hx : ∃ p, p ∈ plainNames ∧ x = .str p := by
        simp only [List.mem_cons, List.not_mem_nil, or_false] at hx
        rcases hx with rfl | rfl | rfl | rfl <;> exact ⟨_, by decide, rfl⟩
      obtain ⟨p, hp, rfl⟩ := hx
      refine ⟨p, 0, hp, Nat.zero_le _, S2, ?_, I2, by rw [n2, n1]⟩
      have hpos' : (0 : Int) < (m : Int) + 1 := by omega
      simp [f11, b11, start0, hpos', e1, hv, mk_l, e2, wr]
theorem eq_wr {j : Nat} {p q : String} {S : Sto} (h : j ≤ 50) : cmpD .Eq (.tuple [.str "list", wr j (.str p)]) (.str q) S = .ok (.bool false) S := by
  have h1 : pl 64 (.tuple [.str "list", wr j (.str p)]) = true := pl_mono (wr_pl p (j + 1) (by omega))
  rw [eq_d h1 (by simp), PyData.eqv]
theorem isi_wr {j : Nat} {p : String} {S : Sto} : isiD "tuple" (wr j (.str p)) S = .ok (.bool (decide (j ≠ 0))) S := by
  cases j <;> simp [wr]
theorem r_val (n s c : Nat) (p : String) (hp : p ∈ plainNames) : ∀ (j : Nat) (S : Sto), j ≤ 50 → In s c S → ∃ (v : D) (S' : Sto), callN T fuel (n + j + 4) 12 [loc s, wr j (.str p)] S = .ok v S' ∧ Vt (wr j (.str p)) v ∧ In s c S' ∧ S'.length = S.length := by
  intro j
  induction j with
  | zero =>
    intro S _ I
    rw [call_eq (fn := f12) rfl rfl]
    simp only [plainNames, List.mem_cons, List.not_mem_nil, or_false] at hp
    rcases hp with rfl | rfl | rfl | rfl
    · obtain ⟨v, S1, e1, l1, I1, n1⟩ := draw_ok (n + 2) s c 1000 S I
      obtain ⟨x, hx, S2, e2, I2, n2⟩ := pick_ok (n + 1) s c [.int 0, .int 1, .int (-1), .int 10, .int (-1000000000000), .int 1000000000000, .int ((v : Int) - 500)] S1 I1 (by simp) (by simp)
      have hx : ∃ i : Int, x = .int i ∧ i.natAbs ≤ 1000000000000 := by
        simp only [List.mem_cons, List.not_mem_nil, or_false] at hx
        rcases hx with rfl | rfl | rfl | rfl | rfl | rfl | rfl <;> exact ⟨_, rfl, by omega⟩
      obtain ⟨i, rfl, hi⟩ := hx
      refine ⟨vi i, S2, ?_, .int _ rfl i hi, I2, by rw [n2, n1]⟩
      simp at e1
      simp [f12, b12, start0, wr, pow12, e1, mk_l, e2, vi]
    · obtain ⟨v, S1, e1, l1, I1, n1⟩ := draw_ok (n + 2) s c 2 S I
      refine ⟨vb (decide (v = 0)), S1, ?_, .bool _ rfl _, I1, n1⟩
      simp at e1
      simp [f12, b12, start0, wr, e1, vb]
    · obtain ⟨x, hx, S1, e1, I1, n1⟩ := pick_ok (n + 1) s c [.str "", .str "a", .str "\"", .str "\"\"", .str "a b, c]", .str (repS 60 "~"), .str (repS 60 "\""), .str "true"] S I (by simp) (by simp)
      have hx : ∃ a : Str, x = .str a ∧ goodT a = true := by
        simp only [List.mem_cons, List.not_mem_nil, or_false] at hx
        rcases hx with rfl | rfl | rfl | rfl | rfl | rfl | rfl | rfl <;> exact ⟨_, rfl, by decide +kernel⟩
      obtain ⟨a, rfl, ha⟩ := hx
      have h1 : (Str.ofString "~").length ≤ 1000 := by rw [ofs_len]; decide
      have h2 : (Str.ofString "\"").length ≤ 1000 := by rw [ofs_len]; decide
      have q1 := mul_str (a := "~") (k := 60) (S := S) (by decide) (by decide) h1
      have q2 := mul_str (a := "\"") (k := 60) (S := S) (by decide) (by decide) h2
      refine ⟨vt a, S1, ?_, .text _ rfl a ha, I1, n1⟩
      simp [f12, b12, start0, wr, q1, q2, mk_l, e1, vt]
    · refine ⟨vn, S, ?_, .non _ rfl, I, rfl⟩
      simp [f12, b12, start0, wr, vn]
  | succ j ih =>
    intro S hj I
    rw [call_eq (fn := f12) rfl rfl]
    have fin : ∀ (m : Nat) (S1 : Sto), m ≤ 20 → In s c S1 → S1.length = S.length → ∃ (v : D) (S' : Sto), Cr.fin f12.cut S ((evS fuel (callN T fuel (n + j + 4)) (.ret (.tup [.con (.str "list"), .blt .tuple [.lr false 3 [.var 2] [] (.call 12 [.var 0, .idx (.var 1) (.con (.int 1))])]])) [some (loc s), some (wr (j + 1) (.str p)), some (.int (m : Int)), none] S1).seq (evB fuel (callN T fuel (n + j + 4)) [])) = .ok v S' ∧ Vt (wr (j + 1) (.str p)) v ∧ In s c S' ∧ S'.length = S.length := by
      intro m S1 hm I1 n1
      have hr : rangeD [.int (m : Int)] S1 = .ok (.none, rngL 0 m) S1 := by
        unfold rangeD
        have : small62 (m : Int) := ⟨by omega, by omega⟩
        exact if_pos this
      have lr : (rngL 0 m).length = m := by simp [rngL]
      obtain ⟨ys, S2, e2, l2, p2, I2, n2⟩ := lcL_inv (d := .none) (all := rngL 0 m) (step := turnE (evT (callN T fuel (n + j + 4)) []) (evE (callN T fuel (n + j + 4)) (.call 12 [.var 0, .idx (.var 1) (.con (.int 1))])) [some (loc s), some (wr (j + 1) (.str p)), some (.int (m : Int)), none] 3) (fun _ => stays_non)
        (fun xs S' => In s c S' ∧ S'.length = S.length) (Vt (wr j (.str p))) (rngL 0 m) S1 ⟨I1, n1⟩ (fun x xs S' ⟨Iq, nq⟩ => by
          obtain ⟨y, S3, e3, v3, I3, n3⟩ := ih S' (by omega) Iq
          refine ⟨y, S3, ?_, v3, I3, by omega⟩
          simp [turnE, wr, e3])
      rw [lr] at l2
      refine ⟨vl ys, S2, ?_, .list _ _ rfl ys (by omega) p2, I2, n2⟩
      simp [hr, e2, mk_l (size_small (by omega : ys.length ≤ 1000)), f12, vl]
    obtain ⟨v1, S1, e1, l1, I1, n1⟩ := draw_ok (n + (j + 1) + 2) s c 30 S I
    have heq := fun q S => eq_wr (j := j) (p := p) (q := q) (S := S) (by omega)
    have hlev : n + (j + 1) + 3 = n + j + 4 := by omega
    rw [hlev]
    rw [show n + (j + 1) + 2 + 1 = n + j + 4 from by omega] at e1
    simp at e1
    by_cases hv : v1 = 0 ∧ j = 0
    · obtain ⟨v, S', h1, h2, h3, h4⟩ := fin 20 S1 (by omega) I1 n1
      refine ⟨v, S', ?_, h2, h3, h4⟩
      rw [← h1]
      obtain ⟨hv1, rfl⟩ := hv
      simp only [wr] at heq
      simp at e1
      simp [f12, b12, start0, wr, heq, e1, hv1]
    · obtain ⟨v2, S2, e2, l2, I2, n2⟩ := draw_ok (n + (j + 1) + 2) s c 4 S1 I1
      rw [show n + (j + 1) + 2 + 1 = n + j + 4 from by omega] at e2
      obtain ⟨v, S', h1, h2, h3, h4⟩ := fin v2 S2 (by omega) I2 (by omega)
      refine ⟨v, S', ?_, h2, h3, h4⟩
      rw [← h1]
      simp at e2
      by_cases h0 : v1 = 0
      · have hj0 : ¬ j = 0 := fun z => hv ⟨h0, z⟩
        simp [f12, b12, start0, wr, heq, e1, h0, hj0, isi_wr, e2]
      · simp [f12, b12, start0, wr, heq, e1, h0, e2]
theorem Sh.mono {n : Nat} {v : D} (h : Sh n v) : ∀ m, n ≤ m → Sh m v := by
  induction h with
  | int n i => exact fun m _ => .int m i
  | text n s o l => exact fun m _ => .text m s o l
  | bool n b => exact fun m _ => .bool m b
  | non n => exact fun m _ => .non m
  | list n xs l h ih =>
    intro m hm
    cases m with
    | zero => omega
    | succ m => exact .list m xs l fun x hx => ih x hx m (by omega)
/-! ### deep lists -/
def wl : Nat → D → D
  | 0, v => v
  | j + 1, v => vl [wl j v]
theorem wl_sh {n : Nat} {v : D} (h : Sh n v) : ∀ j : Nat, Sh (n + j) (wl j v)
  | 0 => h
  | j + 1 => .list (n + j) [wl j v] (by simp) fun x hx => by
    have : x = wl j v := by simpa using hx
    rw [this]
    exact wl_sh h j
theorem r_deep (k : Nat) (S : Sto) (v : D) (m : Nat) (hm : m ≤ 100) : callN T fuel (k + 1) 13 [v, .int (m : Int)] S = .ok (wl m v) S := by
  have hr : rangeD [.int (m : Int)] S = .ok (.none, rngL 0 m) S := by
    unfold rangeD
    have : small62 (m : Int) := ⟨by omega, by omega⟩
    exact if_pos this
  obtain ⟨σ', S', e, j, o2, rfl, hj, rfl⟩ := frL_inv (d := .none) (all := rngL 0 m) (step := fun x σ1 S2 => (evG (callN T fuel k) (.nm 2) x σ1 S2).seq (evB fuel (callN T fuel k) [.asg (.nm 0) (.tup [.con (.str "list"), .tup [.var 0]])])) (fun _ => stays_non)
    (fun xs σ S' => ∃ (j : Nat) (o2 : Option D), σ = [some (wl j v), some (.int (m : Int)), o2] ∧ j + xs.length = m ∧ S' = S) (rngL 0 m) [some v, some (.int (m : Int)), none] S ⟨0, none, rfl, by simp [rngL], rfl⟩ (by
      rintro x xs σ S' ⟨j, o2, rfl, hj, rfl⟩
      rw [List.length_cons] at hj
      refine ⟨_, _, ?_, j + 1, some x, rfl, by omega, rfl⟩
      simp [wl, vl])
  have hj : j = m := by simpa using hj
  subst hj
  rw [call_eq (fn := f13) rfl rfl]
  unfold f13 b13
  simp [start0, hr]
  simp at e
  rw [e]
  simp
theorem r_shape (n s c : Nat) : ∀ (m : Nat) (S : Sto), m ≤ 10 → In s c S → ∃ (v : D) (S' : Sto), callN T fuel (n + m + 6) 14 [loc s, .int (m : Int)] S = .ok v S' ∧ Sh (9 + m) v ∧ In s c S' ∧ S'.length = S.length := by
  intro m
  induction m with
  | zero =>
    intro S _ I
    obtain ⟨v1, S1, e1, l1, I1, n1⟩ := draw_ok (n + 4) s c 12 S I
    obtain ⟨x, hx, S2, e2, I2, n2⟩ := pick_ok (n + 3) s c [.str "int", .str "bool", .str "text", .str "nothing"] S1 I1 (by simp) (by simp)
    have hx : ∃ p, p ∈ plainNames ∧ x = .str p := by
      simp only [List.mem_cons, List.not_mem_nil, or_false] at hx
      rcases hx with rfl | rfl | rfl | rfl <;> exact ⟨_, by decide, rfl⟩
    obtain ⟨p, hp, rfl⟩ := hx
    obtain ⟨v, S3, e3, hv, I3, n3⟩ := r_val (n + 1) s c p hp 0 S2 (by omega) I2
    have hs := (vt_all 0 _ (.atom 0 p) (by omega) v hv).1
    refine ⟨v, S3, ?_, hs.mono _ (by omega), I3, by omega⟩
    rw [call_eq (fn := f14) rfl rfl]
    simp at e1
    simp only [wr] at e3
    by_cases h5 : (v1 : Int) < 5
    · simp [f14, b14, start0, e1, h5, mk_l, e2, e3]
    · simp [f14, b14, start0, e1, h5, mk_l, e2, e3]
  | succ m ih =>
    intro S hm I
    obtain ⟨v1, S1, e1, l1, I1, n1⟩ := draw_ok (n + (m + 1) + 4) s c 12 S I
    have hlev : n + (m + 1) + 5 = n + m + 6 := by omega
    rw [show n + (m + 1) + 4 + 1 = n + m + 6 from by omega] at e1
    simp at e1
    have hz : ¬ ((m : Int) + 1 = 0) := by omega
    rw [call_eq (fn := f14) rfl rfl, hlev]
    by_cases h5 : (v1 : Int) < 5
    · obtain ⟨x, hx, S2, e2, I2, n2⟩ := pick_ok (n + m + 4) s c [.str "int", .str "bool", .str "text", .str "nothing"] S1 I1 (by simp) (by simp)
      have hx : ∃ p, p ∈ plainNames ∧ x = .str p := by
        simp only [List.mem_cons, List.not_mem_nil, or_false] at hx
        rcases hx with rfl | rfl | rfl | rfl <;> exact ⟨_, by decide, rfl⟩
      obtain ⟨p, hp, rfl⟩ := hx
      obtain ⟨v, S3, e3, hv, I3, n3⟩ := r_val (n + m + 2) s c p hp 0 S2 (by omega) I2
      have hs := (vt_all 0 _ (.atom 0 p) (by omega) v hv).1
      refine ⟨v, S3, ?_, hs.mono _ (by omega), I3, by omega⟩
      simp only [wr] at e3
      simp [f14, b14, start0, e1, h5, mk_l, e2, e3]
    have c5 : v1 = 5 ∨ v1 = 6 ∨ v1 = 7 ∨ v1 = 8 ∨ (v1 ≠ 5 ∧ v1 ≠ 6 ∧ v1 ≠ 7 ∧ v1 ≠ 8) := by omega
    rcases c5 with rfl | rfl | rfl | rfl | ⟨g5, g6, g7, g8⟩
    · obtain ⟨x, hx, S2, e2, I2, n2⟩ := pick_ok (n + m + 4) s c [.int 1000000000001, .int (-1000000000001)] S1 I1 (by simp) (by simp)
      have hx : ∃ i : Int, x = .int i := by
        simp only [List.mem_cons, List.not_mem_nil, or_false] at hx
        rcases hx with rfl | rfl <;> exact ⟨_, rfl⟩
      obtain ⟨i, rfl⟩ := hx
      refine ⟨vi i, S2, ?_, .int _ i, I2, by omega⟩
      simp [f14, b14, start0, e1, hz, pow12, mk_l, e2, vi]
    · obtain ⟨x, hx, S2, e2, I2, n2⟩ := pick_ok (n + m + 4) s c [.str (repS 61 "a"), .str "a\n", .str "\t"] S1 I1 (by simp) (by simp)
      have hx : ∃ a : Str, x = .str a ∧ strOk a = true ∧ a.length ≤ 1000 := by
        simp only [List.mem_cons, List.not_mem_nil, or_false] at hx
        rcases hx with rfl | rfl | rfl <;> exact ⟨_, rfl, by decide +kernel, by decide +kernel⟩
      obtain ⟨a, rfl, ha, hl⟩ := hx
      have h1 : (Str.ofString "a").length ≤ 1000 := by rw [ofs_len]; decide
      have q1 := mul_str (a := "a") (k := 61) (S := S1) (by decide) (by decide) h1
      refine ⟨vt a, S2, ?_, .text _ a ha hl, I2, by omega⟩
      simp [f14, b14, start0, e1, hz, q1, mk_l, e2, vt]
    · obtain ⟨x, hx, S2, e2, I2, n2⟩ := pick_ok (n + m + 4) s c [.int 20, .int 21] S1 I1 (by simp) (by simp)
      have hx : ∃ i : Nat, x = .int (i : Int) ∧ i ≤ 21 := by
        simp only [List.mem_cons, List.not_mem_nil, or_false] at hx
        rcases hx with rfl | rfl
        · exact ⟨20, rfl, by decide⟩
        · exact ⟨21, rfl, by decide⟩
      obtain ⟨i, rfl, hi⟩ := hx
      have mt := mul_lst (a := [vi 1]) (k := (i : Int)) (S := S2) (by omega) (by omega) (by show 1 * _ ≤ sizeLine; exact Nat.le_trans (by omega) (show 21 ≤ sizeLine by decide))
      unfold vi at mt
      simp at mt
      refine ⟨vl (List.replicate i [vi 1]).flatten, S2, ?_, (Sh.list (9 + m) _ (by simp; omega) fun x hx => ?_), I2, by omega⟩
      · simp [f14, b14, start0, e1, hz, mk_l, e2, mt, vl, vi]
      · have : x = vi 1 := by
          simp at hx
          exact hx.2
        rw [this]
        exact .int _ 1
    · obtain ⟨x, hx, S2, e2, I2, n2⟩ := pick_ok (n + m + 4) s c [.tuple [.str "int", .int 3], .tuple [.str "list", .tuple []]] S1 I1 (by simp) (by simp)
      have hx : Sh 1 x := by
        simp only [List.mem_cons, List.not_mem_nil, or_false] at hx
        rcases hx with rfl | rfl
        · exact .int 1 3
        · exact .list 0 [] (by simp) fun x hx => absurd hx List.not_mem_nil
      obtain ⟨v3, S3, e3, l3, I3, n3⟩ := draw_ok (n + m + 5) s c 5 S2 I2
      have e4 := r_deep (n + m + 5) S3 x (3 + v3) (by omega)
      refine ⟨wl (3 + v3) x, S3, ?_, (wl_sh hx (3 + v3)).mono _ (by omega), I3, by omega⟩
      simp at e3 e4
      simp [f14, b14, start0, e1, hz, mk_l, e2, e3, e4]
    · obtain ⟨v3, S3, e3, l3, I3, n3⟩ := draw_ok (n + m + 5) s c 3 S1 I1
      have hr : rangeD [.int (v3 : Int)] S3 = .ok (.none, rngL 0 v3) S3 := by
        unfold rangeD
        have : small62 (v3 : Int) := ⟨by omega, by omega⟩
        exact if_pos this
      have lr : (rngL 0 v3).length = v3 := by simp [rngL]
      obtain ⟨ys, S2, e2, l2, p2, I2, n2⟩ := lcL_inv (d := .none) (all := rngL 0 v3) (step := turnE (evT (callN T fuel (n + m + 6)) []) (evE (callN T fuel (n + m + 6)) (.call 14 [.var 0, .bop .Sub (.var 1) (.con (.int 1))])) [some (loc s), some (.int ((m : Int) + 1)), some (.int (v1 : Int)), none] 3) (fun _ => stays_non)
        (fun xs S' => In s c S' ∧ S'.length = S.length) (Sh (9 + m)) (rngL 0 v3) S3 ⟨I3, by omega⟩ (fun x xs S' ⟨Iq, nq⟩ => by
          obtain ⟨y, S4, e4, v4, I4, n4⟩ := ih S' (by omega) Iq
          refine ⟨y, S4, ?_, v4, I4, by omega⟩
          have e0 : (m : Int) + 1 - 1 = m := by omega
          simp [turnE, e0, e4])
      rw [lr] at l2
      refine ⟨vl ys, S2, ?_, .list (9 + m) ys (by omega) p2, I2, n2⟩
      have q5 : ¬ ((v1 : Int) = 5) := by omega
      have q6 : ¬ ((v1 : Int) = 6) := by omega
      have q7 : ¬ ((v1 : Int) = 7) := by omega
      have q8 : ¬ ((v1 : Int) = 8) := by omega
      simp at e3
      simp [f14, b14, start0, e1, h5, hz, q5, q6, q7, q8, e3, hr, e2, mk_l (size_small (by omega : ys.length ≤ 1000)), vl]
end K10
set_option Elab.async false
set_option linter.all false
set_option maxRecDepth 100000
set_option maxHeartbeats 4000000
namespace K10
set_option autoImplicit false
open PySem L2 Cr PyProof.Rows
open PySem.PyData (strOk)
def absD : D → Option D
  | .int i => some (.int (i.natAbs : Int))
  | _ => none
theorem abs_map : ∀ ms : List Int, (ms.map PyData.int).filterMap absD = (ms.map Int.natAbs).map fun x : Nat => PyData.int x
  | [] => rfl
  | a :: r => by
    rw [List.map_cons, List.filterMap_cons, List.map_cons, List.map_cons, abs_map r]
    rfl
theorem r_state (n : Nat) (ns : List Int) (hn : ns.length ≤ 63) (hb : ∀ z ∈ ns, Builtin.Int.intBits z ≤ 1048576) : ∃ s c : Nat, ∃ S', callN T fuel (n + 1) 8 [.list (ns.map PyData.int)] [] = .ok (loc s) S' ∧ In s c S' := by
  obtain ⟨σ', S1, e, q, o2, rfl, h0, h1, rfl, _⟩ := frL_inv (d := .list (ns.map PyData.int)) (all := ns.map PyData.int) (step := fun x σ1 S2 => (evG (callN T fuel n) (.nm 2) x σ1 S2).seq (evB fuel (callN T fuel n) [.asg (.nm 1) (.bop .Mod (.blt .int [.bop .Add (.bop .Mult (.var 1) (.con (.int 31))) (.var 2)]) (.con (.int 1000003)))])) (fun _ => stays_list)
    (fun xs σ S' => ∃ (q : Int) (o2 : Option D), σ = [some (.list (ns.map PyData.int)), some (.int q), o2] ∧ 0 ≤ q ∧ q < 1000003 ∧ S' = [] ∧ ∀ x ∈ xs, ∃ i : Int, x = .int i) (ns.map PyData.int) [some (.list (ns.map PyData.int)), some (.int 7), none] [] ⟨7, none, rfl, by decide, by decide, rfl, fun x hx => by
      obtain ⟨i, _, rfl⟩ := List.mem_map.mp hx
      exact ⟨i, rfl⟩⟩ (by
      rintro x xs σ S' ⟨q, o2, rfl, h0, h1, rfl, hx⟩
      obtain ⟨i, rfl⟩ := hx x List.mem_cons_self
      have m1 := mul_i (i := q) (j := 31) (S := []) (mul_lg (k := 60) (l := 60) (by omega) (by decide))
      have r1 : binD .Mod (.int (q * 31 + i)) (.int 1000003) [] = .ok (.int ((q * 31 + i) % 1000003)) [] := by
        rw [mod_i (by decide), Int.fmod_eq_emod_of_nonneg _ (by decide)]
      refine ⟨_, _, ?_, (q * 31 + i) % 1000003, some (.int i), rfl, Int.emod_nonneg _ (by decide), Int.emod_lt_of_pos _ (by decide), rfl, fun y hy => hx y (List.mem_cons_of_mem _ hy)⟩
      simp [m1, r1])
  have lc := lcL_pure (d := .list (ns.map PyData.int)) (all := ns.map PyData.int) (step := turnE (evT (callN T fuel n) []) (evE (callN T fuel n) (.blt .abs [.var 2])) [some (.list (ns.map PyData.int)), some (.int q), o2] 2) (S := []) stays_list
    absD (ns.map PyData.int) (fun x hx => by
      obtain ⟨i, _, rfl⟩ := List.mem_map.mp hx
      have e : (if i < 0 then -i else i) = (i.natAbs : Int) := by split <;> omega
      simp [turnE, e, absD])
  rw [abs_map] at lc
  have hcl : ((ns.map Int.natAbs).map fun x : Nat => PyData.int x).length ≤ 1000 := by simp; omega
  have k1 := mk_n (S := []) (size_small hcl)
  refine ⟨1, 0, [.lst ((ns.map Int.natAbs).map fun x : Nat => PyData.int x), .lst [loc 0, .int (q + 1)]], ?_, by decide, ns.map Int.natAbs, (q + 1).toNat, by simpa using hn, by omega, ?_, rfl⟩
  · rw [call_eq (fn := f8) rfl rfl]
    unfold f8 b8
    rw [y_cons, y_asg]
    simp [start0]
    simp at e
    rw [e]
    simp at lc k1
    simp [lc, k1, mk_n]
  · have : ((q + 1).toNat : Int) = q + 1 := by omega
    rw [this]; rfl
theorem r_kinds (k : Nat) (S : Sto) : ∃ rows : List D, callN T fuel (k + 1) 20 [.int 4] S = .ok (.list rows) S ∧ rows.length ≤ 1000 ∧ ∀ t ∈ rows, Ty 4 t := by
  have hr : rangeD [.int 4] S = .ok (.none, rngL 0 4) S := by
    unfold rangeD
    exact if_pos (show small62 4 by decide)
  obtain ⟨σ', S', e, j, found, last, o3, o4, rfl, hj, rfl, hf, hl, nf, nl⟩ := frL_inv (d := .none) (all := rngL 0 4) (step := fun x σ1 S2 => (evG (callN T fuel k) (.nm 3) x σ1 S2).seq (evB fuel (callN T fuel k) [.asg (.nm 2) (.lc false 4 (.var 2) [] (.tup [.con (.str "list"), .var 4])), .asg (.nm 1) (.bop .Add (.var 1) (.var 2))])) (fun _ => stays_non)
    (fun xs σ S' => ∃ (j : Nat) (found last : List D) (o3 o4 : Option D), σ = [some (.int 4), some (.list found), some (.list last), o3, o4] ∧ j + xs.length = 4 ∧ S' = S ∧ (∀ t ∈ found, Ty j t) ∧ (∀ t ∈ last, Ty j t) ∧ found.length = 4 + 4 * j ∧ last.length = 4)
    (rngL 0 4) [some (.int 4), some (.list [.str "int", .str "bool", .str "text", .str "nothing"]), some (.list [.str "int", .str "bool", .str "text", .str "nothing"]), none, none] S
    ⟨0, _, _, none, none, rfl, by simp [rngL], rfl, by
      intro t ht
      simp only [List.mem_cons, List.not_mem_nil, or_false] at ht
      rcases ht with rfl | rfl | rfl | rfl <;> exact .atom 0 _, by
      intro t ht
      simp only [List.mem_cons, List.not_mem_nil, or_false] at ht
      rcases ht with rfl | rfl | rfl | rfl <;> exact .atom 0 _, rfl, rfl⟩ (by
      rintro x xs σ S' ⟨j, found, last, o3, o4, rfl, hj, rfl, hf, hl, nf, nl⟩
      rw [List.length_cons] at hj
      have lc := lcL_pure (d := .list last) (all := last) (step := turnE (evT (callN T fuel k) []) (evE (callN T fuel k) (.tup [.con (.str "list"), .var 4])) [some (.int 4), some (.list found), some (.list last), some x, o4] 4) (S := S') stays_list
        (fun t => some (.tuple [.str "list", t])) last (fun t _ => by simp [turnE])
      rw [List.filterMap_eq_map'] at lc
      have hm : (last.map fun t => PyData.tuple [.str "list", t]).length ≤ 1000 := by rw [List.length_map]; omega
      have hc := cat_l (a := found) (b := last.map fun t => PyData.tuple [.str "list", t]) (S := S') (size_small (by rw [List.length_map]; omega))
      refine ⟨_, _, ?_, j + 1, found ++ last.map (fun t => PyData.tuple [.str "list", t]), last.map fun t => PyData.tuple [.str "list", t], some x, o4, rfl, by omega, rfl, ?_, ?_, ?_, ?_⟩
      · simp [lc, mk_l (size_small hm), hc]
      · intro t ht
        rcases List.mem_append.mp ht with ht | ht
        · exact (hf t ht).mono _ (by omega)
        · obtain ⟨u, hu, rfl⟩ := List.mem_map.mp ht
          exact .list j u (hl u hu)
      · intro t ht
        obtain ⟨u, hu, rfl⟩ := List.mem_map.mp ht
        exact .list j u (hl u hu)
      · rw [List.length_append, List.length_map]; omega
      · rw [List.length_map]; exact nl)
  have hj : j = 4 := by simpa using hj
  subst hj
  refine ⟨found, ?_, by omega, hf⟩
  rw [call_eq (fn := f20) rfl rfl]
  unfold f20 b20
  simp [start0, mk_l, hr]
  simp at e
  rw [e]
  simp
/-- what is told of a shape -/
structure Told (v : D) (W : Bool) (dp : Nat) (K : Option KT) : Prop where
  kok : ∀ t, K = some t → K10.kok t ∧ kdep t ≤ 12
  w : ∀ S, callN T fuel 40 15 [v] S = .ok (.bool W) S
  d : ∀ S, callN T fuel 40 16 [v] S = .ok (.int (dp : Int)) S
  k1 : ∀ S, callN T fuel 40 4 [v] S = .ok (fD K) S
  k2 : ∀ S, callN T fuel 40 18 [v] S = .ok (oD K) S
  iv : ∀ S, callN T fuel 40 7 [v] S = .ok (.bool (W && (decide (dp ≤ 6) && K.isSome))) S
theorem told_of {v : D} (h : Sh 12 v) : ∃ W dp K, Told v W dp K := by
  obtain ⟨W, hW⟩ := within_ok 12 v h
  obtain ⟨dp, _, hd⟩ := depth_ok 12 v h
  obtain ⟨K, hk, hK⟩ := known_ok 12 v h (by decide)
  refine ⟨W, dp, K, hk, fun S => (hW 27 S).2, fun S => (hd 27 S).2, fun S => (hK 27 S).1, fun S => (hK 27 S).2, fun S => ?_⟩
  have a1 := (hW 26 S).1
  have a2 := (hd 26 S).1
  have a3 := (hK 26 S).1
  rw [call_eq (n := 39) (fn := f7) rfl rfl]
  have hi : ((dp : Int) ≤ 6) ↔ dp ≤ 6 := by omega
  have hn : cmpD .IsNot (fD K) (.bool false) S = .ok (.bool K.isSome) S := by
    cases K with
    | none => simp [fD]
    | some t => cases t <;> simp [fD, toK]
  cases W <;> by_cases h6 : dp ≤ 6 <;> simp [f7, b7, start0, a1, a2, a3, h6, hi, hn]
end K10
set_option Elab.async false
set_option linter.all false
set_option maxRecDepth 100000
set_option maxHeartbeats 4000000
namespace K10
set_option autoImplicit false
open PySem L2 Cr PyProof.Rows
open PySem.PyData (strOk)
def u0 : CS := .asg (.nm 1) (.call 8 [.var 0])
def u1 : CS := .asg (.nm 2) (.call 11 [.var 1, .con (.int 6)])
def u2_0 : CS := .asg (.nm 7) (.call 10 [.var 1, .lst false [.con (.str "int"), .con (.str "bool"), .con (.str "text"), .con (.str "nothing"), .con (.str "list"), .con (.str "number"), .con (.str "")]])
def u2_1 : CS := .frr (.nm 8) [.var 3] [.asg (.nm 7) (.tup [.con (.str "list"), .var 7])]
def u2_2 : CS := .asg (.nm 9) (.var 7)
def u2_3 : CS := .frr (.nm 8) [.var 3] [.asg (.nm 9) (.idx (.var 9) (.con (.int 1)))]
def u2_4 : CS := .ife (.cmp .NotEq (.blt .repr [.call 0 [.var 7]]) (.blt .repr [.and (.cmp .In (.var 9) (.tup [.con (.str "int"), .con (.str "bool"), .con (.str "text"), .con (.str "nothing")])) (.cmp .LtE (.var 3) (.con (.int 6)))])) [.ret (.con (.bool false))] []
def l2 : List CS := [u2_0, u2_1, u2_2, u2_3, u2_4]
def u2 : CS := .frr (.nm 3) [.con (.int 9)] l2
def u3 : CS := .asg (.nm 4) (.call 12 [.var 1, .var 2])
def u4 : CS := .ife (.or (.not (.call 0 [.var 2])) (.or (.cmp .IsNot (.call 2 [.var 4, .var 2]) (.con (.bool true))) (.or (.cmp .IsNot (.call 7 [.var 4]) (.con (.bool true))) (.cmp .NotEq (.call 1 [.var 4]) (.idx (.var 4) (.con (.int 0))))))) [.ret (.con (.bool false))] []
def u5 : CS := .asg (.nm 5) (.lr false 3 [.con (.int 3)] [] (.call 14 [.var 1, .con (.int 3)]))
def u6_0 : CS := .asg (.nm 10) (.call 4 [.var 6])
def u6_1 : CS := .asg (.nm 11) (.call 18 [.var 6])
def u6_2 : CS := .ife (.cmp .NotEq (.var 10) (.ite (.cmp .Eq (.var 11) (.con (.str "none"))) (.con (.bool false)) (.var 11))) [.ret (.con (.bool false))] []
def u6_3 : CS := .ife (.cmp .NotEq (.blt .repr [.call 7 [.var 6]]) (.blt .repr [.and (.call 15 [.var 6]) (.and (.cmp .LtE (.call 16 [.var 6]) (.con (.int 6))) (.cmp .NotEq (.var 11) (.con (.str "none"))))])) [.ret (.con (.bool false))] []
def u6_4 : CS := .fro (.nm 12) (.call 20 [.con (.int 4)]) [.ife (.cmp .NotEq (.blt .repr [.call 2 [.var 6, .var 12]]) (.blt .repr [.call 17 [.var 6, .var 12]])) [.ret (.con (.bool false))] []]
def u6_5 : CS := .fro (.nm 12) (.var 5) [.ife (.and (.cmp .NotEq (.call 18 [.var 12]) (.con (.str "none"))) (.cmp .NotEq (.var 11) (.con (.str "none")))) [.asg (.nm 13) (.call 3 [.var 10, .call 4 [.var 12]]), .asg (.nm 14) (.call 19 [.var 11, .call 18 [.var 12]]), .ife (.or (.cmp .NotEq (.var 13) (.ite (.cmp .Eq (.var 14) (.con (.str "none"))) (.con (.bool false)) (.var 14))) (.cmp .NotEq (.call 3 [.call 4 [.var 12], .var 10]) (.var 13))) [.ret (.con (.bool false))] []] []]
def l6 : List CS := [u6_0, u6_1, u6_2, u6_3, u6_4, u6_5]
def u6 : CS := .fro (.nm 6) (.var 5) l6
def u7 : CS := .ret (.con (.bool true))
theorem b21_eq : b21 = [u0, u1, u2, u3, u4, u5, u6, u7] := rfl
end K10
set_option Elab.async false
set_option linter.all false
set_option maxRecDepth 100000
set_option maxHeartbeats 4000000
namespace K10
set_option autoImplicit false
open PySem L2 Cr PyProof.Rows
open PySem.PyData (strOk)
/-! ### the first loop -/
theorem in_plain {p : String} {S : Sto} : cmpD .In (.str p) (.tuple [.str "int", .str "bool", .str "text", .str "nothing"]) S = .ok (.bool (decide (p ∈ plainNames))) S := by
  rw [in_tup (pl_plain (n := 1) (by simp)) (by simp)]
  congr 2
  unfold inD plainNames
  rw [Bool.eq_iff_iff]
  simp
  constructor <;> (rintro (rfl | rfl | rfl | rfl) <;> simp)
theorem rng_ok (m : Nat) (S : Sto) (h : m ≤ 1000) : rangeD [.int (m : Int)] S = .ok (.none, rngL 0 m) S := by
  unfold rangeD
  have : small62 (m : Int) := ⟨by omega, by omega⟩
  exact if_pos this
theorem repr_ne {p q : Bool} {S : Sto} (h : p = q) : cmpD .NotEq (.str (if p = true then "True" else "False")) (.str (if q = true then "True" else "False")) S = .ok (.bool false) S := by
  subst h
  cases p <;> simp
theorem turnA (L : D) (s c k : Nat) (S : Sto) (I : In s c S) (hk : k < 9) (o2 o4 o5 o6 o7 o8 o9 o10 o11 o12 o13 o14 : Option D) :
    ∃ p7 p8 p9 S', evB fuel (callN T fuel 40) l2 [some L, some (loc s), o2, some (.int (k : Int)), o4, o5, o6, o7, o8, o9, o10, o11, o12, o13, o14] S = .nx [some L, some (loc s), o2, some (.int (k : Int)), o4, o5, o6, p7, p8, p9, o10, o11, o12, o13, o14] S' ∧ In s c S' := by
  obtain ⟨x, hx, S1, e1, I1, n1⟩ := pick_ok 38 s c [.str "int", .str "bool", .str "text", .str "nothing", .str "list", .str "number", .str ""] S I (by simp) (by simp)
  have hx : ∃ p : String, x = .str p := by
    simp only [List.mem_cons, List.not_mem_nil, or_false] at hx
    rcases hx with rfl | rfl | rfl | rfl | rfl | rfl | rfl <;> exact ⟨_, rfl⟩
  obtain ⟨p, rfl⟩ := hx
  have lr : (rngL 0 k).length = k := by simp [rngL]
  have t0 : evS fuel (callN T fuel 40) u2_0 [some L, some (loc s), o2, some (.int (k : Int)), o4, o5, o6, o7, o8, o9, o10, o11, o12, o13, o14] S = .nx [some L, some (loc s), o2, some (.int (k : Int)), o4, o5, o6, some (.str p), o8, o9, o10, o11, o12, o13, o14] S1 := by
    simp [u2_0, mk_l, e1]
  have t1 : ∃ p8 : Option D, evS fuel (callN T fuel 40) u2_1 [some L, some (loc s), o2, some (.int (k : Int)), o4, o5, o6, some (.str p), o8, o9, o10, o11, o12, o13, o14] S1 = .nx [some L, some (loc s), o2, some (.int (k : Int)), o4, o5, o6, some (wr k (.str p)), p8, o9, o10, o11, o12, o13, o14] S1 := by
    obtain ⟨σ', S', e, j, p8, rfl, hj, rfl⟩ := frL_inv (d := .none) (all := rngL 0 k) (step := fun x σ1 S2 => (evG (callN T fuel 40) (.nm 8) x σ1 S2).seq (evB fuel (callN T fuel 40) [.asg (.nm 7) (.tup [.con (.str "list"), .var 7])])) (fun _ => stays_non)
      (fun xs σ S' => ∃ (j : Nat) (p8 : Option D), σ = [some L, some (loc s), o2, some (.int (k : Int)), o4, o5, o6, some (wr j (.str p)), p8, o9, o10, o11, o12, o13, o14] ∧ j + xs.length = k ∧ S' = S1) (rngL 0 k) [some L, some (loc s), o2, some (.int (k : Int)), o4, o5, o6, some (.str p), o8, o9, o10, o11, o12, o13, o14] S1 ⟨0, o8, rfl, by simp [rngL], rfl⟩ (by
        rintro x xs σ S' ⟨j, p8, rfl, hj, rfl⟩
        rw [List.length_cons] at hj
        refine ⟨_, _, ?_, j + 1, some x, rfl, by omega, rfl⟩
        simp [wr])
    have hj : j = k := by simpa using hj
    subst hj
    refine ⟨p8, ?_⟩
    have h : ((evEs (callN T fuel 40) [.var 3] [some L, some (loc s), o2, some (.int (j : Int)), o4, o5, o6, some (.str p), o8, o9, o10, o11, o12, o13, o14] S').bind fun x S1 => rangeD x S1) = .ok (.none, rngL 0 j) S' := by simp [rng_ok j S' (by omega)]
    rw [u2_1, y_frr, h, st_ok]
    exact e
  obtain ⟨p8, t1⟩ := t1
  have t2 : evS fuel (callN T fuel 40) u2_2 [some L, some (loc s), o2, some (.int (k : Int)), o4, o5, o6, some (wr k (.str p)), p8, o9, o10, o11, o12, o13, o14] S1 = .nx [some L, some (loc s), o2, some (.int (k : Int)), o4, o5, o6, some (wr k (.str p)), p8, some (wr k (.str p)), o10, o11, o12, o13, o14] S1 := by
    simp [u2_2]
  have t3 : ∃ q8 : Option D, evS fuel (callN T fuel 40) u2_3 [some L, some (loc s), o2, some (.int (k : Int)), o4, o5, o6, some (wr k (.str p)), p8, some (wr k (.str p)), o10, o11, o12, o13, o14] S1 = .nx [some L, some (loc s), o2, some (.int (k : Int)), o4, o5, o6, some (wr k (.str p)), q8, some (.str p), o10, o11, o12, o13, o14] S1 := by
    obtain ⟨σ', S', e, j, q8, rfl, hj, rfl⟩ := frL_inv (d := .none) (all := rngL 0 k) (step := fun x σ1 S2 => (evG (callN T fuel 40) (.nm 8) x σ1 S2).seq (evB fuel (callN T fuel 40) [.asg (.nm 9) (.idx (.var 9) (.con (.int 1)))])) (fun _ => stays_non)
      (fun xs σ S' => ∃ (j : Nat) (q8 : Option D), σ = [some L, some (loc s), o2, some (.int (k : Int)), o4, o5, o6, some (wr k (.str p)), q8, some (wr j (.str p)), o10, o11, o12, o13, o14] ∧ j = xs.length ∧ S' = S1) (rngL 0 k) [some L, some (loc s), o2, some (.int (k : Int)), o4, o5, o6, some (wr k (.str p)), p8, some (wr k (.str p)), o10, o11, o12, o13, o14] S1 ⟨k, p8, rfl, by simp [rngL], rfl⟩ (by
        rintro x xs σ S' ⟨j, q8, rfl, hj, rfl⟩
        rw [List.length_cons] at hj
        subst hj
        refine ⟨_, _, ?_, xs.length, some x, rfl, rfl, rfl⟩
        simp [wr])
    have hj : j = 0 := by simpa using hj
    subst hj
    refine ⟨q8, ?_⟩
    have h : ((evEs (callN T fuel 40) [.var 3] [some L, some (loc s), o2, some (.int (k : Int)), o4, o5, o6, some (wr k (.str p)), p8, some (wr k (.str p)), o10, o11, o12, o13, o14] S').bind fun x S1 => rangeD x S1) = .ok (.none, rngL 0 k) S' := by simp [rng_ok k S' (by omega)]
    rw [u2_3, y_frr, h, st_ok]
    exact e
  obtain ⟨q8, t3⟩ := t3
  have t4 : evS fuel (callN T fuel 40) u2_4 [some L, some (loc s), o2, some (.int (k : Int)), o4, o5, o6, some (wr k (.str p)), q8, some (.str p), o10, o11, o12, o13, o14] S1 = .nx [some L, some (loc s), o2, some (.int (k : Int)), o4, o5, o6, some (wr k (.str p)), q8, some (.str p), o10, o11, o12, o13, o14] S1 := by
    have e2 := r_istype 39 S1 p k (by omega)
    have hi := in_plain (p := p) (S := S1)
    have hk6 : ((k : Int) ≤ 6) ↔ k ≤ 6 := by omega
    by_cases hs : p ∈ plainNames <;> by_cases h6 : k ≤ 6 <;> simp [u2_4, e2, hi, hs, h6, hk6]
  exact ⟨_, _, _, S1, by rw [l2, y_cons, t0, seq_nx, y_cons, t1, seq_nx, y_cons, t2, seq_nx, y_cons, t3, seq_nx, y_cons, t4, seq_nx, y_nil], I1⟩
theorem loopA (L : D) (s c : Nat) (S : Sto) (I : In s c S) (o2 : Option D) :
    ∃ p3 p7 p8 p9 S', evS fuel (callN T fuel 40) u2 [some L, some (loc s), o2, none, none, none, none, none, none, none, none, none, none, none, none] S = .nx [some L, some (loc s), o2, p3, none, none, none, p7, p8, p9, none, none, none, none, none] S' ∧ In s c S' := by
  obtain ⟨σ', S', e, ⟨p3, p7, p8, p9, rfl⟩, I', _⟩ := frL_inv (d := .none) (all := rngL 0 9) (step := fun x σ1 S2 => (evG (callN T fuel 40) (.nm 3) x σ1 S2).seq (evB fuel (callN T fuel 40) l2)) (fun _ => stays_non)
    (fun xs σ S' => (∃ (p3 p7 p8 p9 : Option D), σ = [some L, some (loc s), o2, p3, none, none, none, p7, p8, p9, none, none, none, none, none]) ∧ In s c S' ∧ ∀ x ∈ xs, ∃ k : Nat, x = .int (k : Int) ∧ k < 9) (rngL 0 9) [some L, some (loc s), o2, none, none, none, none, none, none, none, none, none, none, none, none] S
    ⟨⟨none, none, none, none, rfl⟩, I, fun x hx => by
      unfold rngL at hx
      obtain ⟨i, hi, rfl⟩ := List.mem_map.mp hx
      exact ⟨i, by simp, by simpa using hi⟩⟩ (by
      rintro x xs σ S' ⟨⟨p3, p7, p8, p9, rfl⟩, I', hx⟩
      obtain ⟨k, rfl, hk⟩ := hx x List.mem_cons_self
      obtain ⟨q7, q8, q9, S2, e2, I2⟩ := turnA L s c k S' I' hk o2 none none none p7 p8 p9 none none none none none
      refine ⟨_, S2, ?_, ⟨some (.int (k : Int)), q7, q8, q9, rfl⟩, I2, fun y hy => hx y (List.mem_cons_of_mem _ hy)⟩
      rw [y_gnm, seq_nx]
      exact e2)
  refine ⟨p3, p7, p8, p9, S', ?_, I'⟩
  have h : ((evEs (callN T fuel 40) [.con (.int 9)] [some L, some (loc s), o2, none, none, none, none, none, none, none, none, none, none, none, none] S).bind fun x S1 => rangeD x S1) = .ok (.none, rngL 0 9) S := by
    have := rng_ok 9 S (by decide)
    simp at this
    simp [this]
  rw [u2, y_frr, h, st_ok]
  exact e
end K10
set_option Elab.async false
set_option linter.all false
set_option maxRecDepth 100000
set_option maxHeartbeats 4000000
namespace K10
set_option autoImplicit false
open PySem L2 Cr PyProof.Rows
open PySem.PyData (strOk)
section
variable (S : Sto) (K : Option KT) (hK : ∀ t, K = some t → kok t ∧ kdep t ≤ 12)
include hK
theorem oD_eq : cmpD .Eq (oD K) (.str "none") S = .ok (.bool (!K.isSome)) S := by
  cases K with
  | none => simp [oD]
  | some t => exact eq_none (hK t rfl).1 (by have := (hK t rfl).2; omega)
theorem oD_ne : cmpD .NotEq (oD K) (.str "none") S = .ok (.bool K.isSome) S := by
  cases K with
  | none => simp [oD]
  | some t =>
    have h1 := pl_mono (n := 64) (toK_pl t 12 (hK t rfl).1 (hK t rfl).2)
    show cmpD .NotEq (toK t) _ S = _
    rw [ne_d h1 (by simp), eqv_none (hK t rfl).1]
    rfl
theorem fD_pl : pl 64 (fD K) = true := by
  cases K with
  | none => simp [fD]
  | some t => exact pl_mono (toK_pl t 12 (hK t rfl).1 (hK t rfl).2)
/-- False for none -/
theorem conv_ok {R : Nat → List D → Sto → Out D} {σ : Cr.Fr} {i : Nat} (h : σ[i]? = some (some (oD K))) : evE R (.ite (.cmp .Eq (.var i) (.con (.str "none"))) (.con (.bool false)) (.var i)) σ S = .ok (fD K) S := by
  have e := oD_eq S K hK
  cases K with
  | none => simp at e; simp [h, e, fD]
  | some t =>
    have e : cmpD .Eq (toK t) (.str "none") S = .ok (.bool false) S := e
    simp [h, e, fD, oD]
end
section
variable (S : Sto) (L st kd v4 : D) (rows : List D) (p3 p7 p8 p9 o12 o13 o14 : Option D)
def gr (x : D) (K : Option KT) : Cr.Fr := [some L, some st, some kd, p3, some v4, some (.list rows), some x, p7, p8, p9, some (fD K), some (oD K), o12, o13, o14]
theorem z2 {x : D} {W : Bool} {dp : Nat} {K : Option KT} (t : Told x W dp K) : evS fuel (callN T fuel 40) u6_2 (gr L st kd v4 rows p3 p7 p8 p9 o12 o13 o14 x K) S = .nx (gr L st kd v4 rows p3 p7 p8 p9 o12 o13 o14 x K) S := by
  have e := conv_ok S K t.kok (R := callN T fuel 40) (σ := gr L st kd v4 rows p3 p7 p8 p9 o12 o13 o14 x K) (i := 11) rfl
  have n := ne_self (n := 64) (S := S) (fD_pl K t.kok)
  have v10 : evE (callN T fuel 40) (.var 10) (gr L st kd v4 rows p3 p7 p8 p9 o12 o13 o14 x K) S = .ok (fD K) S := by simp [gr]
  unfold u6_2
  rw [y_ife, x_cmp, v10, bind_ok, e, bind_ok, n]
  simp
theorem z3 {x : D} {W : Bool} {dp : Nat} {K : Option KT} (t : Told x W dp K) : evS fuel (callN T fuel 40) u6_3 (gr L st kd v4 rows p3 p7 p8 p9 o12 o13 o14 x K) S = .nx (gr L st kd v4 rows p3 p7 p8 p9 o12 o13 o14 x K) S := by
  have e := oD_ne S K t.kok
  have a1 := t.iv S
  have a2 := t.w S
  have a3 := t.d S
  have h6 : ((dp : Int) ≤ 6) ↔ dp ≤ 6 := by omega
  cases W <;> by_cases q : dp ≤ 6 <;> cases hs : K.isSome <;> simp [hs, q] at a1 e <;> simp [u6_3, gr, a1, a2, a3, e, h6, q]
theorem z4 {x : D} (hx : Sh 12 x) (K : Option KT) : ∃ q12 : Option D, evS fuel (callN T fuel 40) u6_4 (gr L st kd v4 rows p3 p7 p8 p9 o12 o13 o14 x K) S = .nx (gr L st kd v4 rows p3 p7 p8 p9 q12 o13 o14 x K) S := by
  obtain ⟨ks, e1, _, hk⟩ := r_kinds 39 S
  obtain ⟨σ', S', e, q12, rfl, rfl, _⟩ := frL_inv (d := .list ks) (all := ks) (step := fun y σ1 S2 => (evG (callN T fuel 40) (.nm 12) y σ1 S2).seq (evB fuel (callN T fuel 40) [.ife (.cmp .NotEq (.blt .repr [.call 2 [.var 6, .var 12]]) (.blt .repr [.call 17 [.var 6, .var 12]])) [.ret (.con (.bool false))] []])) (fun _ => stays_list)
    (fun ys σ S' => ∃ q12 : Option D, σ = gr L st kd v4 rows p3 p7 p8 p9 q12 o13 o14 x K ∧ S' = S ∧ ∀ y ∈ ys, Ty 4 y) ks (gr L st kd v4 rows p3 p7 p8 p9 o12 o13 o14 x K) S ⟨o12, rfl, rfl, hk⟩ (by
      rintro y ys σ S' ⟨q12, rfl, rfl, hy⟩
      obtain ⟨b, hb⟩ := fits_ok 4 y (hy y List.mem_cons_self) 12 x hx
      have b1 := (hb 35 S').1
      have b2 := (hb 35 S').2
      refine ⟨_, _, ?_, some y, rfl, rfl, fun z hz => hy z (List.mem_cons_of_mem _ hz)⟩
      cases b <;> simp [gr, b1, b2])
  refine ⟨q12, ?_⟩
  have h : ((evE (callN T fuel 40) (.call 20 [.con (.int 4)]) (gr L st kd v4 rows p3 p7 p8 p9 o12 o13 o14 x K) S').bind fun x S1 => walked x S1) = .ok (.list ks, ks) S' := by simp [e1]
  rw [u6_4, y_fro, h, st_ok]
  exact e
theorem z5 {x : D} {W : Bool} {dp : Nat} {K : Option KT} (t : Told x W dp K) (hr : ∀ y ∈ rows, Sh 12 y) : ∃ q12 q13 q14 : Option D, evS fuel (callN T fuel 40) u6_5 (gr L st kd v4 rows p3 p7 p8 p9 o12 o13 o14 x K) S = .nx (gr L st kd v4 rows p3 p7 p8 p9 q12 q13 q14 x K) S := by
  obtain ⟨σ', S', e, q12, q13, q14, rfl, rfl, _⟩ := frL_inv (d := .list rows) (all := rows) (step := fun y σ1 S2 => (evG (callN T fuel 40) (.nm 12) y σ1 S2).seq (evB fuel (callN T fuel 40) [.ife (.and (.cmp .NotEq (.call 18 [.var 12]) (.con (.str "none"))) (.cmp .NotEq (.var 11) (.con (.str "none")))) [.asg (.nm 13) (.call 3 [.var 10, .call 4 [.var 12]]), .asg (.nm 14) (.call 19 [.var 11, .call 18 [.var 12]]), .ife (.or (.cmp .NotEq (.var 13) (.ite (.cmp .Eq (.var 14) (.con (.str "none"))) (.con (.bool false)) (.var 14))) (.cmp .NotEq (.call 3 [.call 4 [.var 12], .var 10]) (.var 13))) [.ret (.con (.bool false))] []] []])) (fun _ => stays_list)
    (fun ys σ S' => ∃ q12 q13 q14 : Option D, σ = gr L st kd v4 rows p3 p7 p8 p9 q12 q13 q14 x K ∧ S' = S ∧ ∀ y ∈ ys, Sh 12 y) rows (gr L st kd v4 rows p3 p7 p8 p9 o12 o13 o14 x K) S ⟨o12, o13, o14, rfl, rfl, hr⟩ (by
      rintro y ys σ S' ⟨q12, q13, q14, rfl, rfl, hy⟩
      obtain ⟨W2, dp2, K2, t2⟩ := told_of (hy y List.mem_cons_self)
      have n1 := oD_ne S' K t.kok
      have n2 := oD_ne S' K2 t2.kok
      have a1 := t2.k1 S'
      have a2 := t2.k2 S'
      cases K2 with
      | none =>
        have a2 : callN T fuel 40 18 [y] S' = .ok (.str "none") S' := a2
        refine ⟨gr L st kd v4 rows p3 p7 p8 p9 (some y) q13 q14 x K, S', ?_, some y, q13, q14, rfl, rfl, fun z hz => hy z (List.mem_cons_of_mem _ hz)⟩
        simp [gr, a2]
      | some c2 =>
        have f4 : oD (some c2) = toK c2 := rfl
        rw [f4] at a2 n2
        simp at n2
        cases K with
        | none =>
          refine ⟨gr L st kd v4 rows p3 p7 p8 p9 (some y) q13 q14 x none, S', ?_, some y, q13, q14, rfl, rfl, fun z hz => hy z (List.mem_cons_of_mem _ hz)⟩
          have f0 : oD none = .str "none" := rfl
          simp [gr, a2, n2, f0]
        | some c1 =>
          simp at n1
          obtain ⟨g1, g2⟩ := t.kok c1 rfl
          obtain ⟨h1, h2⟩ := t2.kok c2 rfl
          have j1 := r_join 27 S' c1 c2 12 g1 h1 g2 (by omega) (by omega)
          have j2 := r_join 27 S' c2 c1 12 h1 g1 h2 (by omega) (by omega)
          rw [join_comm c2 c1] at j2
          have b1 := r_both0 27 S' c1 c2 12 g1 h1 g2 (by omega) (by omega)
          have hj : ∀ t, join c1 c2 = some t → kok t ∧ kdep t ≤ 12 := fun t ht => ⟨join_ok ht g1 h1, join_dep ht g2 h2⟩
          have f1 : fD (some c1) = toK c1 := rfl
          have f2 : fD (some c2) = toK c2 := rfl
          have f3 : oD (some c1) = toK c1 := rfl
          rw [f2] at a1
          rw [f3] at n1
          refine ⟨gr L st kd v4 rows p3 p7 p8 p9 (some y) (some (fD (join c1 c2))) (some (oD (join c1 c2))) x (some c1), S', ?_, some y, _, _, rfl, rfl, fun z hz => hy z (List.mem_cons_of_mem _ hz)⟩
          have s1 := ne_self (n := 64) (S := S') (fD_pl _ hj)
          have cv := conv_ok S' _ hj (R := callN T fuel 40) (σ := gr L st kd v4 rows p3 p7 p8 p9 (some y) (some (fD (join c1 c2))) (some (oD (join c1 c2))) x (some c1)) (i := 14) rfl
          have ck : evS fuel (callN T fuel 40) (.ife (.or (.cmp .NotEq (.var 13) (.ite (.cmp .Eq (.var 14) (.con (.str "none"))) (.con (.bool false)) (.var 14))) (.cmp .NotEq (.call 3 [.call 4 [.var 12], .var 10]) (.var 13))) [.ret (.con (.bool false))] []) (gr L st kd v4 rows p3 p7 p8 p9 (some y) (some (fD (join c1 c2))) (some (oD (join c1 c2))) x (some c1)) S' = .nx (gr L st kd v4 rows p3 p7 p8 p9 (some y) (some (fD (join c1 c2))) (some (oD (join c1 c2))) x (some c1)) S' := by
            have v13 : evE (callN T fuel 40) (.var 13) (gr L st kd v4 rows p3 p7 p8 p9 (some y) (some (fD (join c1 c2))) (some (oD (join c1 c2))) x (some c1)) S' = .ok (fD (join c1 c2)) S' := by simp [gr]
            have v10 : evE (callN T fuel 40) (.call 3 [.call 4 [.var 12], .var 10]) (gr L st kd v4 rows p3 p7 p8 p9 (some y) (some (fD (join c1 c2))) (some (oD (join c1 c2))) x (some c1)) S' = .ok (fD (join c1 c2)) S' := by simp [gr, a1, f1, j2]
            rw [y_ife, x_or, x_cmp, v13, bind_ok, cv, bind_ok, s1, bind_ok, onB_false, x_cmp, v10, bind_ok, v13, bind_ok, s1]
            simp
          have e13 : evS fuel (callN T fuel 40) (.asg (.nm 13) (.call 3 [.var 10, .call 4 [.var 12]])) (gr L st kd v4 rows p3 p7 p8 p9 (some y) q13 q14 x (some c1)) S' = .nx (gr L st kd v4 rows p3 p7 p8 p9 (some y) (some (fD (join c1 c2))) q14 x (some c1)) S' := by simp [gr, f1, a1, j1]
          have e14 : evS fuel (callN T fuel 40) (.asg (.nm 14) (.call 19 [.var 11, .call 18 [.var 12]])) (gr L st kd v4 rows p3 p7 p8 p9 (some y) (some (fD (join c1 c2))) q14 x (some c1)) S' = .nx (gr L st kd v4 rows p3 p7 p8 p9 (some y) (some (fD (join c1 c2))) (some (oD (join c1 c2))) x (some c1)) S' := by simp [gr, f3, a2, b1]
          have hc : evE (callN T fuel 40) (.and (.cmp .NotEq (.call 18 [.var 12]) (.con (.str "none"))) (.cmp .NotEq (.var 11) (.con (.str "none")))) (gr L st kd v4 rows p3 p7 p8 p9 (some y) q13 q14 x (some c1)) S' = .ok (.bool true) S' := by simp [gr, a2, n2, f3, n1]
          have g12 : (gr L st kd v4 rows p3 p7 p8 p9 q12 q13 q14 x (some c1)).set 12 (some y) = gr L st kd v4 rows p3 p7 p8 p9 (some y) q13 q14 x (some c1) := rfl
          rw [y_gnm, seq_nx, g12, y_cons, y_ife, hc, st_ok, onS_true, y_cons, e13, seq_nx, y_cons, e14, seq_nx, y_cons, ck, seq_nx, y_nil, seq_nx, y_nil])
  refine ⟨q12, q13, q14, ?_⟩
  have h : ((evE (callN T fuel 40) (.var 5) (gr L st kd v4 rows p3 p7 p8 p9 o12 o13 o14 x K) S').bind fun x S1 => walked x S1) = .ok (.list rows, rows) S' := by simp [gr]
  rw [u6_5, y_fro, h, st_ok]
  exact e
end
end K10
set_option Elab.async false
set_option linter.all false
set_option maxRecDepth 100000
set_option maxHeartbeats 4000000
namespace K10
set_option autoImplicit false
open PySem L2 Cr PyProof.Rows
open PySem.PyData (strOk)
theorem Ty_wr (p : String) : ∀ j : Nat, Ty j (wr j (.str p))
  | 0 => .atom 0 p
  | j + 1 => .list j _ (Ty_wr p j)
theorem rowsB (S : Sto) (L st kd v4 : D) (rows : List D) (p3 p7 p8 p9 : Option D) (hr : ∀ y ∈ rows, Sh 12 y) :
    ∃ σ' : Cr.Fr, evS fuel (callN T fuel 40) u6 [some L, some st, some kd, p3, some v4, some (.list rows), none, p7, p8, p9, none, none, none, none, none] S = .nx σ' S := by
  obtain ⟨σ', S', e, _, rfl, _⟩ := frL_inv (d := .list rows) (all := rows) (step := fun y σ1 S2 => (evG (callN T fuel 40) (.nm 6) y σ1 S2).seq (evB fuel (callN T fuel 40) l6)) (fun _ => stays_list)
    (fun ys σ S' => (∃ q6 q10 q11 q12 q13 q14 : Option D, σ = [some L, some st, some kd, p3, some v4, some (.list rows), q6, p7, p8, p9, q10, q11, q12, q13, q14]) ∧ S' = S ∧ ∀ y ∈ ys, Sh 12 y) rows [some L, some st, some kd, p3, some v4, some (.list rows), none, p7, p8, p9, none, none, none, none, none] S ⟨⟨_, _, _, _, _, _, rfl⟩, rfl, hr⟩ (by
      rintro x ys σ S' ⟨⟨q6, q10, q11, q12, q13, q14, rfl⟩, rfl, hy⟩
      have hx := hy x List.mem_cons_self
      obtain ⟨W, dp, K, t⟩ := told_of hx
      obtain ⟨r12, h4⟩ := z4 S' L st kd v4 rows p3 p7 p8 p9 q12 q13 q14 hx K
      obtain ⟨s12, s13, s14, h5⟩ := z5 S' L st kd v4 rows p3 p7 p8 p9 r12 q13 q14 t hr
      have h2 := z2 S' L st kd v4 rows p3 p7 p8 p9 q12 q13 q14 t
      have h3 := z3 S' L st kd v4 rows p3 p7 p8 p9 q12 q13 q14 t
      have t1 := t.k1 S'
      have t2 := t.k2 S'
      have e0 : evS fuel (callN T fuel 40) u6_0 [some L, some st, some kd, p3, some v4, some (.list rows), some x, p7, p8, p9, q10, q11, q12, q13, q14] S' = .nx [some L, some st, some kd, p3, some v4, some (.list rows), some x, p7, p8, p9, some (fD K), q11, q12, q13, q14] S' := by simp [u6_0, t1]
      have e1 : evS fuel (callN T fuel 40) u6_1 [some L, some st, some kd, p3, some v4, some (.list rows), some x, p7, p8, p9, some (fD K), q11, q12, q13, q14] S' = .nx (gr L st kd v4 rows p3 p7 p8 p9 q12 q13 q14 x K) S' := by simp [u6_1, t2, gr]
      refine ⟨gr L st kd v4 rows p3 p7 p8 p9 s12 s13 s14 x K, S', ?_, ⟨_, _, _, _, _, _, rfl⟩, rfl, fun z hz => hy z (List.mem_cons_of_mem _ hz)⟩
      have g6 : ([some L, some st, some kd, p3, some v4, some (.list rows), q6, p7, p8, p9, q10, q11, q12, q13, q14] : Cr.Fr).set 6 (some x) = [some L, some st, some kd, p3, some v4, some (.list rows), some x, p7, p8, p9, q10, q11, q12, q13, q14] := rfl
      rw [y_gnm, seq_nx, g6, l6, y_cons, e0, seq_nx, y_cons, e1, seq_nx, y_cons, h2, seq_nx, y_cons, h3, seq_nx, y_cons, h4, seq_nx, y_cons, h5, seq_nx, y_nil])
  refine ⟨σ', ?_⟩
  have h : ((evE (callN T fuel 40) (.var 5) [some L, some st, some kd, p3, some v4, some (.list rows), none, p7, p8, p9, none, none, none, none, none] S').bind fun x S1 => walked x S1) = .ok (.list rows, rows) S' := by simp
  rw [u6, y_fro, h, st_ok]
  exact e
theorem law_true : ∀ ns : List Int, ns.length ≤ 63 → (∀ z ∈ ns, Builtin.Int.intBits z ≤ 1048576) → ∃ S, callN T fuel (40 + 1) 21 [.list (ns.map PyData.int)] [] = .ok (.bool true) S := by
  intro ns hn hb
  obtain ⟨s, c, S1, e1, I1⟩ := r_state 39 ns hn hb
  obtain ⟨p, j, hp, hj, S2, e2, I2, n2⟩ := r_type 31 s c 6 S1 (by omega) I1
  obtain ⟨p3, p7, p8, p9, S3, e3, I3⟩ := loopA (.list (ns.map PyData.int)) s c S2 I2 (some (wr j (.str p)))
  obtain ⟨v, S4, e4, hv, I4, n4⟩ := r_val (36 - j) s c p hp j S3 (by omega) I3
  rw [show 36 - j + j + 4 = 40 from by omega] at e4
  obtain ⟨hs, f1, f2, K, k1, k2, k3, f3⟩ := vt_all j _ (Ty_wr p j) (by omega) v hv
  have f1 := f1 (39 - j) S4
  rw [show 39 - j + j + 1 = 40 from by omega] at f1
  have f2 := f2 (38 - j) S4
  rw [show 38 - j + j + 1 = 39 from by omega] at f2
  have f3 := f3 (38 - j) S4
  rw [show 38 - j + j + 1 = 39 from by omega] at f3
  obtain ⟨dp, hdp, hd⟩ := depth_ok j v hs
  have hd := (hd (38 - j) S4).1
  rw [show 38 - j + j + 1 = 39 from by omega] at hd
  have ist := r_istype 39 S4 p j (by omega)
  have ist : callN T fuel 40 0 [wr j (.str p)] S4 = .ok (.bool true) S4 := by
    rw [ist]
    simp [hp, hj]
  have isv : callN T fuel 40 7 [v] S4 = .ok (.bool true) S4 := by
    rw [call_eq (n := 39) (fn := f7) rfl rfl]
    have h6 : ((dp : Int) ≤ 6) := by omega
    have hnot : cmpD .IsNot (toK K) (.bool false) S4 = .ok (.bool true) S4 := by cases K <;> simp [toK]
    simp [f7, b7, start0, f2, hd, f3, h6, hnot]
  obtain ⟨hn1, r, rfl, _⟩ := hs.head
  have kof : callN T fuel 40 1 [.tuple (.str hn1 :: r)] S4 = .ok (.str hn1) S4 := by
    rw [call_eq (n := 39) (fn := K10.f1) rfl rfl]
    simp [K10.f1, b1, start0]
  -- the rows
  have lr : (rngL 0 3).length = 3 := by simp [rngL]
  obtain ⟨rows, S5, e5, l5, p5, I5⟩ := lcL_inv (d := .none) (all := rngL 0 3) (step := turnE (evT (callN T fuel 40) []) (evE (callN T fuel 40) (.call 14 [.var 1, .con (.int 3)])) [some (.list (ns.map PyData.int)), some (loc s), some (wr j (.str p)), p3, some (.tuple (.str hn1 :: r)), none, none, p7, p8, p9, none, none, none, none, none] 3) (fun _ => stays_non)
    (fun xs S' => In s c S') (Sh 12) (rngL 0 3) S4 I4 (fun x xs S' Iq => by
      obtain ⟨y, S6, e6, v6, I6, n6⟩ := r_shape 31 s c 3 S' (by omega) Iq
      refine ⟨y, S6, ?_, v6, I6⟩
      simp at e6
      simp [turnE, e6])
  rw [lr] at l5
  obtain ⟨σ6, e6⟩ := rowsB S5 (.list (ns.map PyData.int)) (loc s) (wr j (.str p)) (.tuple (.str hn1 :: r)) rows p3 p7 p8 p9 p5
  refine ⟨S5, ?_⟩
  have t0 : evS fuel (callN T fuel 40) u0 (start0 15 [.list (ns.map PyData.int)]) [] = .nx [some (.list (ns.map PyData.int)), some (loc s), none, none, none, none, none, none, none, none, none, none, none, none, none] S1 := by simp [u0, start0, e1]
  have t1 : evS fuel (callN T fuel 40) u1 [some (.list (ns.map PyData.int)), some (loc s), none, none, none, none, none, none, none, none, none, none, none, none, none] S1 = .nx [some (.list (ns.map PyData.int)), some (loc s), some (wr j (.str p)), none, none, none, none, none, none, none, none, none, none, none, none] S2 := by
    simp at e2
    simp [u1, e2]
  have t3 : evS fuel (callN T fuel 40) u3 [some (.list (ns.map PyData.int)), some (loc s), some (wr j (.str p)), p3, none, none, none, p7, p8, p9, none, none, none, none, none] S3 = .nx [some (.list (ns.map PyData.int)), some (loc s), some (wr j (.str p)), p3, some (.tuple (.str hn1 :: r)), none, none, p7, p8, p9, none, none, none, none, none] S4 := by simp [u3, e4]
  have t4 : evS fuel (callN T fuel 40) u4 [some (.list (ns.map PyData.int)), some (loc s), some (wr j (.str p)), p3, some (.tuple (.str hn1 :: r)), none, none, p7, p8, p9, none, none, none, none, none] S4 = .nx [some (.list (ns.map PyData.int)), some (loc s), some (wr j (.str p)), p3, some (.tuple (.str hn1 :: r)), none, none, p7, p8, p9, none, none, none, none, none] S4 := by simp [u4, ist, f1, isv, kof]
  have t5 : evS fuel (callN T fuel 40) u5 [some (.list (ns.map PyData.int)), some (loc s), some (wr j (.str p)), p3, some (.tuple (.str hn1 :: r)), none, none, p7, p8, p9, none, none, none, none, none] S4 = .nx [some (.list (ns.map PyData.int)), some (loc s), some (wr j (.str p)), p3, some (.tuple (.str hn1 :: r)), some (.list rows), none, p7, p8, p9, none, none, none, none, none] S5 := by
    have hr := rng_ok 3 S4 (by decide)
    simp at hr
    simp [u5, hr, e5, mk_l (size_small (by omega : rows.length ≤ 1000))]
  rw [call_eq (fn := f21) rfl rfl]
  show Cr.fin false [] (evB fuel (callN T fuel 40) b21 (start0 15 [.list (ns.map PyData.int)]) []) = _
  rw [b21_eq, y_cons, t0, seq_nx, y_cons, t1, seq_nx, y_cons, e3, seq_nx, y_cons, t3, seq_nx, y_cons, t4, seq_nx, y_cons, t5, seq_nx, y_cons, e6, seq_nx]
  simp [u7]
end K10
set_option Elab.async false
set_option linter.all false
set_option maxRecDepth 100000
namespace K10
open PySem L2 Cr PyProof.Rows
theorem all_mk {K : PySem.W.Frag} {h : Heap} {mg : Str → Option Value} (X : K.In h) (G : h.Ns mainGlobals mg) {q0 q1 q2 q3 q4 q5 q6 q7 q8 q9 q10 q11 q12 q13 q14 q15 q16 q17 q18 q19 q20 q21 : Addr}
    {od0 an0 od1 an1 od2 an2 od3 an3 od4 an4 od5 an5 od6 an6 od7 an7 od8 an8 od9 an9 od10 an10 od11 an11 od12 an12 od13 an13 od14 an14 od15 an15 od16 an16 od17 an17 od18 an18 od19 an19 od20 an20 od21 an21 : Option Addr} {sl0 sl1 sl2 sl3 sl4 sl5 sl6 sl7 sl8 sl9 sl10 sl11 sl12 sl13 sl14 sl15 sl16 sl17 sl18 sl19 sl20 sl21 : Array (Option Value)} {oc0 kV0 dc0 pm0 cd0 ct0 oc1 kV1 dc1 pm1 cd1 ct1 oc2 kV2 dc2 pm2 cd2 ct2 oc3 kV3 dc3 pm3 cd3 ct3 oc4 kV4 dc4 pm4 cd4 ct4 oc5 kV5 dc5 pm5 cd5 ct5 oc6 kV6 dc6 pm6 cd6 ct6 oc7 kV7 dc7 pm7 cd7 ct7 oc8 kV8 dc8 pm8 cd8 ct8 oc9 kV9 dc9 pm9 cd9 ct9 oc10 kV10 dc10 pm10 cd10 ct10 oc11 kV11 dc11 pm11 cd11 ct11 oc12 kV12 dc12 pm12 cd12 ct12 oc13 kV13 dc13 pm13 cd13 ct13 oc14 kV14 dc14 pm14 cd14 ct14 oc15 kV15 dc15 pm15 cd15 ct15 oc16 kV16 dc16 pm16 cd16 ct16 oc17 kV17 dc17 pm17 cd17 ct17 oc18 kV18 dc18 pm18 cd18 ct18 oc19 kV19 dc19 pm19 cd19 ct19 oc20 kV20 dc20 pm20 cd20 ct20 oc21 kV21 dc21 pm21 cd21 ct21 : Value}
    (a0 : PySem.W.nsIn K mainGlobals "is_type" = some (some (.ref q0))) (l0 : K.lookup q0 = some ⟨oc0, od0, .func (PySem.W.fnOf "is_type" "is_type" (defArgs (top 6)) (defBody (top 6)) (defScope (top 6)) .none kV0 dc0 pm0 an0 cd0 ct0), sl0⟩) (c0 : PySem.W.codeIn K cd0 "is_type" = true) (e0 : PySem.W.keepIn K (.ref q0) = true)
    (a1 : PySem.W.nsIn K mainGlobals "kind_of" = some (some (.ref q1))) (l1 : K.lookup q1 = some ⟨oc1, od1, .func (PySem.W.fnOf "kind_of" "kind_of" (defArgs (top 7)) (defBody (top 7)) (defScope (top 7)) .none kV1 dc1 pm1 an1 cd1 ct1), sl1⟩) (c1 : PySem.W.codeIn K cd1 "kind_of" = true) (e1 : PySem.W.keepIn K (.ref q1) = true)
    (a2 : PySem.W.nsIn K mainGlobals "fits" = some (some (.ref q2))) (l2 : K.lookup q2 = some ⟨oc2, od2, .func (PySem.W.fnOf "fits" "fits" (defArgs (top 8)) (defBody (top 8)) (defScope (top 8)) .none kV2 dc2 pm2 an2 cd2 ct2), sl2⟩) (c2 : PySem.W.codeIn K cd2 "fits" = true) (e2 : PySem.W.keepIn K (.ref q2) = true)
    (a3 : PySem.W.nsIn K mainGlobals "joined" = some (some (.ref q3))) (l3 : K.lookup q3 = some ⟨oc3, od3, .func (PySem.W.fnOf "joined" "joined" (defArgs (top 9)) (defBody (top 9)) (defScope (top 9)) .none kV3 dc3 pm3 an3 cd3 ct3), sl3⟩) (c3 : PySem.W.codeIn K cd3 "joined" = true) (e3 : PySem.W.keepIn K (.ref q3) = true)
    (a4 : PySem.W.nsIn K mainGlobals "known_type" = some (some (.ref q4))) (l4 : K.lookup q4 = some ⟨oc4, od4, .func (PySem.W.fnOf "known_type" "known_type" (defArgs (top 10)) (defBody (top 10)) (defScope (top 10)) .none kV4 dc4 pm4 an4 cd4 ct4), sl4⟩) (c4 : PySem.W.codeIn K cd4 "known_type" = true) (e4 : PySem.W.keepIn K (.ref q4) = true)
    (a5 : PySem.W.nsIn K mainGlobals "depth_of" = some (some (.ref q5))) (l5 : K.lookup q5 = some ⟨oc5, od5, .func (PySem.W.fnOf "depth_of" "depth_of" (defArgs (top 11)) (defBody (top 11)) (defScope (top 11)) .none kV5 dc5 pm5 an5 cd5 ct5), sl5⟩) (c5 : PySem.W.codeIn K cd5 "depth_of" = true) (e5 : PySem.W.keepIn K (.ref q5) = true)
    (a6 : PySem.W.nsIn K mainGlobals "within" = some (some (.ref q6))) (l6 : K.lookup q6 = some ⟨oc6, od6, .func (PySem.W.fnOf "within" "within" (defArgs (top 12)) (defBody (top 12)) (defScope (top 12)) .none kV6 dc6 pm6 an6 cd6 ct6), sl6⟩) (c6 : PySem.W.codeIn K cd6 "within" = true) (e6 : PySem.W.keepIn K (.ref q6) = true)
    (a7 : PySem.W.nsIn K mainGlobals "is_value" = some (some (.ref q7))) (l7 : K.lookup q7 = some ⟨oc7, od7, .func (PySem.W.fnOf "is_value" "is_value" (defArgs (top 13)) (defBody (top 13)) (defScope (top 13)) .none kV7 dc7 pm7 an7 cd7 ct7), sl7⟩) (c7 : PySem.W.codeIn K cd7 "is_value" = true) (e7 : PySem.W.keepIn K (.ref q7) = true)
    (a8 : PySem.W.nsIn K mainGlobals "_law_state" = some (some (.ref q8))) (l8 : K.lookup q8 = some ⟨oc8, od8, .func (PySem.W.fnOf "_law_state" "_law_state" (defArgs (top 15)) (defBody (top 15)) (defScope (top 15)) .none kV8 dc8 pm8 an8 cd8 ct8), sl8⟩) (c8 : PySem.W.codeIn K cd8 "_law_state" = true) (e8 : PySem.W.keepIn K (.ref q8) = true)
    (a9 : PySem.W.nsIn K mainGlobals "_law_draw" = some (some (.ref q9))) (l9 : K.lookup q9 = some ⟨oc9, od9, .func (PySem.W.fnOf "_law_draw" "_law_draw" (defArgs (top 16)) (defBody (top 16)) (defScope (top 16)) .none kV9 dc9 pm9 an9 cd9 ct9), sl9⟩) (c9 : PySem.W.codeIn K cd9 "_law_draw" = true) (e9 : PySem.W.keepIn K (.ref q9) = true)
    (a10 : PySem.W.nsIn K mainGlobals "_law_pick" = some (some (.ref q10))) (l10 : K.lookup q10 = some ⟨oc10, od10, .func (PySem.W.fnOf "_law_pick" "_law_pick" (defArgs (top 17)) (defBody (top 17)) (defScope (top 17)) .none kV10 dc10 pm10 an10 cd10 ct10), sl10⟩) (c10 : PySem.W.codeIn K cd10 "_law_pick" = true) (e10 : PySem.W.keepIn K (.ref q10) = true)
    (a11 : PySem.W.nsIn K mainGlobals "_law_type" = some (some (.ref q11))) (l11 : K.lookup q11 = some ⟨oc11, od11, .func (PySem.W.fnOf "_law_type" "_law_type" (defArgs (top 18)) (defBody (top 18)) (defScope (top 18)) .none kV11 dc11 pm11 an11 cd11 ct11), sl11⟩) (c11 : PySem.W.codeIn K cd11 "_law_type" = true) (e11 : PySem.W.keepIn K (.ref q11) = true)
    (a12 : PySem.W.nsIn K mainGlobals "_law_value" = some (some (.ref q12))) (l12 : K.lookup q12 = some ⟨oc12, od12, .func (PySem.W.fnOf "_law_value" "_law_value" (defArgs (top 19)) (defBody (top 19)) (defScope (top 19)) .none kV12 dc12 pm12 an12 cd12 ct12), sl12⟩) (c12 : PySem.W.codeIn K cd12 "_law_value" = true) (e12 : PySem.W.keepIn K (.ref q12) = true)
    (a13 : PySem.W.nsIn K mainGlobals "_law_deep_list" = some (some (.ref q13))) (l13 : K.lookup q13 = some ⟨oc13, od13, .func (PySem.W.fnOf "_law_deep_list" "_law_deep_list" (defArgs (top 20)) (defBody (top 20)) (defScope (top 20)) .none kV13 dc13 pm13 an13 cd13 ct13), sl13⟩) (c13 : PySem.W.codeIn K cd13 "_law_deep_list" = true) (e13 : PySem.W.keepIn K (.ref q13) = true)
    (a14 : PySem.W.nsIn K mainGlobals "_law_shape" = some (some (.ref q14))) (l14 : K.lookup q14 = some ⟨oc14, od14, .func (PySem.W.fnOf "_law_shape" "_law_shape" (defArgs (top 21)) (defBody (top 21)) (defScope (top 21)) .none kV14 dc14 pm14 an14 cd14 ct14), sl14⟩) (c14 : PySem.W.codeIn K cd14 "_law_shape" = true) (e14 : PySem.W.keepIn K (.ref q14) = true)
    (a15 : PySem.W.nsIn K mainGlobals "_law_within" = some (some (.ref q15))) (l15 : K.lookup q15 = some ⟨oc15, od15, .func (PySem.W.fnOf "_law_within" "_law_within" (defArgs (top 22)) (defBody (top 22)) (defScope (top 22)) .none kV15 dc15 pm15 an15 cd15 ct15), sl15⟩) (c15 : PySem.W.codeIn K cd15 "_law_within" = true) (e15 : PySem.W.keepIn K (.ref q15) = true)
    (a16 : PySem.W.nsIn K mainGlobals "_law_depth" = some (some (.ref q16))) (l16 : K.lookup q16 = some ⟨oc16, od16, .func (PySem.W.fnOf "_law_depth" "_law_depth" (defArgs (top 23)) (defBody (top 23)) (defScope (top 23)) .none kV16 dc16 pm16 an16 cd16 ct16), sl16⟩) (c16 : PySem.W.codeIn K cd16 "_law_depth" = true) (e16 : PySem.W.keepIn K (.ref q16) = true)
    (a17 : PySem.W.nsIn K mainGlobals "_law_fits" = some (some (.ref q17))) (l17 : K.lookup q17 = some ⟨oc17, od17, .func (PySem.W.fnOf "_law_fits" "_law_fits" (defArgs (top 24)) (defBody (top 24)) (defScope (top 24)) .none kV17 dc17 pm17 an17 cd17 ct17), sl17⟩) (c17 : PySem.W.codeIn K cd17 "_law_fits" = true) (e17 : PySem.W.keepIn K (.ref q17) = true)
    (a18 : PySem.W.nsIn K mainGlobals "_law_known" = some (some (.ref q18))) (l18 : K.lookup q18 = some ⟨oc18, od18, .func (PySem.W.fnOf "_law_known" "_law_known" (defArgs (top 25)) (defBody (top 25)) (defScope (top 25)) .none kV18 dc18 pm18 an18 cd18 ct18), sl18⟩) (c18 : PySem.W.codeIn K cd18 "_law_known" = true) (e18 : PySem.W.keepIn K (.ref q18) = true)
    (a19 : PySem.W.nsIn K mainGlobals "_law_both" = some (some (.ref q19))) (l19 : K.lookup q19 = some ⟨oc19, od19, .func (PySem.W.fnOf "_law_both" "_law_both" (defArgs (top 26)) (defBody (top 26)) (defScope (top 26)) .none kV19 dc19 pm19 an19 cd19 ct19), sl19⟩) (c19 : PySem.W.codeIn K cd19 "_law_both" = true) (e19 : PySem.W.keepIn K (.ref q19) = true)
    (a20 : PySem.W.nsIn K mainGlobals "_law_kinds" = some (some (.ref q20))) (l20 : K.lookup q20 = some ⟨oc20, od20, .func (PySem.W.fnOf "_law_kinds" "_law_kinds" (defArgs (top 27)) (defBody (top 27)) (defScope (top 27)) .none kV20 dc20 pm20 an20 cd20 ct20), sl20⟩) (c20 : PySem.W.codeIn K cd20 "_law_kinds" = true) (e20 : PySem.W.keepIn K (.ref q20) = true)
    (a21 : PySem.W.nsIn K mainGlobals "law" = some (some (.ref q21))) (l21 : K.lookup q21 = some ⟨oc21, od21, .func (PySem.W.fnOf "law" "law" (defArgs (top 28)) (defBody (top 28)) (defScope (top 28)) .none kV21 dc21 pm21 an21 cd21 ct21), sl21⟩) (c21 : PySem.W.codeIn K cd21 "law" = true) (e21 : PySem.W.keepIn K (.ref q21) = true)
    {t0 : Tok} (gg0 : PySem.W.nsIn K mainGlobals "MOST_NUMBER" = some (some (.int 1000000000000 t0))) 
    {t1 : Tok} (gg1 : PySem.W.nsIn K mainGlobals "MOST_TEXT" = some (some (.int 60 t1))) 
    {t2 : Tok} (gg2 : PySem.W.nsIn K mainGlobals "MOST_ITEMS" = some (some (.int 20 t2))) 
    {t3 : Tok} (gg3 : PySem.W.nsIn K mainGlobals "MOST_DEPTH" = some (some (.int 6 t3))) 
    {r4 : Addr} {o4 : Option Addr} {z4 : Array (Option Value)} {n4 : Nat} {t5 : Tok} {t6 : Tok} {t7 : Tok} {t8 : Tok} (gg4 : PySem.W.nsIn K mainGlobals "PLAIN" = some (some (.ref r4))) (d4 : K.lookup r4 = some ⟨.type "tuple", o4, .seq #[.str "int" t5, .str "bool" t6, .str "text" t7, .str "nothing" t8] n4, z4⟩)
    (z0 : PySem.W.nsIn K mainGlobals "abs" = some none)
    (z1 : PySem.W.nsIn K mainGlobals "int" = some none)
    (z2 : PySem.W.nsIn K mainGlobals "str" = some none)
    (z3 : PySem.W.nsIn K mainGlobals "len" = some none)
    (z4 : PySem.W.nsIn K mainGlobals "tuple" = some none)
    (z5 : PySem.W.nsIn K mainGlobals "list" = some none)
    (z6 : PySem.W.nsIn K mainGlobals "repr" = some none)
    (z7 : PySem.W.nsIn K mainGlobals "max" = some none)
    (z8 : PySem.W.nsIn K mainGlobals "min" = some none)
    (z9 : PySem.W.nsIn K mainGlobals "all" = some none)
    (z10 : PySem.W.nsIn K mainGlobals "any" = some none)
    (z11 : PySem.W.nsIn K mainGlobals "sorted" = some none)
    (z12 : PySem.W.nsIn K mainGlobals "range" = some none)
    (z13 : PySem.W.nsIn K mainGlobals "isinstance" = some none)
    (z14 : PySem.W.nsIn K mainGlobals "bool" = some none)
    : Prg K mg T fns gls := by
  have D0 : DatOk K mg "MOST_NUMBER" (.int 1000000000000) := ⟨(.int 1000000000000 : V), _, PySem.W.mg_of X G gg0, ⟨_, rfl⟩, fun ρ H => rfl⟩
  have D1 : DatOk K mg "MOST_TEXT" (.int 60) := ⟨(.int 60 : V), _, PySem.W.mg_of X G gg1, ⟨_, rfl⟩, fun ρ H => rfl⟩
  have D2 : DatOk K mg "MOST_ITEMS" (.int 20) := ⟨(.int 20 : V), _, PySem.W.mg_of X G gg2, ⟨_, rfl⟩, fun ρ H => rfl⟩
  have D3 : DatOk K mg "MOST_DEPTH" (.int 6) := ⟨(.int 6 : V), _, PySem.W.mg_of X G gg3, ⟨_, rfl⟩, fun ρ H => rfl⟩
  have D4 : DatOk K mg "PLAIN" (.tuple [(.str "int"), (.str "bool"), (.str "text"), (.str "nothing")]) := ⟨(.ref r4 : V), _, PySem.W.mg_of X G gg4, rfl, fun ρ H => ⟨r4, [(.str "int" : V), (.str "bool" : V), (.str "text" : V), (.str "nothing" : V)], rfl, .inr ⟨_, _, _, d4, rfl, rfl, (show 4 ≤ sizeLine by decide), (.cons ⟨_, rfl⟩ (.cons ⟨_, rfl⟩ (.cons ⟨_, rfl⟩ (.cons ⟨_, rfl⟩ .nil))))⟩, ⟨_, _, rfl, rfl, ⟨_, _, rfl, rfl, ⟨_, _, rfl, rfl, ⟨_, _, rfl, rfl, rfl⟩⟩⟩⟩⟩⟩
  have F0 := fun_mk (st := top 6) l0 c0 e0
  have M0 : DefOk K mg cx0 f0 "is_type" := ⟨q0, top 6, _, ["kind"], F0, C8.fnScope_by s0, rfl, k0, rfl, rfl, PySem.W.mg_of X G a0, F0.binds (ps := ["kind"]) fun _ _ _ _ _ _ us hl => match us, hl with | [_], _ => rfl⟩
  have F1 := fun_mk (st := top 7) l1 c1 e1
  have M1 : DefOk K mg cx1 f1 "kind_of" := ⟨q1, top 7, _, ["value"], F1, C8.fnScope_by s1, rfl, k1, rfl, rfl, PySem.W.mg_of X G a1, F1.binds (ps := ["value"]) fun _ _ _ _ _ _ us hl => match us, hl with | [_], _ => rfl⟩
  have F2 := fun_mk (st := top 8) l2 c2 e2
  have M2 : DefOk K mg cx2 f2 "fits" := ⟨q2, top 8, _, ["value", "kind"], F2, C8.fnScope_by s2, rfl, k2, rfl, rfl, PySem.W.mg_of X G a2, F2.binds (ps := ["value", "kind"]) fun _ _ _ _ _ _ us hl => match us, hl with | [_, _], _ => rfl⟩
  have F3 := fun_mk (st := top 9) l3 c3 e3
  have M3 : DefOk K mg cx3 f3 "joined" := ⟨q3, top 9, _, ["one", "other"], F3, C8.fnScope_by s3, rfl, k3, rfl, rfl, PySem.W.mg_of X G a3, F3.binds (ps := ["one", "other"]) fun _ _ _ _ _ _ us hl => match us, hl with | [_, _], _ => rfl⟩
  have F4 := fun_mk (st := top 10) l4 c4 e4
  have M4 : DefOk K mg cx4 f4 "known_type" := ⟨q4, top 10, _, ["value"], F4, C8.fnScope_by s4, rfl, k4, rfl, rfl, PySem.W.mg_of X G a4, F4.binds (ps := ["value"]) fun _ _ _ _ _ _ us hl => match us, hl with | [_], _ => rfl⟩
  have F5 := fun_mk (st := top 11) l5 c5 e5
  have M5 : DefOk K mg cx5 f5 "depth_of" := ⟨q5, top 11, _, ["value"], F5, C8.fnScope_by s5, rfl, k5, rfl, rfl, PySem.W.mg_of X G a5, F5.binds (ps := ["value"]) fun _ _ _ _ _ _ us hl => match us, hl with | [_], _ => rfl⟩
  have F6 := fun_mk (st := top 12) l6 c6 e6
  have M6 : DefOk K mg cx6 f6 "within" := ⟨q6, top 12, _, ["value"], F6, C8.fnScope_by s6, rfl, k6, rfl, rfl, PySem.W.mg_of X G a6, F6.binds (ps := ["value"]) fun _ _ _ _ _ _ us hl => match us, hl with | [_], _ => rfl⟩
  have F7 := fun_mk (st := top 13) l7 c7 e7
  have M7 : DefOk K mg cx7 f7 "is_value" := ⟨q7, top 13, _, ["value"], F7, C8.fnScope_by s7, rfl, k7, rfl, rfl, PySem.W.mg_of X G a7, F7.binds (ps := ["value"]) fun _ _ _ _ _ _ us hl => match us, hl with | [_], _ => rfl⟩
  have F8 := fun_mk (st := top 15) l8 c8 e8
  have M8 : DefOk K mg cx8 f8 "_law_state" := ⟨q8, top 15, _, ["_law_script"], F8, C8.fnScope_by s8, rfl, k8, rfl, rfl, PySem.W.mg_of X G a8, F8.binds (ps := ["_law_script"]) fun _ _ _ _ _ _ us hl => match us, hl with | [_], _ => rfl⟩
  have F9 := fun_mk (st := top 16) l9 c9 e9
  have M9 : DefOk K mg cx9 f9 "_law_draw" := ⟨q9, top 16, _, ["_law_state_here", "_law_many"], F9, C8.fnScope_by s9, rfl, k9, rfl, rfl, PySem.W.mg_of X G a9, F9.binds (ps := ["_law_state_here", "_law_many"]) fun _ _ _ _ _ _ us hl => match us, hl with | [_, _], _ => rfl⟩
  have F10 := fun_mk (st := top 17) l10 c10 e10
  have M10 : DefOk K mg cx10 f10 "_law_pick" := ⟨q10, top 17, _, ["_law_state_here", "_law_row"], F10, C8.fnScope_by s10, rfl, k10, rfl, rfl, PySem.W.mg_of X G a10, F10.binds (ps := ["_law_state_here", "_law_row"]) fun _ _ _ _ _ _ us hl => match us, hl with | [_, _], _ => rfl⟩
  have F11 := fun_mk (st := top 18) l11 c11 e11
  have M11 : DefOk K mg cx11 f11 "_law_type" := ⟨q11, top 18, _, ["_law_state_here", "_law_deep"], F11, C8.fnScope_by s11, rfl, k11, rfl, rfl, PySem.W.mg_of X G a11, F11.binds (ps := ["_law_state_here", "_law_deep"]) fun _ _ _ _ _ _ us hl => match us, hl with | [_, _], _ => rfl⟩
  have F12 := fun_mk (st := top 19) l12 c12 e12
  have M12 : DefOk K mg cx12 f12 "_law_value" := ⟨q12, top 19, _, ["_law_state_here", "_law_kind"], F12, C8.fnScope_by s12, rfl, k12, rfl, rfl, PySem.W.mg_of X G a12, F12.binds (ps := ["_law_state_here", "_law_kind"]) fun _ _ _ _ _ _ us hl => match us, hl with | [_, _], _ => rfl⟩
  have F13 := fun_mk (st := top 20) l13 c13 e13
  have M13 : DefOk K mg cx13 f13 "_law_deep_list" := ⟨q13, top 20, _, ["_law_value_here", "_law_count"], F13, C8.fnScope_by s13, rfl, k13, rfl, rfl, PySem.W.mg_of X G a13, F13.binds (ps := ["_law_value_here", "_law_count"]) fun _ _ _ _ _ _ us hl => match us, hl with | [_, _], _ => rfl⟩
  have F14 := fun_mk (st := top 21) l14 c14 e14
  have M14 : DefOk K mg cx14 f14 "_law_shape" := ⟨q14, top 21, _, ["_law_state_here", "_law_deep"], F14, C8.fnScope_by s14, rfl, k14, rfl, rfl, PySem.W.mg_of X G a14, F14.binds (ps := ["_law_state_here", "_law_deep"]) fun _ _ _ _ _ _ us hl => match us, hl with | [_, _], _ => rfl⟩
  have F15 := fun_mk (st := top 22) l15 c15 e15
  have M15 : DefOk K mg cx15 f15 "_law_within" := ⟨q15, top 22, _, ["_law_value_here"], F15, C8.fnScope_by s15, rfl, k15, rfl, rfl, PySem.W.mg_of X G a15, F15.binds (ps := ["_law_value_here"]) fun _ _ _ _ _ _ us hl => match us, hl with | [_], _ => rfl⟩
  have F16 := fun_mk (st := top 23) l16 c16 e16
  have M16 : DefOk K mg cx16 f16 "_law_depth" := ⟨q16, top 23, _, ["_law_value_here"], F16, C8.fnScope_by s16, rfl, k16, rfl, rfl, PySem.W.mg_of X G a16, F16.binds (ps := ["_law_value_here"]) fun _ _ _ _ _ _ us hl => match us, hl with | [_], _ => rfl⟩
  have F17 := fun_mk (st := top 24) l17 c17 e17
  have M17 : DefOk K mg cx17 f17 "_law_fits" := ⟨q17, top 24, _, ["_law_value_here", "_law_kind"], F17, C8.fnScope_by s17, rfl, k17, rfl, rfl, PySem.W.mg_of X G a17, F17.binds (ps := ["_law_value_here", "_law_kind"]) fun _ _ _ _ _ _ us hl => match us, hl with | [_, _], _ => rfl⟩
  have F18 := fun_mk (st := top 25) l18 c18 e18
  have M18 : DefOk K mg cx18 f18 "_law_known" := ⟨q18, top 25, _, ["_law_value_here"], F18, C8.fnScope_by s18, rfl, k18, rfl, rfl, PySem.W.mg_of X G a18, F18.binds (ps := ["_law_value_here"]) fun _ _ _ _ _ _ us hl => match us, hl with | [_], _ => rfl⟩
  have F19 := fun_mk (st := top 26) l19 c19 e19
  have M19 : DefOk K mg cx19 f19 "_law_both" := ⟨q19, top 26, _, ["_law_one", "_law_other"], F19, C8.fnScope_by s19, rfl, k19, rfl, rfl, PySem.W.mg_of X G a19, F19.binds (ps := ["_law_one", "_law_other"]) fun _ _ _ _ _ _ us hl => match us, hl with | [_, _], _ => rfl⟩
  have F20 := fun_mk (st := top 27) l20 c20 e20
  have M20 : DefOk K mg cx20 f20 "_law_kinds" := ⟨q20, top 27, _, ["_law_deep"], F20, C8.fnScope_by s20, rfl, k20, rfl, rfl, PySem.W.mg_of X G a20, F20.binds (ps := ["_law_deep"]) fun _ _ _ _ _ _ us hl => match us, hl with | [_], _ => rfl⟩
  have F21 := fun_mk (st := top 28) l21 c21 e21
  have M21 : DefOk K mg cx21 f21 "law" := ⟨q21, top 28, _, ["_law_script"], F21, C8.fnScope_by s21, rfl, k21, rfl, rfl, PySem.W.mg_of X G a21, F21.binds (ps := ["_law_script"]) fun _ _ _ _ _ _ us hl => match us, hl with | [_], _ => rfl⟩
  refine ⟨fun f x np e hx => ?_, fun x p e => ?_, fun x hx => ?_⟩
  · match f, e with
    | 0, e => cases e; exact ⟨f0, cx0, rfl, rfl, rfl, rfl, M0⟩
    | 1, e => cases e; exact ⟨f1, cx1, rfl, rfl, rfl, rfl, M1⟩
    | 2, e => cases e; exact ⟨f2, cx2, rfl, rfl, rfl, rfl, M2⟩
    | 3, e => cases e; exact ⟨f3, cx3, rfl, rfl, rfl, rfl, M3⟩
    | 4, e => cases e; exact ⟨f4, cx4, rfl, rfl, rfl, rfl, M4⟩
    | 5, e => cases e; exact ⟨f5, cx5, rfl, rfl, rfl, rfl, M5⟩
    | 6, e => cases e; exact ⟨f6, cx6, rfl, rfl, rfl, rfl, M6⟩
    | 7, e => cases e; exact ⟨f7, cx7, rfl, rfl, rfl, rfl, M7⟩
    | 8, e => cases e; exact ⟨f8, cx8, rfl, rfl, rfl, rfl, M8⟩
    | 9, e => cases e; exact ⟨f9, cx9, rfl, rfl, rfl, rfl, M9⟩
    | 10, e => cases e; exact ⟨f10, cx10, rfl, rfl, rfl, rfl, M10⟩
    | 11, e => cases e; exact ⟨f11, cx11, rfl, rfl, rfl, rfl, M11⟩
    | 12, e => cases e; exact ⟨f12, cx12, rfl, rfl, rfl, rfl, M12⟩
    | 13, e => cases e; exact ⟨f13, cx13, rfl, rfl, rfl, rfl, M13⟩
    | 14, e => cases e; exact ⟨f14, cx14, rfl, rfl, rfl, rfl, M14⟩
    | 15, e => cases e; exact ⟨f15, cx15, rfl, rfl, rfl, rfl, M15⟩
    | 16, e => cases e; exact ⟨f16, cx16, rfl, rfl, rfl, rfl, M16⟩
    | 17, e => cases e; exact ⟨f17, cx17, rfl, rfl, rfl, rfl, M17⟩
    | 18, e => cases e; exact ⟨f18, cx18, rfl, rfl, rfl, rfl, M18⟩
    | 19, e => cases e; exact ⟨f19, cx19, rfl, rfl, rfl, rfl, M19⟩
    | 20, e => cases e; exact ⟨f20, cx20, rfl, rfl, rfl, rfl, M20⟩
    | 21, e => cases e; exact ⟨f21, cx21, rfl, rfl, rfl, rfl, M21⟩
    | n + 22, e => simp [fns] at e
  · have hm : (x, p) ∈ gls := PySem.mem_of_lookup e
    simp only [gls, List.mem_cons, List.not_mem_nil, or_false, Prod.mk.injEq] at hm
    rcases hm with ⟨rfl, rfl⟩ | ⟨rfl, rfl⟩ | ⟨rfl, rfl⟩ | ⟨rfl, rfl⟩ | ⟨rfl, rfl⟩
    · exact D0
    · exact D1
    · exact D2
    · exact D3
    · exact D4
  · simp only [bNames, List.mem_cons, List.not_mem_nil, or_false] at hx
    rcases hx with rfl | rfl | rfl | rfl | rfl | rfl | rfl | rfl | rfl | rfl | rfl | rfl | rfl | rfl | rfl
    · exact PySem.W.mg_none_of X G z0
    · exact PySem.W.mg_none_of X G z1
    · exact PySem.W.mg_none_of X G z2
    · exact PySem.W.mg_none_of X G z3
    · exact PySem.W.mg_none_of X G z4
    · exact PySem.W.mg_none_of X G z5
    · exact PySem.W.mg_none_of X G z6
    · exact PySem.W.mg_none_of X G z7
    · exact PySem.W.mg_none_of X G z8
    · exact PySem.W.mg_none_of X G z9
    · exact PySem.W.mg_none_of X G z10
    · exact PySem.W.mg_none_of X G z11
    · exact PySem.W.mg_none_of X G z12
    · exact PySem.W.mg_none_of X G z13
    · exact PySem.W.mg_none_of X G z14
end K10
open PySem PySem.W PyProof.Rows
set_option maxRecDepth 100000 in
set_option maxHeartbeats 0 in
theorem PySem.Challenge.cw_flowreprise_k10_types_and_values_holds : PySem.Challenge.rw_flowreprise_k10_types_and_values.Holds := by
  w_on; o_law; k_head; (case hw => w_witness2)
  k_fill
  refine Cr.walk_cr (l := PySem.Challenge.rw_flowreprise_k10_types_and_values) (f := 21) (T := K10.T) (fns := K10.fns) (gls := K10.gls) (n := 40) (N := K10.fuel) rfl rfl (by decide) (fun w h Y => PySem.W.kIn_of Y) rfl (by decide) ?F K10.law_true
  case F =>
    intro w mg h KX G
    refine' K10.all_mk KX G ?a0 ?l0 ?c0 ?e0 ?a1 ?l1 ?c1 ?e1 ?a2 ?l2 ?c2 ?e2 ?a3 ?l3 ?c3 ?e3 ?a4 ?l4 ?c4 ?e4 ?a5 ?l5 ?c5 ?e5 ?a6 ?l6 ?c6 ?e6 ?a7 ?l7 ?c7 ?e7 ?a8 ?l8 ?c8 ?e8 ?a9 ?l9 ?c9 ?e9 ?a10 ?l10 ?c10 ?e10 ?a11 ?l11 ?c11 ?e11 ?a12 ?l12 ?c12 ?e12 ?a13 ?l13 ?c13 ?e13 ?a14 ?l14 ?c14 ?e14 ?a15 ?l15 ?c15 ?e15 ?a16 ?l16 ?c16 ?e16 ?a17 ?l17 ?c17 ?e17 ?a18 ?l18 ?c18 ?e18 ?a19 ?l19 ?c19 ?e19 ?a20 ?l20 ?c20 ?e20 ?a21 ?l21 ?c21 ?e21 ?gg0 ?gg1 ?gg2 ?gg3 ?gg4 ?d4 ?z0 ?z1 ?z2 ?z3 ?z4 ?z5 ?z6 ?z7 ?z8 ?z9 ?z10 ?z11 ?z12 ?z13 ?z14
    (case a0 => k_is)
    (case l0 => k_is)
    (case c0 => k_is)
    (case e0 => k_is)
    (case a1 => k_is)
    (case l1 => k_is)
    (case c1 => k_is)
    (case e1 => k_is)
    (case a2 => k_is)
    (case l2 => k_is)
    (case c2 => k_is)
    (case e2 => k_is)
    (case a3 => k_is)
    (case l3 => k_is)
    (case c3 => k_is)
    (case e3 => k_is)
    (case a4 => k_is)
    (case l4 => k_is)
    (case c4 => k_is)
    (case e4 => k_is)
    (case a5 => k_is)
    (case l5 => k_is)
    (case c5 => k_is)
    (case e5 => k_is)
    (case a6 => k_is)
    (case l6 => k_is)
    (case c6 => k_is)
    (case e6 => k_is)
    (case a7 => k_is)
    (case l7 => k_is)
    (case c7 => k_is)
    (case e7 => k_is)
    (case a8 => k_is)
    (case l8 => k_is)
    (case c8 => k_is)
    (case e8 => k_is)
    (case a9 => k_is)
    (case l9 => k_is)
    (case c9 => k_is)
    (case e9 => k_is)
    (case a10 => k_is)
    (case l10 => k_is)
    (case c10 => k_is)
    (case e10 => k_is)
    (case a11 => k_is)
    (case l11 => k_is)
    (case c11 => k_is)
    (case e11 => k_is)
    (case a12 => k_is)
    (case l12 => k_is)
    (case c12 => k_is)
    (case e12 => k_is)
    (case a13 => k_is)
    (case l13 => k_is)
    (case c13 => k_is)
    (case e13 => k_is)
    (case a14 => k_is)
    (case l14 => k_is)
    (case c14 => k_is)
    (case e14 => k_is)
    (case a15 => k_is)
    (case l15 => k_is)
    (case c15 => k_is)
    (case e15 => k_is)
    (case a16 => k_is)
    (case l16 => k_is)
    (case c16 => k_is)
    (case e16 => k_is)
    (case a17 => k_is)
    (case l17 => k_is)
    (case c17 => k_is)
    (case e17 => k_is)
    (case a18 => k_is)
    (case l18 => k_is)
    (case c18 => k_is)
    (case e18 => k_is)
    (case a19 => k_is)
    (case l19 => k_is)
    (case c19 => k_is)
    (case e19 => k_is)
    (case a20 => k_is)
    (case l20 => k_is)
    (case c20 => k_is)
    (case e20 => k_is)
    (case a21 => k_is)
    (case l21 => k_is)
    (case c21 => k_is)
    (case e21 => k_is)
    (case gg0 => k_is)
    (case gg1 => k_is)
    (case gg2 => k_is)
    (case gg3 => k_is)
    (case gg4 => k_is)
    (case d4 => k_is)
    (case z0 => k_is)
    (case z1 => k_is)
    (case z2 => k_is)
    (case z3 => k_is)
    (case z4 => k_is)
    (case z5 => k_is)
    (case z6 => k_is)
    (case z7 => k_is)
    (case z8 => k_is)
    (case z9 => k_is)
    (case z10 => k_is)
    (case z11 => k_is)
    (case z12 => k_is)
    (case z13 => k_is)
    (case z14 => k_is)
#print axioms PySem.Challenge.cw_flowreprise_k10_types_and_values_holds
