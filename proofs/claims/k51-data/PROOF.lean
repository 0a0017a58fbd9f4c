import PyProof.Rows.All
import Wide.All
import OpenK.AllK
import Wide.FinOn
import PySem.PyData
import PyProof.P3Statements
import PyProof.Lay0
import PyProof.EqLayable
import PyProof.ReprReads
import KE.LtData
import HandS.Base
import HandS.List
import HandS.Wide
import HandS.IsInst
import HandS.Text
import HandS.Dict
import HandS.Exc
import KE.DataCmp
import PyProof.P3In
import PyProof.StrOps2
import PyProof.Rows.InDataRows
import HandS.TupAny
import HandS.TupMul
import HandS.Style
import HandS.RaiseMore
import PyProof.CallFns
import HandS.WordsDict
import PyProof.ReprRoads
import HandS.Ends
import HandS.Codes
import HandS.Comp
import HandS.Iter
import HandS.DictComp
import HandS.ExcInit
import HandS.ExcField
import HandS.ExcIs
import KE.KExcIs
import HandS.SortKw
import KE.DataMinMax
import HandS.TryElse
import HandS.NoneIn
import HandS.Words
import HandS.EndBits
import PyProof.StrLawsIn
import KE.IntTextLaws
import PyProof.StrLawsRepr
import PySem.Challenge.RW_flowreprise_k51_written_data
set_option Elab.async false
set_option linter.all false
/-! Cr1: the core language, its values and its evaluator. -/
namespace Cr
open PySem L2

/-- a value: PyData; a mutable object is its location, written as a dict of one pair -/
abbrev D := PyData
def loc (n : Nat) : D := .dict [(.int (n : Int), .none)]

/-- what stands at a location -/
inductive Ob where
  | lst (xs : List D)
  | dic (kvs : List (Key × D))
  | ins (c : Nat) (fs : List (Str × D))
abbrev Sto := List Ob
abbrev Fr := List (Option D)

inductive Out (α : Type) where
  | ok (a : α) (S : Sto)
  | ex (c : Nat) (fs : List (Str × D)) (S : Sto)
  | bad

def Out.bind {α β : Type} (o : Out α) (f : α → Sto → Out β) : Out β :=
  match o with
  | .ok a S => f a S
  | .ex c fs S => .ex c fs S
  | .bad => .bad
@[simp] theorem bind_ok {α β : Type} (a : α) (S : Sto) (f : α → Sto → Out β) : (Out.ok a S).bind f = f a S := id rfl
@[simp] theorem bind_ex {α β : Type} (c : Nat) (fs : List (Str × D)) (S : Sto) (f : α → Sto → Out β) : (Out.ex c fs S : Out α).bind f = .ex c fs S := id rfl
@[simp] theorem bind_bad {α β : Type} (f : α → Sto → Out β) : (Out.bad : Out α).bind f = .bad := id rfl

/-- nothing is raised -/
def Out.nox {α : Type} (o : Out α) : Out α :=
  match o with
  | .ok a S => .ok a S
  | _ => .bad
@[simp] theorem nox_ok {α : Type} (a : α) (S : Sto) : (Out.ok a S).nox = .ok a S := id rfl
@[simp] theorem nox_bad {α : Type} : (Out.bad : Out α).nox = .bad := id rfl
/-- built-in functions and types that are called -/
inductive Bi where
  | abs | int | str | len | tuple | list | repr | max | maxd | min | all | any | sorted | dict | set | ord
  deriving DecidableEq
/-- methods of built-in types -/
inductive Mt where
  | append | pop0 | popAt | join | replace | startswith | split | extend | insert | index | get1 | get2
  deriving DecidableEq

/-- expressions -/
inductive CE where
  | var (i : Nat)
  | con (p : D)
  | glb (g : Nat)
  | bop (op : Operator) (a b : CE)
  | cmp (op : CmpOp) (a b : CE)
  | chn (o1 o2 : CmpOp) (a b c : CE)
  | and (a b : CE)
  | or (a b : CE)
  | not (a : CE)
  | neg (a : CE)
  | ite (c a b : CE)
  | tup (xs : List CE)
  | lst (al : Bool) (xs : List CE)
  | dsp (xs : List CE)
  | lc (al : Bool) (tg : Nat) (it : CE) (ifs : List CE) (elt : CE)
  | lr (al : Bool) (tg : Nat) (rg : List CE) (ifs : List CE) (elt : CE)
  | idx (a b : CE)
  | sli (a : CE) (lo hi : Option CE)
  | call (f : Nat) (xs : List CE)
  | blt (b : Bi) (xs : List CE)
  | mth (m : Mt) (o : CE) (xs : List CE)
  | isi (a : CE) (t : String)
  | mxd (a : CE) (k : Int)
  | fld (cs : List Nat) (a : CE) (f : Str)
  | mcl (nm : Str) (tb : List (Nat × Nat)) (o : CE) (xs : List CE)
  | new (c g : Nat) (xs : List CE)
  | lcg (nx al rg : Bool) (ts : List Nat) (tu : Bool) (its : List CE) (ifs : List CE) (elt : CE)
  | dcg (rg : Bool) (ts : List Nat) (tu : Bool) (its : List CE) (ifs : List CE) (k v : CE)

/-- targets in a tuple: a slot, a field of what a slot holds -/
inductive TL where
  | nm (i : Nat)
  | fl (cs : List Nat) (o : Nat) (f : Str)
/-- targets -/
inductive CT where
  | nm (i : Nat)
  | tup (is : List TL)
  | sub (o i : CE)
  | fld (cs : List Nat) (o : CE) (f : Str)

/-- statements -/
inductive CS where
  | exp (e : CE)
  | asg (t : CT) (e : CE)
  | par (i j : Nat) (a b : CE)
  | aug (i : Nat) (op : Operator) (e : CE)
  | ret (e : CE)
  | ife (c : CE) (a b : List CS)
  | whl (c : CE) (b : List CS)
  | fro (t : CT) (it : CE) (b : List CS)
  | frr (t : CT) (rg : List CE) (b : List CS)
  | fag (cs : List Nat) (o : CE) (f : Str) (op : Operator) (e : CE)
  | rai (c : Nat) (fl : Option (List Str)) (xs : List CE)
  | tri (b : List CS) (h : CS) (els : List CS)
  | hnd (cs ds : List Nat) (sl : Option Nat) (hd : List (Str × Nat)) (b : List CS) (next : CS)
  | brk | cnt | pss

/-- a def: how many slots, how many of them parameters; may new lists be let go at its end; the body -/
structure Fn where
  n : Nat
  p : Nat
  cut : Bool
  body : List CS

/-! ### reading -/
def lv (S : Sto) (d : D) : D := match d with
  | .dict [(.int n, .none)] => match S[n.toNat]? with
    | some (.lst xs) => .list xs
    | _ => d
  | d => d
/-- a list that is tracked -/
def lvT (S : Sto) (d : D) : Option (List D) := match d with
  | .list xs => some xs
  | .dict [(.int n, .none)] => match S[n.toNat]? with
    | some (.lst xs) => some xs
    | _ => none
  | _ => none
/-- the items of a list or tuple -/
def items (S : Sto) (d : D) : Option (List D) := match lv S d with
  | .list xs => some xs
  | .tuple xs => some xs
  | _ => none
def tyN (d : D) : Option String := match d with
  | .none => some "NoneType"
  | .bool _ => some "bool"
  | .int _ => some "int"
  | .str _ => some "str"
  | .list _ => some "list"
  | .tuple _ => some "tuple"
  | .dict _ => none
def isNon : D → Bool
  | .none => true
  | _ => false
/-- data that == and its like read -/
def plain (d : D) : Bool := d.canLay0 && decide (d.depth ≤ 64)

/-! ### operations -/
def repS (k : Int) (x : Str) : Str := ⟨((List.replicate k.toNat x.cps.toList).flatten).toArray⟩
def addD (x y : D) (S : Sto) : Out D := match x, y with
  | .int i, .int j => .ok (.int (i + j)) S
  | .str a, .str b => if a.length + b.length ≤ sizeLine then .ok (.str (a ++ b)) S else .bad
  | .tuple a, .tuple b => if a.length + b.length ≤ sizeLine then .ok (.tuple (a ++ b)) S else .bad
  | x, y => match lvT S x, lvT S y with
    | some a, some b => if a.length + b.length ≤ sizeLine then .ok (.list (a ++ b)) S else .bad
    | _, _ => .bad
def mulD (x y : D) (S : Sto) : Out D := match x, y with
  | .int i, .int j => if i.natAbs.log2 + j.natAbs.log2 < 1000000 then .ok (.int (i * j)) S else .bad
  | .str a, .int k => if 0 ≤ k ∧ k ≤ 1000 ∧ a.length ≤ 1000 then .ok (.str (repS k a)) S else .bad
  | .tuple a, .int k => if a ≠ [] ∧ 2 ≤ k ∧ k ≤ 1000 ∧ a.length ≤ 1000 then .ok (.tuple (List.replicate k.toNat a).flatten) S else .bad
  | x, .int k => match lvT S x with
    | some a => if -(2 ^ 63) ≤ k ∧ k < 2 ^ 63 ∧ a.length * k.toNat ≤ sizeLine then .ok (.list (List.replicate k.toNat a).flatten) S else .bad
    | none => .bad
  | _, _ => .bad
def binD (op : Operator) (x y : D) (S : Sto) : Out D := match op with
  | .Add => addD x y S
  | .Mult => mulD x y S
  | .Sub => match x, y with
    | .int i, .int j => .ok (.int (i - j)) S
    | _, _ => .bad
  | .FloorDiv => match x, y with
    | .int i, .int j => if j ≠ 0 ∧ j.natAbs.log2 < 9000 then .ok (.int (i.fdiv j)) S else .bad
    | _, _ => .bad
  | .Mod => match x, y with
    | .int i, .int j => if j ≠ 0 then .ok (.int (i.fmod j)) S else .bad
    | _, _ => .bad
  | .Pow => match x, y with
    | .int i, .int j => if 0 ≤ j ∧ j ≤ 1000000 ∧ i.natAbs < 2 ^ 64 then .ok (.int (i ^ j.toNat)) S else .bad
    | _, _ => .bad
  | _ => .bad
def keyOf : D → Option Key
  | .int i => some (.inl i)
  | .str x => some (.inr x)
  | _ => none
def dicOf (S : Sto) : D → Option (List (Key × D))
  | .dict [(.int n, .none)] => match S[n.toNat]? with
    | some (.dic kvs) => some kvs
    | _ => none
  | _ => none
def getK (kvs : List (Key × D)) (k : Key) : Option D := (kvs.find? fun p => decide (p.1 = k)).map (·.2)
def inD (x : D) (ys : List D) : Bool := ys.any fun y => PyData.eqv y x
def cmpD (op : CmpOp) (x y : D) (S : Sto) : Out D := match op with
  | .Eq => if plain (lv S x) = true ∧ plain (lv S y) = true then .ok (.bool (PyData.eqv (lv S x) (lv S y))) S else .bad
  | .NotEq => if plain (lv S x) = true ∧ plain (lv S y) = true then .ok (.bool (!PyData.eqv (lv S x) (lv S y))) S else .bad
  | .Lt => if plain x = true ∧ plain y = true ∧ PySem.W.alike x y = true ∧ isNon x = false then .ok (.bool (PySem.W.dataLt x y)) S else .bad
  | .Gt => if plain x = true ∧ plain y = true ∧ PySem.W.alike x y = true ∧ isNon x = false then .ok (.bool (PySem.W.dataLt y x)) S else .bad
  | .LtE => if plain x = true ∧ plain y = true ∧ PySem.W.alike x y = true ∧ isNon x = false then .ok (.bool (!PySem.W.dataLt y x)) S else .bad
  | .GtE => if plain x = true ∧ plain y = true ∧ PySem.W.alike x y = true ∧ isNon x = false then .ok (.bool (!PySem.W.dataLt x y)) S else .bad
  | .Is => match y with
    | .none => match x with
      | .none => .ok (.bool true) S
      | _ => .ok (.bool false) S
    | .bool b => match x with
      | .bool a => .ok (.bool (decide (a = b))) S
      | _ => .ok (.bool false) S
    | _ => .bad
  | .IsNot => match y with
    | .none => match x with
      | .none => .ok (.bool false) S
      | _ => .ok (.bool true) S
    | .bool b => match x with
      | .bool a => .ok (.bool (!decide (a = b))) S
      | _ => .ok (.bool true) S
    | _ => .bad
  | .In => match dicOf S y with
    | some kvs => match keyOf x with
      | some k => .ok (.bool (getK kvs k).isSome) S
      | none => .bad
    | none => match lv S y with
    | .list ys => if plain (.list ys) = true ∧ plain x = true then .ok (.bool (inD x ys)) S else .bad
    | .tuple ys => if plain (.tuple ys) = true ∧ plain x = true then .ok (.bool (inD x ys)) S else .bad
    | .str b => match x with
      | .str a => .ok (.bool (!(Builtin.Str.occurrences b a 0 b.length 1).isEmpty)) S
      | _ => .bad
    | _ => .bad
  | .NotIn => match dicOf S y with
    | some kvs => match keyOf x with
      | some k => .ok (.bool (!(getK kvs k).isSome)) S
      | none => .bad
    | none => match lv S y with
    | .list ys => if plain (.list ys) = true ∧ plain x = true then .ok (.bool (!inD x ys)) S else .bad
    | .tuple ys => if plain (.tuple ys) = true ∧ plain x = true then .ok (.bool (!inD x ys)) S else .bad
    | .str b => match x with
      | .str a => .ok (.bool (!(!(Builtin.Str.occurrences b a 0 b.length 1).isEmpty))) S
      | _ => .bad
    | _ => .bad
def idxD (x y : D) (S : Sto) : Out D := match dicOf S x with
  | some kvs => match (keyOf y).bind (getK kvs) with
    | some v => .ok v S
    | none => .bad
  | none => match y with
    | .int i => match lv S x with
      | .list xs => match atI xs i with
        | some v => .ok v S
        | none => .bad
      | .tuple xs => match atI xs i with
        | some v => .ok v S
        | none => .bad
      | .str z => if z.length ≤ sizeLine then match atI z.cps.toList i with
        | some c => .ok (.str ⟨#[c]⟩) S
        | none => .bad
        else .bad
      | _ => .bad
    | _ => .bad
def cutL {α : Type} (xs : List α) (lo hi : Option Int) : List α := (xs.drop (HT.sIx xs.length 0 lo)).take (HT.sIx xs.length xs.length hi - HT.sIx xs.length 0 lo)
def partD (o : Option D) : Option (Option Int) := match o with
  | none => some none
  | some (.int i) => some (some i)
  | _ => none
def sliD (x : D) (lo hi : Option Int) (S : Sto) : Out D := match lv S x with
  | .list xs => .ok (.list (cutL xs lo hi)) S
  | .tuple xs => .ok (.tuple (cutL xs lo hi)) S
  | .str z => if z.length ≤ sizeLine then .ok (.str ⟨(cutL z.cps.toList lo hi).toArray⟩) S else .bad
  | _ => .bad
def boolsOf : List D → Option (List Bool)
  | [] => some []
  | .bool b :: r => (boolsOf r).map (b :: ·)
  | _ => none
def intsOf : List D → Option (List Int)
  | [] => some []
  | .int b :: r => (intsOf r).map (b :: ·)
  | _ => none
def maxI (n : Int) : List Int → Int
  | [] => n
  | m :: r => maxI (if m > n then m else n) r
def minI (n : Int) : List Int → Int
  | [] => n
  | m :: r => minI (if m < n then m else n) r
def absD (x : D) (S : Sto) : Out D := match x with
  | .int i => .ok (.int (if i < 0 then -i else i)) S
  | _ => .bad
def intD (x : D) (S : Sto) : Out D := match x with
  | .int i => .ok (.int i) S
  | .bool k => .ok (.int (if k then 1 else 0)) S
  | .str a => match PySem.intText? a with
    | some n => if a.length ≤ 640 then .ok (.int n) S else .bad
    | none => .bad
  | _ => .bad
def strD (x : D) (S : Sto) : Out D := match x with
  | .int i => if i.natAbs.log2 < 1920 then .ok (.str (toString i)) S else .bad
  | .str a => .ok (.str a) S
  | _ => .bad
def lenD (x : D) (S : Sto) : Out D := match dicOf S x with
  | some kvs => .ok (.int kvs.length) S
  | none => match lv S x with
    | .str a => if a.length ≤ sizeLine then .ok (.int a.length) S else .bad
    | .list a => .ok (.int a.length) S
    | .tuple a => .ok (.int a.length) S
    | _ => .bad
def tupleD (x : D) (S : Sto) : Out D := match lv S x with
  | .list a => .ok (.tuple a) S
  | .tuple a => .ok (.tuple a) S
  | _ => .bad
def listD (x : D) (S : Sto) : Out D := match lv S x with
  | .list a => .ok (.list a) S
  | .tuple a => .ok (.list a) S
  | _ => .bad
def reprD (x : D) (S : Sto) : Out D := match x with
  | .bool k => .ok (.str (if k then "True" else "False")) S
  | x => if plain (lv S x) = true ∧ (lv S x).showable = true ∧ (lv S x).shown.length ≤ sizeLine then .ok (.str (lv S x).shown) S else .bad
def allD (x : D) (S : Sto) : Out D := match lv S x with
  | .list a => match boolsOf a with
    | some bs => .ok (.bool (bs.all id)) S
    | none => .bad
  | _ => .bad
def anyD (x : D) (S : Sto) : Out D := match lv S x with
  | .list a => match boolsOf a with
    | some bs => .ok (.bool (bs.any id)) S
    | none => .bad
  | _ => .bad
def maxD (x : D) (S : Sto) : Out D := match lv S x with
  | .list a => match intsOf a with
    | some (n :: r) => .ok (.int (maxI n r)) S
    | _ => .bad
  | _ => .bad
def minD (x : D) (S : Sto) : Out D := match lv S x with
  | .list a => match intsOf a with
    | some (n :: r) => .ok (.int (minI n r)) S
    | _ => .bad
  | _ => .bad
def bltD (b : Bi) (xs : List D) (S : Sto) : Out D := match xs with
  | [x] => match b with
    | .abs => absD x S
    | .int => intD x S
    | .str => strD x S
    | .len => lenD x S
    | .tuple => tupleD x S
    | .list => listD x S
    | .repr => reprD x S
    | .all => allD x S
    | .any => anyD x S
    | .max => maxD x S
    | .min => minD x S
    | _ => .bad
  | _ => .bad
def strsOf : List D → Option (List Str)
  | [] => some []
  | .str b :: r => (strsOf r).map (b :: ·)
  | _ => none
def seqOf (S : Sto) (x : D) : Option (List D) := match lv S x with
  | .list a => some a
  | .tuple a => some a
  | _ => none
def locOf : D → Option Nat
  | .dict [(.int n, .none)] => some n.toNat
  | _ => none
/-- the list at a location -/
def lstAt (x : D) (S : Sto) : Option (Nat × List D) := match locOf x with
  | some n => match S[n]? with
    | some (.lst a) => some (n, a)
    | _ => none
  | none => none
def appD (x y : D) (S : Sto) : Out D := match lstAt x S with
  | some p => if p.2.length < sizeLine then .ok .none (S.set p.1 (.lst (p.2 ++ [y]))) else .bad
  | none => .bad
def pop0D (x : D) (S : Sto) : Out D := match lstAt x S with
  | some p => match p.2[p.2.length - 1]? with
    | some y => .ok y (S.set p.1 (.lst p.2.dropLast))
    | none => .bad
  | none => .bad
def popAtD (x i : D) (S : Sto) : Out D := match lstAt x S, i with
  | some p, .int i => if -(2 ^ 63) ≤ i ∧ i < 2 ^ 63 then match PySem.seqIndex? i p.2.length with
    | some k => match p.2[k]? with
      | some y => .ok y (S.set p.1 (.lst (p.2.eraseIdx k)))
      | none => .bad
    | none => .bad
    else .bad
  | _, _ => .bad
def joinD (x y : D) (S : Sto) : Out D := match x, (seqOf S y).bind strsOf with
  | .str a, some ys => if (ys.map (·.length)).sum + ys.length * a.length ≤ sizeLine then .ok (.str (Str.join a ys)) S else .bad
  | _, _ => .bad
def swD (x y : D) (S : Sto) : Out D := match x, y with
  | .str a, .str b => .ok (.bool (Txt.startswith a b)) S
  | _, _ => .bad
def extD (x y : D) (S : Sto) : Out D := match lstAt x S, lvT S y with
  | some p, some ys => if p.2.length + ys.length ≤ sizeLine then .ok .none (S.set p.1 (.lst (p.2 ++ ys))) else .bad
  | _, _ => .bad
def insD (x i y : D) (S : Sto) : Out D := match lstAt x S, i with
  | some p, .int i => if 0 ≤ i ∧ i < 2 ^ 63 ∧ p.2.length < sizeLine then .ok .none (S.set p.1 (.lst (p.2.take i.toNat ++ [y] ++ p.2.drop i.toNat))) else .bad
  | _, _ => .bad
def getD2 (x y z : D) (S : Sto) : Out D := match dicOf S x, keyOf y with
  | some kvs, some k => .ok ((getK kvs k).getD z) S
  | _, _ => .bad
def mthD (m : Mt) (x : D) (xs : List D) (S : Sto) : Out D := match xs with
  | [] => match m with
    | .pop0 => pop0D x S
    | _ => .bad
  | [y] => match m with
    | .append => appD x y S
    | .popAt => popAtD x y S
    | .join => joinD x y S
    | .startswith => swD x y S
    | .extend => extD x y S
    | .get1 => getD2 x y .none S
    | _ => .bad
  | [y, z] => match m with
    | .insert => insD x y z S
    | .get2 => getD2 x y z S
    | _ => .bad
  | _ => .bad
/-- a new object -/
def newO (o : Ob) (S : Sto) : Out D := .ok (loc S.length) (S ++ [o])
def mkL (al : Bool) (xs : List D) (S : Sto) : Out D := if xs.length ≤ sizeLine then (if al = true then newO (.lst xs) S else .ok (.list xs) S) else .bad
def putK {α : Type} (kvs : List (Key × α)) (k : Key) (v : α) : List (Key × α) := if kvs.any (fun p => decide (p.1 = k)) = true then kvs.map (fun p => if p.1 = k then (k, v) else p) else kvs ++ [(k, v)]

/-- k1, v1, k2, v2 .. as pairs -/
def pairsOf : List D → Option (List (Key × D))
  | [] => some []
  | k :: v :: r => (keyOf k).bind fun k => (pairsOf r).map ((k, v) :: ·)
  | _ => none
def mergeD {α : Type} (kvs more : List (Key × α)) : List (Key × α) := more.foldl (fun acc kv => putK acc kv.1 kv.2) kvs
def mkD (ys : List D) (S : Sto) : Out D := match pairsOf ys with
  | some ps => if ps.length ≤ 15 then newO (.dic (mergeD [] ps)) S else .bad
  | none => .bad

/-- by a truth -/
def onB {α : Type} (d : D) (S : Sto) (t f : Sto → Out α) : Out α := match d with
  | .bool true => t S
  | .bool false => f S
  | _ => .bad
@[simp] theorem onB_true {α : Type} (S : Sto) (t f : Sto → Out α) : onB (.bool true) S t f = t S := id rfl
@[simp] theorem onB_false {α : Type} (S : Sto) (t f : Sto → Out α) : onB (.bool false) S t f = f S := id rfl
def asB (d : D) (S : Sto) : Out D := match d with
  | .bool b => .ok (.bool b) S
  | _ => .bad
def notD (d : D) (S : Sto) : Out D := match d with
  | .bool k => .ok (.bool (!k)) S
  | _ => .bad
def negD (d : D) (S : Sto) : Out D := match d with
  | .int i => .ok (.int (-i)) S
  | _ => .bad
def isiD (t : String) (d : D) (S : Sto) : Out D := match (tyN (lv S d)).bind fun n => kitB n t with
  | some b => .ok (.bool b) S
  | none => .bad
/-- max(.., default=k) -/
def mxD (k : Int) (x : D) (S : Sto) : Out D := match lv S x with
  | .list a => match intsOf a with
    | some [] => .ok (.int k) S
    | some (n :: r) => .ok (.int (r.foldl max n)) S
    | none => .bad
  | _ => .bad
/-- an instance -/
def insOf (S : Sto) : D → Option (Nat × List (Str × D))
  | .dict [(.int n, .none)] => match S[n.toNat]? with
    | some (.ins c fs) => some (c, fs)
    | _ => none
  | _ => none
def fldD (cs : List Nat) (f : Str) (x : D) (S : Sto) : Out D := match insOf S x with
  | some p => if cs.contains p.1 = true then match p.2.lookup f with
    | some v => .ok v S
    | none => .bad
    else .bad
  | none => .bad
def putFD (f : Str) (v : D) : List (Str × D) → List (Str × D)
  | [] => [(f, v)]
  | (g, w) :: r => if g = f then (f, v) :: r else (g, w) :: putFD f v r
def stF (cs : List Nat) (x : D) (f : Str) (v : D) (S : Sto) : Out Unit := match locOf x, insOf S x with
  | some n, some p => if cs.contains p.1 = true ∧ p.2.length < 1000 then .ok () (S.set n (.ins p.1 (putFD f v p.2))) else .bad
  | _, _ => .bad
/-- the class of an instance -/
def clsL (x : D) (S : Sto) : List Nat := match insOf S x with
  | some p => [p.1]
  | none => []
/-- the def that a method's name stands for -/
def mclD (nm : Str) (tb : List (Nat × Nat)) (x : D) (S : Sto) : Option Nat := match insOf S x with
  | some p => if (p.2.lookup nm).isNone = true then tb.lookup p.1 else none
  | none => none
/-- a new instance is handed on -/
def newR (l : D) (v : D) (S : Sto) : Out D := match v with
  | .none => .ok l S
  | _ => .bad
/-- what a method is called on -/
def strB : D → Bool
  | .str _ => true
  | _ => false
def recvB (m : Mt) (x : D) (S : Sto) : Bool := match m with
  | .join => strB x
  | .replace => strB x
  | .startswith => strB x
  | .split => strB x
  | .get1 => (dicOf S x).isSome
  | .get2 => (dicOf S x).isSome
  | _ => (lstAt x S).isSome
/-- a slice's part -/
def prtD (l : Option D) (S : Sto) : Out (Option Int) := match partD l with
  | some l => .ok l S
  | none => .bad

/-! ### loops -/
open Classical in
/-- the walked object still holds the items -/
noncomputable def stays (d : D) (xs : List D) (S : Sto) : Bool := decide (lv S d = .list xs ∨ lv S d = .tuple xs ∨ d = .none)
noncomputable def lcL {α : Type} (d : D) (all : List D) (step : D → Sto → Out (Option α)) : List D → Sto → Out (List α)
  | [], S => .ok [] S
  | x :: xs, S => (step x S).bind fun r S1 => if stays d all S1 = true then (lcL d all step xs S1).bind fun rs S2 => .ok (r.toList ++ rs) S2 else .bad
def rngL (lo : Int) (n : Nat) : List D := (List.range n).map fun i => .int (lo + (i : Nat))
def small62 (i : Int) : Prop := -(2 ^ 62) ≤ i ∧ i < 2 ^ 62
instance (i : Int) : Decidable (small62 i) := by unfold small62; infer_instance
/-- what is walked: the object (none where there is none) and the items -/
def walked (x : D) (S : Sto) : Out (D × List D) := match lv S x with
  | .list xs => .ok (x, xs) S
  | .tuple xs => .ok (x, xs) S
  | .str z => .ok (.none, z.cps.toList.map fun c => .str ⟨#[c]⟩) S
  | _ => .bad
def rangeD (xs : List D) (S : Sto) : Out (D × List D) := match xs with
  | [.int j] => if small62 j then .ok (.none, rngL 0 j.toNat) S else .bad
  | [.int i, .int j] => if small62 i ∧ small62 j then .ok (.none, rngL i (j - i).toNat) S else .bad
  | _ => .bad

def iterD (rg : Bool) (xs : List D) (S : Sto) : Out (D × List D) := if rg = true then rangeD xs S else match xs with
  | [x] => walked x S
  | _ => .bad
def setAll : List Nat → List D → Fr → Option Fr
  | [], [], σ => some σ
  | i :: is, x :: xs, σ => setAll is xs (σ.set i (some x))
  | _, _, _ => none
/-- a comprehension's target takes an item -/
def bndT (ts : List Nat) (tu : Bool) (x : D) (σ : Fr) : Option Fr := if tu = true then (match x with
  | .tuple xs => setAll ts xs σ
  | _ => none) else setAll ts [x] σ
def wipF (σ : Fr) : List Nat → Fr
  | [] => σ
  | i :: is => (wipF σ is).set i none
def nxW {α : Type} (nx : Bool) (o : Out α) : Out α := if nx = true then o.nox else o
@[simp] theorem nxW_t {α : Type} {o : Out α} : nxW true o = o.nox := id rfl
@[simp] theorem nxW_f {α : Type} {o : Out α} : nxW false o = o := id rfl
def pairD (k v : D) (S : Sto) : Out (Option (Key × D)) := match keyOf k with
  | some k => .ok (some (k, v)) S
  | none => .bad
/-! ### expressions -/
section
variable (R : Nat → List D → Sto → Out D)
mutual
noncomputable def evE : CE → Fr → Sto → Out D
  | .var i, σ, S => match σ[i]? with
    | some (some d) => .ok d S
    | _ => .bad
  | .con p, _, S => .ok p S
  | .glb _, _, _ => .bad
  | .bop op a b, σ, S => (evE a σ S).bind fun x S1 => (evE b σ S1).bind fun y S2 => binD op x y S2
  | .cmp op a b, σ, S => (evE a σ S).bind fun x S1 => (evE b σ S1).bind fun y S2 => cmpD op x y S2
  | .chn o1 o2 a b c, σ, S => (evE a σ S).bind fun x S1 => (evE b σ S1).bind fun y S2 => (cmpD o1 x y S2).bind fun t S3 =>
      onB t S3 (fun S3 => (evE c σ S3).bind fun z S4 => cmpD o2 y z S4) fun S3 => .ok (.bool false) S3
  | .and a b, σ, S => (evE a σ S).bind fun x S1 => onB x S1 (fun S1 => evE b σ S1) fun S1 => .ok (.bool false) S1
  | .or a b, σ, S => (evE a σ S).bind fun x S1 => onB x S1 (fun S1 => .ok (.bool true) S1) fun S1 => evE b σ S1
  | .not a, σ, S => (evE a σ S).bind fun x S1 => notD x S1
  | .neg a, σ, S => (evE a σ S).bind fun x S1 => negD x S1
  | .ite c a b, σ, S => (evE c σ S).bind fun x S1 => onB x S1 (fun S1 => evE a σ S1) fun S1 => evE b σ S1
  | .tup xs, σ, S => (evEs xs σ S).bind fun ys S1 => if ys.length ≤ sizeLine then .ok (.tuple ys) S1 else .bad
  | .lst al xs, σ, S => (evEs xs σ S).bind fun ys S1 => mkL al ys S1
  | .dsp xs, σ, S => (evEs xs σ S).bind fun ys S1 => mkD ys S1
  | .lc al tg it ifs elt, σ, S => ((evE it σ S).bind fun x S1 => walked x S1).bind fun p S1 =>
      (lcL p.1 p.2 (fun x S2 => ((evT ifs ((σ.set tg none).set tg (some x)) S2).bind fun t S3 => if t = true then (evE elt ((σ.set tg none).set tg (some x)) S3).bind fun y S4 => .ok (some y) S4 else .ok none S3).nox) p.2 S1).bind fun ys S5 => mkL al ys S5
  | .lr al tg rg ifs elt, σ, S => ((evEs rg σ S).bind fun x S1 => rangeD x S1).bind fun p S1 =>
      (lcL p.1 p.2 (fun x S2 => ((evT ifs ((σ.set tg none).set tg (some x)) S2).bind fun t S3 => if t = true then (evE elt ((σ.set tg none).set tg (some x)) S3).bind fun y S4 => .ok (some y) S4 else .ok none S3).nox) p.2 S1).bind fun ys S5 => mkL al ys S5
  | .idx a b, σ, S => (evE a σ S).bind fun x S1 => (evE b σ S1).bind fun y S2 => idxD x y S2
  | .sli a lo hi, σ, S => (evE a σ S).bind fun x S1 => ((evO lo σ S1).bind prtD).bind fun l S2 => ((evO hi σ S2).bind prtD).bind fun h S3 => sliD x l h S3
  | .call f xs, σ, S => (evEs xs σ S).bind fun ys S1 => R f ys S1
  | .blt b xs, σ, S => (evEs xs σ S).bind fun ys S1 => bltD b ys S1
  | .mth m o xs, σ, S => (evE o σ S).bind fun x S1 => if recvB m x S1 = true then (evEs xs σ S1).bind fun ys S2 => mthD m x ys S2 else .bad
  | .isi a t, σ, S => (evE a σ S).bind fun x S1 => isiD t x S1
  | .mxd a k, σ, S => (evE a σ S).bind fun x S1 => mxD k x S1
  | .fld cs a f, σ, S => (evE a σ S).bind fun x S1 => fldD cs f x S1
  | .mcl nm tb o xs, σ, S => (evE o σ S).bind fun x S1 => match mclD nm tb x S1 with
    | some g => (evEs xs σ S1).bind fun ys S2 => R g (x :: ys) S2
    | none => .bad
  | .lcg nx al rg ts tu its ifs elt, σ, S => ((evEs its σ S).bind fun x S1 => iterD rg x S1).bind fun p S1 => if p.2.length ≤ sizeLine then
      (lcL p.1 p.2 (fun x S2 => nxW nx (match bndT ts tu x (wipF σ ts) with
        | some f => (evT ifs f S2).bind fun t S3 => if t = true then (evE elt f S3).bind fun y S4 => .ok (some y) S4 else .ok none S3
        | none => .bad)) p.2 S1).bind fun ys S5 => mkL al ys S5 else .bad
  | .dcg rg ts tu its ifs k v, σ, S => ((evEs its σ S).bind fun x S1 => iterD rg x S1).bind fun p S1 => if p.2.length < sizeLine then
      (lcL p.1 p.2 (fun x S2 => Out.nox (match bndT ts tu x (wipF σ ts) with
        | some f => (evT ifs f S2).bind fun t S3 => if t = true then (evE k f S3).bind fun a S4 => (evE v f S4).bind fun b S5 => pairD a b S5 else .ok none S3
        | none => .bad)) p.2 S1).bind fun ps S5 => newO (.dic (mergeD [] ps)) S5 else .bad
  | .new c g xs, σ, S => (evEs xs σ S).bind fun ys S1 => (R g (loc S1.length :: ys) (S1 ++ [.ins c []])).bind fun v S2 => newR (loc S1.length) v S2
noncomputable def evEs : List CE → Fr → Sto → Out (List D)
  | [], _, S => .ok [] S
  | a :: r, σ, S => (evE a σ S).bind fun x S1 => (evEs r σ S1).bind fun xs S2 => .ok (x :: xs) S2
noncomputable def evO : Option CE → Fr → Sto → Out (Option D)
  | none, _, S => .ok none S
  | some a, σ, S => (evE a σ S).bind fun x S1 => .ok (some x) S1
/-- the tests of a comprehension -/
noncomputable def evT : List CE → Fr → Sto → Out Bool
  | [], _, S => .ok true S
  | a :: r, σ, S => (evE a σ S).bind fun x S1 => onB x S1 (fun S1 => evT r σ S1) fun S1 => .ok false S1
end
end

/-! ### statements -/
inductive SO where
  | nx (σ : Fr) (S : Sto)
  | rt (d : D) (S : Sto)
  | bk (σ : Fr) (S : Sto)
  | ct (σ : Fr) (S : Sto)
  | ex (c : Nat) (fs : List (Str × D)) (σ : Fr) (S : Sto)
  | bad
def onS (d : D) (S : Sto) (t f : Sto → SO) : SO := match d with
  | .bool true => t S
  | .bool false => f S
  | _ => .bad
@[simp] theorem onS_true (S : Sto) (t f : Sto → SO) : onS (.bool true) S t f = t S := id rfl
@[simp] theorem onS_false (S : Sto) (t f : Sto → SO) : onS (.bool false) S t f = f S := id rfl
def SO.seq (o : SO) (f : Fr → Sto → SO) : SO := match o with
  | .nx σ S => f σ S
  | .rt d S => .rt d S
  | .bk σ S => .bk σ S
  | .ct σ S => .ct σ S
  | .ex c fs σ S => .ex c fs σ S
  | .bad => .bad
/-- an expression in a statement -/
def Out.st {α : Type} (o : Out α) (σ : Fr) (f : α → Sto → SO) : SO := match o with
  | .ok a S => f a S
  | .ex c fs S => .ex c fs σ S
  | .bad => .bad
@[simp] theorem st_ok {α : Type} (a : α) (S : Sto) (σ : Fr) (f : α → Sto → SO) : (Out.ok a S).st σ f = f a S := id rfl
@[simp] theorem st_ex {α : Type} (c : Nat) (fs : List (Str × D)) (S : Sto) (σ : Fr) (f : α → Sto → SO) : (Out.ex c fs S : Out α).st σ f = .ex c fs σ S := id rfl
@[simp] theorem st_bad {α : Type} (σ : Fr) (f : α → Sto → SO) : (Out.bad : Out α).st σ f = .bad := id rfl
@[simp] theorem seq_nx (σ : Fr) (S : Sto) (f : Fr → Sto → SO) : (SO.nx σ S).seq f = f σ S := id rfl
@[simp] theorem seq_rt (d : D) (S : Sto) (f : Fr → Sto → SO) : (SO.rt d S).seq f = .rt d S := id rfl
@[simp] theorem seq_bad (f : Fr → Sto → SO) : SO.bad.seq f = .bad := id rfl
/-- a loop's turn is over -/
def SO.again (o : SO) (f : Fr → Sto → SO) : SO := match o with
  | .nx σ S => f σ S
  | .ct σ S => f σ S
  | .bk σ S => .nx σ S
  | .rt d S => .rt d S
  | .ex c fs σ S => .ex c fs σ S
  | .bad => .bad
@[simp] theorem again_nx (σ : Fr) (S : Sto) (f : Fr → Sto → SO) : (SO.nx σ S).again f = f σ S := id rfl
@[simp] theorem again_ct (σ : Fr) (S : Sto) (f : Fr → Sto → SO) : (SO.ct σ S).again f = f σ S := id rfl
@[simp] theorem again_bk (σ : Fr) (S : Sto) (f : Fr → Sto → SO) : (SO.bk σ S).again f = .nx σ S := id rfl
@[simp] theorem again_rt (d : D) (S : Sto) (f : Fr → Sto → SO) : (SO.rt d S).again f = .rt d S := id rfl
noncomputable def frL (d : D) (all : List D) (step : D → Fr → Sto → SO) : List D → Fr → Sto → SO
  | [], σ, S => .nx σ S
  | x :: xs, σ, S => (step x σ S).again fun σ1 S1 => if stays d all S1 = true then frL d all step xs σ1 S1 else .bad
def whL (c : Fr → Sto → Out D) (step : Fr → Sto → SO) : Nat → Fr → Sto → SO
  | 0, _, _ => .bad
  | n + 1, σ, S => (c σ S).st σ fun t S1 => onS t S1 (fun S1 => (step σ S1).again fun σ1 S2 => whL c step n σ1 S2) fun S1 => .nx σ S1
def setD (x i v : D) (S : Sto) : Out Unit := match locOf x with
  | some n => match S[n]? with
    | some (.lst a) => match i with
      | .int k => match ixN a.length k with
        | some j => .ok () (S.set n (.lst (a.set j v)))
        | none => .bad
      | _ => .bad
    | some (.dic kvs) => match keyOf i with
      | some k => if kvs.length < sizeLine then .ok () (S.set n (.dic (putK kvs k v))) else .bad
      | none => .bad
    | _ => .bad
  | none => .bad
def augD (op : Operator) (x y : D) (S : Sto) : Out D := match op, x, y with
  | .Add, .int i, .int j => .ok (.int (i + j)) S
  | .Sub, .int i, .int j => .ok (.int (i - j)) S
  | .Add, .str a, .str b => if a.length + b.length ≤ sizeLine then .ok (.str (a ++ b)) S else .bad
  | _, _, _ => .bad
/-- the fields of an exception that is handled go to their slots -/
def setH : List (Str × Nat) → List (Str × D) → Fr → Option Fr
  | [], _, σ => some σ
  | (f, i) :: r, fs, σ => match fs.lookup f with
    | some v => setH r fs (σ.set i (some v))
    | none => none
def wip (sl : Option Nat) (σ : Fr) : Fr := match sl with
  | some i => σ.set i none
  | none => σ
/-- behind an except suite -/
def SO.aft (o : SO) (f : Fr → Fr) : SO := match o with
  | .nx σ S => .nx (f σ) S
  | .rt d S => .rt d S
  | .bk σ S => .bk (f σ) S
  | .ct σ S => .ct (f σ) S
  | .ex _ _ _ _ => .bad
  | .bad => .bad
def setT : List TL → List D → Fr → Sto → Option (Fr × Sto)
  | [], [], σ, S => some (σ, S)
  | .nm i :: r, x :: xs, σ, S => setT r xs (σ.set i (some x)) S
  | .fl cs o f :: r, x :: xs, σ, S => match σ[o]? with
    | some (some ov) => match stF cs ov f x S with
      | .ok _ S1 => setT r xs σ S1
      | _ => none
    | _ => none
  | _, _, _, _ => none
section
variable (W : Nat) (R : Nat → List D → Sto → Out D)
/-- a value goes to a target -/
noncomputable def evG : CT → D → Fr → Sto → SO
  | .nm i, x, σ, S => .nx (σ.set i (some x)) S
  | .tup is, x, σ, S => match seqOf S x with
    | some xs => match setT is xs σ S with
      | some p => .nx p.1 p.2
      | none => .bad
    | none => .bad
  | .sub o i, x, σ, S => (evE R o σ S).st σ fun ov S1 => (evE R i σ S1).st σ fun iv S2 => (setD ov iv x S2).st σ fun _ S3 => .nx σ S3
  | .fld cs o f, x, σ, S => (evE R o σ S).st σ fun ov S1 => (stF cs ov f x S1).st σ fun _ S2 => .nx σ S2
mutual
noncomputable def evS : CS → Fr → Sto → SO
  | .exp e, σ, S => (evE R e σ S).st σ fun _ S1 => .nx σ S1
  | .asg t e, σ, S => (evE R e σ S).st σ fun x S1 => evG R t x σ S1
  | .par i j a b, σ, S => (evE R a σ S).st σ fun x S1 => (evE R b σ S1).st σ fun y S2 => .nx ((σ.set i (some x)).set j (some y)) S2
  | .aug i op e, σ, S => match σ[i]? with
    | some (some x) => (evE R e σ S).st σ fun y S1 => (augD op x y S1).st σ fun z S2 => .nx (σ.set i (some z)) S2
    | _ => .bad
  | .ret e, σ, S => (evE R e σ S).st σ fun x S1 => .rt x S1
  | .ife c a b, σ, S => (evE R c σ S).st σ fun t S1 => onS t S1 (fun S1 => evB a σ S1) fun S1 => evB b σ S1
  | .whl c b, σ, S => whL (evE R c) (evB b) W σ S
  | .fro t it b, σ, S => ((evE R it σ S).bind fun x S1 => walked x S1).st σ fun p S1 => frL p.1 p.2 (fun x σ1 S2 => (evG R t x σ1 S2).seq (evB b)) p.2 σ S1
  | .frr t rg b, σ, S => ((evEs R rg σ S).bind fun x S1 => rangeD x S1).st σ fun p S1 => frL p.1 p.2 (fun x σ1 S2 => (evG R t x σ1 S2).seq (evB b)) p.2 σ S1
  | .fag cs o f op e, σ, S => (evE R o σ S).st σ fun x S1 => (fldD cs f x S1).st σ fun v S2 => (evE R e σ S2).st σ fun y S3 => (augD op v y S3).st σ fun z S4 => (stF (clsL x S1) x f z S4).st σ fun _ S5 => .nx σ S5
  | .rai c fl xs, σ, S => (evEs R xs σ S).st σ fun ys S1 => match fl with
    | none => .ex c [] σ S1
    | some ns => if ys.length = ns.length then .ex c (ns.zip ys).reverse σ S1 else .bad
  | .tri b h els, σ, S => match evB b σ S with
    | .ex c fs σ1 S1 => evH h c fs σ1 S1
    | .nx σ1 S1 => evB els σ1 S1
    | o => o
  | .hnd _ _ _ _ _ _, _, _ => .bad
  | .brk, σ, S => .bk σ S
  | .cnt, σ, S => .ct σ S
  | .pss, σ, S => .nx σ S
/-- the except clauses -/
noncomputable def evH : CS → Nat → List (Str × D) → Fr → Sto → SO
  | .hnd cs ds sl hd b nx, c, fs, σ, S => if cs.contains c = true then (match setH hd fs (wip sl σ) with
    | some σ1 => (evB b σ1 S).aft (wip sl)
    | none => .bad) else if ds.contains c = true then evH nx c fs σ S else .bad
  | _, c, fs, σ, S => .ex c fs σ S
noncomputable def evB : List CS → Fr → Sto → SO
  | [], σ, S => .nx σ S
  | c :: r, σ, S => (evS c σ S).seq (evB r)
end
end

/-! ### defs -/
mutual
def frz (φ : Int → Option D) : D → Option D
  | .tuple xs => (frzA φ xs).map .tuple
  | .list xs => (frzA φ xs).map .list
  | .dict kvs => match kvs with
    | [(.int n, .none)] => φ n
    | _ => none
  | d => some d
def frzA (φ : Int → Option D) : List D → Option (List D)
  | [] => some []
  | x :: xs => (frz φ x).bind fun y => (frzA φ xs).map (y :: ·)
end
def phi (n : Nat) (S : Sto) : Nat → Int → Option D
  | 0, i => if i.toNat < n then some (.dict [(.int i, .none)]) else none
  | k + 1, i => if i.toNat < n then some (.dict [(.int i, .none)]) else match S[i.toNat]? with
    | some (.lst xs) => (frzA (phi n S k) xs).map .list
    | _ => none
mutual
def lowD (n : Nat) : D → Bool
  | .tuple xs => lowA n xs
  | .list xs => lowA n xs
  | .dict kvs => match kvs with
    | [(.int i, .none)] => decide (i.toNat < n)
    | _ => false
  | _ => true
def lowA (n : Nat) : List D → Bool
  | [] => true
  | x :: xs => lowD n x && lowA n xs
end
def lowO (n : Nat) : Ob → Bool
  | .lst xs => lowA n xs
  | .dic kvs => kvs.all fun p => lowD n p.2
  | .ins _ fs => fs.all fun p => lowD n p.2
open Classical in
/-- a def's end: objects that nothing outside holds are let go -/
noncomputable def cutF (fl : Bool) (S0 : Sto) (d : D) (S : Sto) : Out D :=
  if fl = false ∨ S.length = S0.length then .ok d S
  else match frz (phi S0.length S 6) d with
    | some d' => if S.take S0.length = S0 ∨ (S.take S0.length).all (lowO S0.length) = true then .ok d' (S.take S0.length) else .bad
    | none => .bad
def start0 (n : Nat) (xs : List D) : Fr := xs.map some ++ List.replicate (n - xs.length) none
noncomputable def callN (T : Nat → Option Fn) (W : Nat) : Nat → Nat → List D → Sto → Out D
  | 0, _, _, _ => .bad
  | n + 1, f, xs, S => match T f with
    | none => .bad
    | some fn => if xs.length = fn.p then (match evB W (callN T W n) fn.body (start0 fn.n xs) S with
        | .nx _ S' => cutF fn.cut S .none S'
        | .rt d S' => cutF fn.cut S d S'
        | .ex c fs _ S' => .ex c fs S'
        | _ => .bad)
      else .bad
end Cr
set_option Elab.async false
set_option linter.all false
/-! Cr2: what the evaluator's values and stores are in the abstract heap; readings made of evaluator runs. -/
namespace Cr
open PySem L2

/-! ### values and stores in the abstract heap -/
/-- the addresses of the locations, in order; the addresses that no value may name -/
structure Lo where
  ls : List Addr
  bl : List Addr
def Lo.out (ρ : Lo) (a : Addr) : Prop := a ∉ ρ.ls ∧ a ∉ ρ.bl
def Lo.add (ρ : Lo) (p : Addr) : Lo := ⟨ρ.ls ++ [p], ρ.bl⟩
/-- a list, a tuple of the written part -/
def KL (K : PySem.W.Frag) (a : Addr) (vs : List V) : Prop :=
  ∃ (its : List Value) (n : Nat), K.lookup a = some { cls := .type "list", data := .seq its.toArray n } ∧ vs.length ≤ sizeLine ∧ Vals vs its
def KT (K : PySem.W.Frag) (a : Addr) (vs : List V) : Prop :=
  ∃ (o : Obj) (its : Array Value) (n : Nat), K.lookup a = some o ∧ o.cls = .type "tuple" ∧ o.data = .seq its n ∧ its.size ≤ sizeLine ∧ Vals vs its.toList
def LL (K : PySem.W.Frag) (ρ : Lo) (H : Hp) (a : Addr) (vs : List V) : Prop := (ρ.out a ∧ Rd H a (.lst vs)) ∨ KL K a vs
def TpL (K : PySem.W.Frag) (ρ : Lo) (H : Hp) (a : Addr) (vs : List V) : Prop := (ρ.out a ∧ Rd H a (.tup vs)) ∨ KT K a vs
/-- a list that is read, with its own object -/
def RL (K : PySem.W.Frag) (H : Hp) (a : Addr) (vs : List V) : Prop := Rd H a (.lst vs) ∨ KL K a vs
theorem LL.rl {K : PySem.W.Frag} {ρ : Lo} {H : Hp} {a : Addr} {vs : List V} (h : LL K ρ H a vs) : RL K H a vs := h.elim (fun x => .inl x.2) .inr
theorem KL.sq {K : PySem.W.Frag} {H : Hp} {a : Addr} {vs : List V} (h : KL K a vs) : SqL K H a vs := by
  obtain ⟨its, n, h1, h2, h3⟩ := h
  refine .inr ⟨_, its.toArray, n, h1, rfl, rfl, rfl, ?_, by simpa using h3⟩
  have := h3.length
  simp only [List.size_toArray]; omega
theorem RL.sq {K : PySem.W.Frag} {H : Hp} {a : Addr} {vs : List V} (h : RL K H a vs) : SqL K H a vs := h.elim (fun x => .inl x) KL.sq
theorem TpL.sq {K : PySem.W.Frag} {ρ : Lo} {H : Hp} {a : Addr} {vs : List V} (h : TpL K ρ H a vs) : SqT K H a vs := h.elim (fun x => .inl x.2) .inr

mutual
def Rep (K : PySem.W.Frag) (ρ : Lo) (H : Hp) : D → V → Prop
  | .none, v => v = .non
  | .bool b, v => v = .bl b
  | .int i, v => v = .int i
  | .str x, v => v = .str x
  | .tuple xs, v => ∃ a vs, v = .ref a ∧ TpL K ρ H a vs ∧ Reps K ρ H xs vs
  | .list xs, v => ∃ a vs, v = .ref a ∧ LL K ρ H a vs ∧ Reps K ρ H xs vs
  | .dict kvs, v => ∃ (n : Nat) (a : Addr), kvs = [(.int (n : Int), .none)] ∧ ρ.ls[n]? = some a ∧ v = .ref a
def Reps (K : PySem.W.Frag) (ρ : Lo) (H : Hp) : List D → List V → Prop
  | [], vs => vs = []
  | x :: xs, vs => ∃ v r, vs = v :: r ∧ Rep K ρ H x v ∧ Reps K ρ H xs r
end

def ObR (K : PySem.W.Frag) (ca : Nat → Addr) (ρ : Lo) (H : Hp) (a : Addr) : Ob → Prop
  | .lst ds => ∃ vs, H a = some (.lst vs) ∧ Reps K ρ H ds vs
  | .dic kvs => ∃ kvs', H a = some (.dK kvs') ∧ kvs'.map (·.1) = kvs.map (·.1) ∧ (kvs.map (·.1)).Nodup ∧ Reps K ρ H (kvs.map (·.2)) (kvs'.map (·.2))
  | .ins c fs => ∃ dx fs', H a = some (.ins (ca c) dx fs') ∧ fs'.map (·.1) = fs.map (·.1) ∧ Reps K ρ H (fs.map (·.2)) (fs'.map (·.2))
structure Rel (K : PySem.W.Frag) (ca : Nat → Addr) (ρ : Lo) (S : Sto) (H : Hp) : Prop where
  nd : ρ.ls.Nodup
  ln : ρ.ls.length = S.length
  ob : ∀ (i : Nat) (a : Addr) (o : Ob), ρ.ls[i]? = some a → S[i]? = some o → ObR K ca ρ H a o
  bl : ∀ b ∈ ρ.bl, b ∉ ρ.ls ∧ H b ≠ none

/-- later -/
structure Ext (ρ : Lo) (H : Hp) (ρ' : Lo) (H' : Hp) : Prop where
  pre : ∃ τ, ρ' = ⟨ρ.ls ++ τ, ρ.bl⟩ ∧ ∀ a ∈ τ, H a = none
  old : ∀ a o, a ∉ ρ.ls → H a = some o → H' a = some o
  som : ∀ a, H a ≠ none → H' a ≠ none
theorem Ext.refl {ρ : Lo} {H : Hp} : Ext ρ H ρ H := ⟨⟨[], by simp, fun _ h => nomatch h⟩, fun _ _ _ h => h, fun _ h => h⟩
theorem Ext.trans {ρ ρ' ρ'' : Lo} {H H' H'' : Hp} (a : Ext ρ H ρ' H') (b : Ext ρ' H' ρ'' H'') : Ext ρ H ρ'' H'' := by
  obtain ⟨τ, rfl, h1⟩ := a.pre
  obtain ⟨τ', rfl, h2⟩ := b.pre
  refine ⟨⟨τ ++ τ', by simp, fun x hx => ?_⟩, fun x o hx e => ?_, fun x hx => b.som x (a.som x hx)⟩
  · rcases List.mem_append.mp hx with q | q
    · exact h1 x q
    · cases e : H x with
      | none => rfl
      | some o => exact absurd (h2 x q) (a.som x (by rw [e]; exact fun z => nomatch z))
  · refine b.old x o (fun q => ?_) (a.old x o hx e)
    rcases List.mem_append.mp q with q | q
    · exact hx q
    · rw [h1 x q] at e; cases e
theorem Ext.notin {ρ ρ' : Lo} {H H' : Hp} (e : Ext ρ H ρ' H') {a : Addr} (ha : ρ.out a) (hs : H a ≠ none) : ρ'.out a := by
  obtain ⟨τ, rfl, h1⟩ := e.pre
  refine ⟨fun q => ?_, ha.2⟩
  rcases List.mem_append.mp q with q | q
  · exact ha.1 q
  · exact hs (h1 a q)
theorem Rd.ne {H : Hp} {a : Addr} {u : HO} (h : Rd H a u) : H a ≠ none := by
  rcases h with h | ⟨o, h⟩ <;> rw [h] <;> exact fun z => nomatch z
theorem Ext.rd {ρ ρ' : Lo} {H H' : Hp} (e : Ext ρ H ρ' H') {a : Addr} {u : HO} (ha : ρ.out a) (h : Rd H a u) : ρ'.out a ∧ Rd H' a u :=
  ⟨e.notin ha (Rd.ne h), h.elim (fun q => .inl (e.old a _ ha.1 q)) fun ⟨o, q⟩ => .inr ⟨o, e.old a _ ha.1 q⟩⟩
section
variable {K : PySem.W.Frag} {ca : Nat → Addr} {ρ ρ' : Lo} {H H' : Hp}
mutual
theorem Rep.ext (e : Ext ρ H ρ' H') : ∀ (d : D) (v : V), Rep K ρ H d v → Rep K ρ' H' d v
  | .none, _, h => h
  | .bool _, _, h => h
  | .int _, _, h => h
  | .str _, _, h => h
  | .tuple xs, v, h => by
    obtain ⟨a, vs, h1, h2, h3⟩ := h
    exact ⟨a, vs, h1, h2.elim (fun q => .inl (e.rd q.1 q.2)) .inr, Reps.ext e xs vs h3⟩
  | .list xs, v, h => by
    obtain ⟨a, vs, h1, h2, h3⟩ := h
    exact ⟨a, vs, h1, h2.elim (fun q => .inl (e.rd q.1 q.2)) .inr, Reps.ext e xs vs h3⟩
  | .dict kvs, v, h => by
    obtain ⟨n, a, h1, h2, h3⟩ := h
    obtain ⟨τ, e1, _⟩ := e.pre
    refine ⟨n, a, h1, ?_, h3⟩
    rw [e1, List.getElem?_append_left (List.getElem?_eq_some_iff.mp h2).1]
    exact h2
theorem Reps.ext (e : Ext ρ H ρ' H') : ∀ (ds : List D) (vs : List V), Reps K ρ H ds vs → Reps K ρ' H' ds vs
  | [], _, h => h
  | x :: xs, vs, h => by
    obtain ⟨v, r, h1, h2, h3⟩ := h
    exact ⟨v, r, h1, Rep.ext e x v h2, Reps.ext e xs r h3⟩
end
theorem Reps.length : ∀ {ds : List D} {vs : List V}, Reps K ρ H ds vs → vs.length = ds.length
  | [], _, h => by rw [show _ = [] from h]; rfl
  | x :: xs, vs, h => by
    obtain ⟨v, r, rfl, _, h3⟩ := h
    simp [Reps.length h3]
theorem Reps.get : ∀ {ds : List D} {vs : List V} {i : Nat} {d : D}, Reps K ρ H ds vs → ds[i]? = some d → ∃ v, vs[i]? = some v ∧ Rep K ρ H d v
  | [], _, _, _, _, e => by simp at e
  | x :: xs, vs, 0, d, h, e => by
    obtain ⟨v, r, rfl, h2, h3⟩ := h
    simp at e; subst e
    exact ⟨v, rfl, h2⟩
  | x :: xs, vs, i + 1, d, h, e => by
    obtain ⟨v, r, rfl, h2, h3⟩ := h
    simpa using Reps.get (i := i) (d := d) h3 (by simpa using e)
theorem Reps.getV : ∀ {ds : List D} {vs : List V} {i : Nat} {v : V}, Reps K ρ H ds vs → vs[i]? = some v → ∃ d, ds[i]? = some d ∧ Rep K ρ H d v := fun {ds vs i v} h e => by
  have hi := (List.getElem?_eq_some_iff.mp e).1
  rw [h.length] at hi
  obtain ⟨v', h1, h2⟩ := h.get (List.getElem?_eq_getElem hi)
  rw [e] at h1; cases h1
  exact ⟨_, List.getElem?_eq_getElem hi, h2⟩
theorem Reps.append : ∀ {ds : List D} {vs : List V} {es : List D} {ws : List V}, Reps K ρ H ds vs → Reps K ρ H es ws → Reps K ρ H (ds ++ es) (vs ++ ws)
  | [], _, _, _, h, q => by rw [show _ = [] from h]; exact q
  | x :: xs, vs, es, ws, h, q => by
    obtain ⟨v, r, rfl, h2, h3⟩ := h
    exact ⟨v, r ++ ws, rfl, h2, h3.append q⟩
theorem Reps.take : ∀ {ds : List D} {vs : List V} (n : Nat), Reps K ρ H ds vs → Reps K ρ H (ds.take n) (vs.take n)
  | _, _, 0, _ => by simp [Reps]
  | [], _, n + 1, h => by rw [show _ = [] from h]; simp [Reps]
  | x :: xs, vs, n + 1, h => by
    obtain ⟨v, r, rfl, h2, h3⟩ := h
    exact ⟨v, r.take n, rfl, h2, h3.take n⟩
theorem Reps.drop : ∀ {ds : List D} {vs : List V} (n : Nat), Reps K ρ H ds vs → Reps K ρ H (ds.drop n) (vs.drop n)
  | _, _, 0, h => h
  | [], _, n + 1, h => by rw [show _ = [] from h]; simp [Reps]
  | x :: xs, vs, n + 1, h => by
    obtain ⟨v, r, rfl, h2, h3⟩ := h
    exact h3.drop n
theorem Reps.set {d : D} {v : V} (q : Rep K ρ H d v) : ∀ {ds : List D} {vs : List V} (n : Nat), Reps K ρ H ds vs → Reps K ρ H (ds.set n d) (vs.set n v)
  | [], _, _, h => by rw [show _ = [] from h]; simp [Reps]
  | x :: xs, vs, 0, h => by
    obtain ⟨w, r, rfl, h2, h3⟩ := h
    exact ⟨v, r, rfl, q, h3⟩
  | x :: xs, vs, n + 1, h => by
    obtain ⟨w, r, rfl, h2, h3⟩ := h
    exact ⟨w, r.set n v, rfl, h2, h3.set q n⟩
theorem Reps.eraseIdx : ∀ {ds : List D} {vs : List V} (n : Nat), Reps K ρ H ds vs → Reps K ρ H (ds.eraseIdx n) (vs.eraseIdx n)
  | [], _, _, h => by rw [show _ = [] from h]; simp [Reps]
  | x :: xs, vs, 0, h => by
    obtain ⟨w, r, rfl, h2, h3⟩ := h
    exact h3
  | x :: xs, vs, n + 1, h => by
    obtain ⟨w, r, rfl, h2, h3⟩ := h
    exact ⟨w, r.eraseIdx n, rfl, h2, h3.eraseIdx n⟩
theorem Reps.dropLast {ds : List D} {vs : List V} (h : Reps K ρ H ds vs) : Reps K ρ H ds.dropLast vs.dropLast := by
  rw [List.dropLast_eq_take, List.dropLast_eq_take, h.length]
  exact h.take _
theorem Reps.one {d : D} {v : V} (h : Rep K ρ H d v) : Reps K ρ H [d] [v] := ⟨v, [], rfl, h, rfl⟩
theorem Reps.rep {ds : List D} {vs : List V} (h : Reps K ρ H ds vs) : ∀ k : Nat, Reps K ρ H (List.replicate k ds).flatten (List.replicate k vs).flatten
  | 0 => by simp [Reps]
  | k + 1 => by
    rw [List.replicate_succ, List.replicate_succ, List.flatten_cons, List.flatten_cons]
    exact h.append (Reps.rep h k)
theorem Reps.nil_of {vs : List V} (h : Reps K ρ H [] vs) : vs = [] := h
theorem Reps.cons_of {d : D} {ds : List D} {vs : List V} (h : Reps K ρ H (d :: ds) vs) : ∃ v r, vs = v :: r ∧ Rep K ρ H d v ∧ Reps K ρ H ds r := h
theorem ObR.ext {a : Addr} {o : Ob} (e : Ext ρ H ρ' H') (ha : H' a = H a) (h : ObR K ca ρ H a o) : ObR K ca ρ' H' a o := by
  cases o with
  | lst ds =>
    obtain ⟨vs, h1, h2⟩ := h
    exact ⟨vs, ha.trans h1, Reps.ext e _ _ h2⟩
  | dic kvs =>
    obtain ⟨vs, h1, h2, h3, h4⟩ := h
    exact ⟨vs, ha.trans h1, h2, h3, Reps.ext e _ _ h4⟩
  | ins c fs =>
    obtain ⟨dx, vs, h1, h2, h3⟩ := h
    exact ⟨dx, vs, ha.trans h1, h2, Reps.ext e _ _ h3⟩
end
end Cr
set_option Elab.async false
set_option linter.all false
/-! Cr3: reading, allocating and writing; readings made of evaluator runs. -/
namespace Cr
open PySem L2
section
variable {K : PySem.W.Frag} {ca : Nat → Addr} {ρ ρ' : Lo} {S : Sto} {H H' : Hp}

theorem Rel.at (r : Rel K ca ρ S H) {i : Nat} {a : Addr} (h : ρ.ls[i]? = some a) : ∃ o, S[i]? = some o ∧ ObR K ca ρ H a o := by
  have hi := (List.getElem?_eq_some_iff.mp h).1
  rw [r.ln] at hi
  exact ⟨_, List.getElem?_eq_getElem hi, r.ob i a _ h (List.getElem?_eq_getElem hi)⟩
theorem ObR.ne {a : Addr} {o : Ob} (h : ObR K ca ρ H a o) : H a ≠ none := by
  cases o with
  | lst ds => obtain ⟨vs, h1, _⟩ := h; rw [h1]; exact fun z => nomatch z
  | dic ds => obtain ⟨vs, h1, _⟩ := h; rw [h1]; exact fun z => nomatch z
  | ins c fs => obtain ⟨dx, vs, h1, _⟩ := h; rw [h1]; exact fun z => nomatch z
theorem Rel.notin (r : Rel K ca ρ S H) {p : Addr} (h : H p = none) : ρ.out p := by
  refine ⟨fun q => ?_, fun q => (r.bl p q).2 h⟩
  obtain ⟨i, hi⟩ := List.getElem?_of_mem q
  obtain ⟨o, _, ho⟩ := r.at hi
  exact ho.ne h
theorem Rel.loc (r : Rel K ca ρ S H) {n : Nat} {o : Ob} {v : V} (h : Rep K ρ H (loc n) v) (hs : S[n]? = some o) : ∃ a, v = .ref a ∧ ρ.ls[n]? = some a ∧ ObR K ca ρ H a o := by
  obtain ⟨m, a, e, h1, h2⟩ := h
  have e' : (n : Int) = (m : Int) := by
    have := List.cons.inj e
    have := (Prod.mk.inj this.1).1
    exact PyData.int.inj this
  have e2 : n = m := by omega
  subst e2
  exact ⟨a, h2, h1, r.ob n a o h1 hs⟩
/-- the forms of a location -/
theorem loc_of {kvs : List (D × D)} {v : V} (h : Rep K ρ H (.dict kvs) v) : ∃ n : Nat, (PyData.dict kvs) = loc n := by
  obtain ⟨n, a, h1, _⟩ := h
  exact ⟨n, by rw [h1]; rfl⟩
theorem lv_loc (n : Nat) : lv S (loc n) = (match S[n]? with | some (.lst xs) => .list xs | _ => loc n) := by
  unfold lv loc
  simp only [Int.toNat_natCast]
  all_goals rfl
theorem lvT_loc (n : Nat) : lvT S (loc n) = (match S[n]? with | some (.lst xs) => some xs | _ => none) := by
  unfold lvT loc
  simp only [Int.toNat_natCast]
  all_goals rfl
theorem locOf_loc (n : Nat) : locOf (loc n) = some n := by
  unfold locOf loc
  simp only [Int.toNat_natCast]
theorem lv_ndict {d : D} (h : ∀ kvs, d ≠ .dict kvs) : lv S d = d := by
  cases d with
  | dict kvs => exact absurd rfl (h kvs)
  | _ => rfl
/-- what lv gives, in the heap -/
theorem lv_list (r : Rel K ca ρ S H) {d : D} {v : V} {xs : List D} (h : Rep K ρ H d v) (e : lv S d = .list xs) : ∃ a vs, v = .ref a ∧ RL K H a vs ∧ Reps K ρ H xs vs := by
  cases d with
  | list ys =>
    have e' : PyData.list ys = .list xs := e
    cases e'
    obtain ⟨a, vs, h1, h2, h3⟩ := h
    exact ⟨a, vs, h1, h2.rl, h3⟩
  | dict kvs =>
    obtain ⟨n, en⟩ := loc_of h
    rw [en] at h e
    rw [lv_loc] at e
    cases hs : S[n]? with
    | none => rw [hs] at e; cases e
    | some o =>
      cases o with
      | lst ys =>
        rw [hs] at e
        have e' : PyData.list ys = .list xs := e
        cases e'
        obtain ⟨a, h1, _, vs, h3, h4⟩ := r.loc h hs
        exact ⟨a, vs, h1, .inl (.inl h3), h4⟩
      | _ => rw [hs] at e; cases e
  | _ => cases e
theorem lv_ty {d : D} (e : ∀ xs, lv S d ≠ .list xs) : lv S d = d := by
  unfold lv
  split
  · rename_i n
    split
    · rename_i xs hs
      have := e xs
      unfold lv at this
      simp only [hs] at this
      exact absurd rfl this
    · rfl
  · rfl
theorem lv_of {d e : D} (h : lv S d = e) (hn : ∀ xs, e ≠ .list xs) : d = e := by
  rw [← h]
  exact (lv_ty fun xs z => hn xs (h.symm.trans z)).symm
theorem lvT_list (r : Rel K ca ρ S H) {d : D} {v : V} {xs : List D} (h : Rep K ρ H d v) (e : lvT S d = some xs) : ∃ a vs, v = .ref a ∧ RL K H a vs ∧ Reps K ρ H xs vs := by
  refine lv_list r h ?_
  cases d with
  | list ys => cases e; rfl
  | dict kvs =>
    obtain ⟨n, en⟩ := loc_of h
    rw [en] at e ⊢
    rw [lvT_loc] at e
    rw [lv_loc]
    cases hs : S[n]? with
    | none => rw [hs] at e; cases e
    | some o =>
      cases o with
      | lst ys => rw [hs] at e; cases e; rfl
      | _ => rw [hs] at e; cases e
  | _ => cases e

/-! ### pure data -/
mutual
theorem Rep.dp : ∀ (d : D) (v : V), Rep K ρ H d v → d.canLay0 = true → Dp K H v d
  | .none, v, h, _ => by rw [show v = _ from h]; exact .non
  | .bool b, v, h, _ => by rw [show v = _ from h]; exact .bl b
  | .int i, v, h, _ => by rw [show v = _ from h]; exact .int i
  | .str x, v, h, _ => by rw [show v = _ from h]; exact .str x
  | .tuple xs, v, h, c => by
    obtain ⟨a, vs, rfl, h2, h3⟩ := h
    exact .tup h2.sq (Reps.dp xs vs h3 (by simpa [PyData.canLay0] using c))
  | .list xs, v, h, c => by
    obtain ⟨a, vs, rfl, h2, h3⟩ := h
    exact .lst h2.rl.sq (Reps.dp xs vs h3 (by simpa [PyData.canLay0] using c))
  | .dict kvs, v, h, c => by simp [PyData.canLay0] at c
theorem Reps.dp : ∀ (ds : List D) (vs : List V), Reps K ρ H ds vs → PyData.canLayAll0 ds = true → DpAll K H vs ds
  | [], vs, h, _ => by rw [show vs = _ from h]; exact .nil
  | d :: ds, vs, h, c => by
    obtain ⟨v, r, rfl, h2, h3⟩ := h
    have c' : d.canLay0 = true ∧ PyData.canLayAll0 ds = true := by simpa [PyData.canLayAll0, Bool.and_eq_true] using c
    exact .cons (Rep.dp d v h2 c'.1) (Reps.dp ds r h3 c'.2)
end
theorem Rel.dp (r : Rel K ca ρ S H) {d : D} {v : V} (h : Rep K ρ H d v) (c : plain (lv S d) = true) : Dp K H v (lv S d) ∧ SeqAt.shaped (lv S d) = true := by
  have hc : (lv S d).canLay0 = true := by
    unfold plain at c
    exact (Bool.and_eq_true_iff.mp c).1
  refine ⟨?_, c⟩
  cases e : lv S d with
  | list xs =>
    obtain ⟨a, vs, rfl, h1, h2⟩ := lv_list r h e
    rw [e] at hc
    exact .lst h1.sq (Reps.dp xs vs h2 (by simpa [PyData.canLay0] using hc))
  | _ =>
    have := lv_of e (fun _ z => nomatch z)
    subst this
    rw [e] at hc
    exact Rep.dp _ v h hc

/-! ### new objects -/
theorem Ext.new (ho : HO) {p : Addr} (hp : H p = none) : Ext ρ H ρ (upd H p ho) :=
  ⟨⟨[], by simp, fun _ h => nomatch h⟩, fun a o _ e => by rw [upd_ne (ne_of_none e hp)]; exact e, fun a ha => by
    by_cases q : a = p
    · subst q; exact absurd hp ha
    · rw [upd_ne q]; exact ha⟩
theorem Rel.ext (r : Rel K ca ρ S H) (e : Ext ρ H ρ H') (h : ∀ a ∈ ρ.ls, H' a = H a) : Rel K ca ρ S H' :=
  ⟨r.nd, r.ln, fun i a o h1 h2 => (r.ob i a o h1 h2).ext e (h a (List.mem_of_getElem? h1)), fun b hb => ⟨(r.bl b hb).1, e.som b (r.bl b hb).2⟩⟩
theorem Rel.new (r : Rel K ca ρ S H) (ho : HO) {p : Addr} (hp : H p = none) : Rel K ca ρ S (upd H p ho) :=
  r.ext (.new ho hp) fun a ha => upd_ne fun q => (r.notin hp).1 (q ▸ ha)
theorem rep_newL (r : Rel K ca ρ S H) {p : Addr} (hp : H p = none) {ds : List D} {vs : List V} (h : Reps K ρ H ds vs) : Rep K ρ (upd H p (.lst vs)) (.list ds) (.ref p) :=
  ⟨p, vs, rfl, .inl ⟨r.notin hp, .inl upd_same⟩, Reps.ext (.new _ hp) ds vs h⟩
theorem rep_newT (r : Rel K ca ρ S H) {p : Addr} (hp : H p = none) {ds : List D} {vs : List V} (h : Reps K ρ H ds vs) : Rep K ρ (upd H p (.tup vs)) (.tuple ds) (.ref p) :=
  ⟨p, vs, rfl, .inl ⟨r.notin hp, .inl upd_same⟩, Reps.ext (.new _ hp) ds vs h⟩
/-- a new location -/
theorem Ext.alloc (ho : HO) {p : Addr} (hp : H p = none) : Ext ρ H (ρ.add p) (upd H p ho) :=
  ⟨⟨[p], rfl, fun a h => by rw [List.mem_singleton.mp h]; exact hp⟩, (Ext.new (ρ := ρ) ho hp).old, (Ext.new (ρ := ρ) ho hp).som⟩
theorem Rel.alloc (r : Rel K ca ρ S H) {ho : HO} {o : Ob} {p : Addr} (hp : H p = none) (hob : ObR K ca (ρ.add p) (upd H p ho) p o) : Rel K ca (ρ.add p) (S ++ [o]) (upd H p ho) := by
  refine ⟨?_, by simp [Lo.add, r.ln], fun i a o' h1 h2 => ?_, fun b hb => ?_⟩
  · show (ρ.ls ++ [p]).Nodup
    rw [List.nodup_append]
    exact ⟨r.nd, by simp, fun a ha b hb => by rw [List.mem_singleton.mp hb]; rintro rfl; exact (r.notin hp).1 ha⟩
  · have h1 : (ρ.ls ++ [p])[i]? = some a := h1
    by_cases hi : i < ρ.ls.length
    · rw [List.getElem?_append_left hi] at h1
      rw [List.getElem?_append_left (by rw [← r.ln]; exact hi)] at h2
      exact (r.ob i a o' h1 h2).ext (.alloc ho hp) (upd_ne fun q => (r.notin hp).1 (q ▸ List.mem_of_getElem? h1))
    · have hl := r.ln
      rw [List.getElem?_append_right (by omega)] at h1 h2
      have e0 : i - ρ.ls.length = 0 := by
        cases q : i - ρ.ls.length with
        | zero => rfl
        | succ k => rw [q] at h1; simp at h1
      rw [e0] at h1
      rw [← r.ln, e0] at h2
      simp at h1 h2
      subst h1; subst h2
      exact hob
  · refine ⟨fun q => ?_, (Ext.alloc (ρ := ρ) ho hp).som b (r.bl b hb).2⟩
    rcases List.mem_append.mp q with q | q
    · exact (r.bl b hb).1 q
    · rw [List.mem_singleton.mp q] at hb
      exact (r.bl p hb).2 hp
theorem Rel.allocL (r : Rel K ca ρ S H) {p : Addr} (hp : H p = none) {ds : List D} {vs : List V} (h : Reps K ρ H ds vs) : Rel K ca (ρ.add p) (S ++ [.lst ds]) (upd H p (.lst vs)) :=
  r.alloc hp ⟨vs, upd_same, Reps.ext (.alloc _ hp) ds vs h⟩
theorem Rel.locNew (r : Rel K ca ρ S H) {p : Addr} {H' : Hp} : Rep K (ρ.add p) H' (Cr.loc S.length) (.ref p) :=
  ⟨S.length, p, rfl, by rw [← r.ln]; simp [Lo.add], rfl⟩
/-- an object written -/
theorem Ext.write (ho : HO) {p : Addr} (hp : p ∈ ρ.ls) : Ext ρ H ρ (upd H p ho) :=
  ⟨⟨[], by simp, fun _ h => nomatch h⟩, fun a o ha e => by rw [upd_ne fun q => ha (by rw [q]; exact hp)]; exact e, fun a ha => by
    by_cases q : a = p
    · rw [q, upd_same]; exact fun z => nomatch z
    · rw [upd_ne q]; exact ha⟩
theorem Rel.write (r : Rel K ca ρ S H) {n : Nat} {a : Addr} (ha : ρ.ls[n]? = some a) {ho : HO} {o : Ob} (hob : ObR K ca ρ (upd H a ho) a o) : Rel K ca ρ (S.set n o) (upd H a ho) := by
  refine ⟨r.nd, by simp [r.ln], fun i b o' h1 h2 => ?_, fun b hb => ⟨(r.bl b hb).1, (Ext.write (H := H) ho (List.mem_of_getElem? ha)).som b (r.bl b hb).2⟩⟩
  have hn := (List.getElem?_eq_some_iff.mp ha).1
  by_cases hi : n = i
  · subst hi
    rw [ha] at h1; cases h1
    rw [List.getElem?_set_self (by rw [← r.ln]; exact hn)] at h2
    cases h2
    exact hob
  · rw [List.getElem?_set_ne hi] at h2
    refine (r.ob i b o' h1 h2).ext (.write ho (List.mem_of_getElem? ha)) (upd_ne fun q => ?_)
    subst q
    exact hi ((List.getElem?_inj hn r.nd).mp (ha.trans h1.symm))
theorem Rel.writeL (r : Rel K ca ρ S H) {n : Nat} {a : Addr} (ha : ρ.ls[n]? = some a) {ds : List D} {vs : List V} (h : Reps K ρ H ds vs) : Rel K ca ρ (S.set n (.lst ds)) (upd H a (.lst vs)) :=
  r.write ha ⟨vs, upd_same, Reps.ext (.write _ (List.mem_of_getElem? ha)) ds vs h⟩
end

/-! ### frames, wishes, readings -/
/-- the fixed things of a body: the classes' addresses; how many slots are names; slots for fields of the exception that is handled (its own dict, the field) -/
structure CA where
  ad : Nat → Addr
  nb : Nat
  xs : List (Nat × Addr × Str)
  xe : Option (Nat × Addr)
/-- .. with the written part -/
structure Kx where
  K : PySem.W.Frag
  ca : Nat → Addr
  nb : Nat
  xs : List (Nat × Addr × Str)
  xe : Option (Nat × Addr)
structure FRel (k : Kx) (ρ : Lo) (H : Hp) (s : Fr) (σ : St) : Prop where
  len : σ.length = k.nb
  le : k.nb ≤ s.length
  at_ : ∀ (i : Nat) (d : D), i < k.nb → s[i]? = some (some d) → ∃ v, σ[i]? = some (some v) ∧ Rep k.K ρ H d v
  hid : ∀ p ∈ k.xs, k.nb ≤ p.1 ∧ p.2.1 ∉ ρ.ls ∧ ∃ fs, H p.2.1 = some (.xd fs) ∧ ∀ d, s[p.1]? = some (some d) → ∃ v, fs.lookup p.2.2 = some v ∧ Rep k.K ρ H d v
  ex : ∀ p, k.xe = some p → σ[p.1]? = some (some (.ref p.2))
/-- store, frame and abstract heap fit -/
structure At (k : Kx) (ρ : Lo) (S : Sto) (s : Fr) (σ : St) (H : Hp) : Prop where
  rel : Rel k.K k.ca ρ S H
  fr : FRel k ρ H s σ
/-- an exception of the evaluator, in the heap -/
def Exn (K : PySem.W.Frag) (ca : Nat → Addr) (ρ : Lo) (H : Hp) (c : Nat) (fs : List (Str × D)) (cls : Value) (d : Option Addr) : Prop :=
  cls = .ref (ca c) ∧ ((fs = [] ∧ d = none) ∨ ∃ dx fs', d = some dx ∧ H dx = some (.xd fs') ∧ fs'.map (·.1) = fs.map (·.1) ∧ Reps K ρ H (fs.map (·.2)) (fs'.map (·.2)))
/-- what must follow a run that ends so -/
def post {α β : Type} (k : Kx) (RepA : Lo → Hp → α → β → Prop) (W : WX) (σ : St) (ρ : Lo) (H : Hp) (o : Out α) (Q : β → Hp → Prop) : Prop :=
  match o with
  | .ok d S => ∀ v ρ' H', Ext ρ H ρ' H' → Rel k.K k.ca ρ' S H' → RepA ρ' H' d v → Q v H'
  | .ex c fs S => ∀ ρ' H' cls d, Ext ρ H ρ' H' → Rel k.K k.ca ρ' S H' → Exn k.K k.ca ρ' H' c fs cls d → W cls d σ H'
  | .bad => False
abbrev postE (k : Kx) := post (α := D) (β := V) k (fun ρ H d v => Rep k.K ρ H d v)
abbrev postA (k : Kx) := post (α := List D) (β := List V) k (fun ρ H d v => Reps k.K ρ H d v)
abbrev postB (k : Kx) := post (α := Bool) (β := Bool) k (fun _ _ d v => d = v)
def tE (k : Kx) (W : WX) (m : Fr → Sto → Out D) : TE := fun σ H Q => ∃ ρ S s, At k ρ S s σ H ∧ postE k W σ ρ H (m s S) Q
def tA (k : Kx) (W : WX) (m : Fr → Sto → Out (List D)) : TA := fun σ H Q => ∃ ρ S s, At k ρ S s σ H ∧ postA k W σ ρ H (m s S) Q
def tT (k : Kx) (W : WX) (m : Fr → Sto → Out D) : TT := fun σ H Q => ∃ ρ S s, At k ρ S s σ H ∧ post k (fun _ _ (d : D) (b : Bool) => d = .bool b) W σ ρ H ((m s S).bind asB) Q
section
variable {k : Kx} {W : WX} {σ : St} {ρ ρ' : Lo} {H H' : Hp} {S : Sto} {s : Fr}
theorem FRel.ext (f : FRel k ρ H s σ) (e : Ext ρ H ρ' H') : FRel k ρ' H' s σ := by
  refine ⟨f.len, f.le, fun i d hi h => let ⟨v, h1, h2⟩ := f.at_ i d hi h; ⟨v, h1, Rep.ext e d v h2⟩, fun p hp => ?_, f.ex⟩
  obtain ⟨h1, h2, fs, h3, h4⟩ := f.hid p hp
  refine ⟨h1, fun q => ?_, fs, e.old _ _ h2 h3, fun d hd => ?_⟩
  · obtain ⟨τ, hτ, g⟩ := e.pre
    rw [hτ] at q
    rcases List.mem_append.mp q with q | q
    · exact h2 q
    · rw [g _ q] at h3; cases h3
  · obtain ⟨v, h5, h6⟩ := h4 d hd
    exact ⟨v, h5, Rep.ext e d v h6⟩
theorem At.ext (a : At k ρ S s σ H) (e : Ext ρ H ρ' H') {S' : Sto} (r : Rel k.K k.ca ρ' S' H') : At k ρ' S' s σ H' := ⟨r, a.fr.ext e⟩
theorem post.mono {α β : Type} {RepA : Lo → Hp → α → β → Prop} {o : Out α} {Q Q' : β → Hp → Prop} (h : post k RepA W σ ρ H o Q) (e : Ext ρ H ρ' H') (hQ : ∀ v H, Q v H → Q' v H) : post k RepA W σ ρ' H' o Q' := by
  cases o with
  | ok d S => exact fun v ρ2 H2 e2 r2 p => hQ _ _ (h v ρ2 H2 (e.trans e2) r2 p)
  | ex c fs S => exact fun ρ2 H2 cls d e2 r2 p => h ρ2 H2 cls d (e.trans e2) r2 p
  | bad => exact h
/-- a first part, then the rest -/
theorem post.bind {α β γ δ : Type} {RepA : Lo → Hp → α → β → Prop} {RepC : Lo → Hp → γ → δ → Prop} {o : Out α} {f : α → Sto → Out γ} {Q : δ → Hp → Prop} (h : post k RepC W σ ρ H (o.bind f) Q) :
    post k RepA W σ ρ H o fun x H1 => ∃ d ρ1 S1, Ext ρ H ρ1 H1 ∧ Rel k.K k.ca ρ1 S1 H1 ∧ RepA ρ1 H1 d x ∧ post k RepC W σ ρ1 H1 (f d S1) Q := by
  cases o with
  | ok d S => exact fun v ρ2 H2 e2 r2 p => ⟨d, ρ2, S, e2, r2, p, h.mono e2 fun _ _ q => q⟩
  | ex c fs S => exact h
  | bad => exact h
theorem post.imp {α β : Type} {RepA : Lo → Hp → α → β → Prop} {o : Out α} {Q Q' : β → Hp → Prop} (h : post k RepA W σ ρ H o Q) (hQ : ∀ v H, Q v H → Q' v H) : post k RepA W σ ρ H o Q' := h.mono .refl hQ
/-- one expression is run, the rest follows -/
theorem tE_step {γ δ : Type} {RepC : Lo → Hp → γ → δ → Prop} {m : Fr → Sto → Out D} {f : D → Sto → Out γ} {Q : δ → Hp → Prop} (a : At k ρ S s σ H) (h : post k RepC W σ ρ H ((m s S).bind f) Q) :
    tE k W m σ H fun x H1 => ∃ d ρ1 S1, At k ρ1 S1 s σ H1 ∧ Ext ρ H ρ1 H1 ∧ Rep k.K ρ1 H1 d x ∧ post k RepC W σ ρ1 H1 (f d S1) Q :=
  ⟨ρ, S, s, a, (post.bind h).imp fun x H1 ⟨d, ρ1, S1, e, r, p, q⟩ => ⟨d, ρ1, S1, a.ext e r, e, p, q⟩⟩
theorem tA_step {γ δ : Type} {RepC : Lo → Hp → γ → δ → Prop} {m : Fr → Sto → Out (List D)} {f : List D → Sto → Out γ} {Q : δ → Hp → Prop} (a : At k ρ S s σ H) (h : post k RepC W σ ρ H ((m s S).bind f) Q) :
    tA k W m σ H fun x H1 => ∃ d ρ1 S1, At k ρ1 S1 s σ H1 ∧ Ext ρ H ρ1 H1 ∧ Reps k.K ρ1 H1 d x ∧ post k RepC W σ ρ1 H1 (f d S1) Q :=
  ⟨ρ, S, s, a, (post.bind h).imp fun x H1 ⟨d, ρ1, S1, e, r, p, q⟩ => ⟨d, ρ1, S1, a.ext e r, e, p, q⟩⟩
end
/-! ### weakening -/
theorem PE.imp {X : Cx} {e : Expr} {t t' : TE} (h : PE X e t) (w : ∀ σ H Q, t' σ H Q → t σ H Q) : PE X e t' := ⟨fun pins s σ H Q I q => h.run pins s σ H Q I (w σ H Q q)⟩
theorem PT.imp {X : Cx} {e : Expr} {t t' : TT} (h : PT X e t) (w : ∀ σ H Q, t' σ H Q → t σ H Q) : PT X e t' := ⟨fun pins s σ H Q I q => h.run pins s σ H Q I (w σ H Q q)⟩
theorem PA.imp {X : Cx} {e : List Expr} {t t' : TA} (h : PA X e t) (w : ∀ σ H Q, t' σ H Q → t σ H Q) : PA X e t' := ⟨fun pos pins s σ H Q I q => h.run pos pins s σ H Q I (w σ H Q q)⟩
theorem PS.imp {X : Cx} {e : Stmt} {t t' : TS} (h : PS X e t) (w : ∀ D σ H, t' D σ H → t D σ H) : PS X e t' := ⟨fun pins s σ H D I q => h.run pins s σ H D I (w D σ H q)⟩
theorem PSs.imp {X : Cx} {e : List Stmt} {t t' : TS} (h : PSs X e t) (w : ∀ D σ H, t' D σ H → t D σ H) : PSs X e t' := ⟨fun pins s σ H D I q => h.run pins s σ H D I (w D σ H q)⟩
end Cr
set_option Elab.async false
set_option linter.all false
set_option maxHeartbeats 1000000
/-! Cr4: the operations of the evaluator keep their promise. -/
namespace Cr
open PySem L2 PyProof.Rows
/-- an operation that does not raise has ended -/
def post0 (k : Kx) (ρ : Lo) (H : Hp) (o : Out D) (Q : VK) : Prop :=
  match o with
  | .ok d S => ∀ v ρ' H', Ext ρ H ρ' H' → Rel k.K k.ca ρ' S H' → Rep k.K ρ' H' d v → Q v H'
  | .ex _ _ _ => False
  | .bad => False
def rB (k : Kx) (f : D → D → Sto → Out D) : R2 := fun x y H Q => ∃ ρ S d e, Rel k.K k.ca ρ S H ∧ Rep k.K ρ H d x ∧ Rep k.K ρ H e y ∧ post0 k ρ H (f d e S) Q
def NoEx {α : Type} (o : Out α) : Prop := ∀ c fs S, o ≠ .ex c fs S
theorem post.to0 {k : Kx} {W : WX} {σ : L2.St} {ρ : Lo} {H : Hp} {o : Out D} {Q : VK} (h : postE k W σ ρ H o Q) (n : NoEx o) : post0 k ρ H o Q := by
  cases o with
  | ok d S => exact h
  | ex c fs S => exact absurd rfl (n c fs S)
  | bad => exact h
theorem add_nx (x y : D) (S : Sto) : NoEx (addD x y S) := by unfold addD; (intro c fs S' h; repeat' (first | (cases h; done) | split at h))
theorem mul_nx (x y : D) (S : Sto) : NoEx (mulD x y S) := by unfold mulD; (intro c fs S' h; repeat' (first | (cases h; done) | split at h))
theorem bin_nx (op : Operator) (x y : D) (S : Sto) : NoEx (binD op x y S) := by
  intro c fs S' h
  unfold binD at h
  repeat' (first | exact add_nx _ _ _ _ _ _ h | exact mul_nx _ _ _ _ _ _ h | (cases h; done) | split at h)
theorem cmp_nx (op : CmpOp) (x y : D) (S : Sto) : NoEx (cmpD op x y S) := by
  cases op <;> (unfold cmpD; (intro c fs S' h; repeat' (first | (cases h; done) | split at h)))
theorem idx_nx (x y : D) (S : Sto) : NoEx (idxD x y S) := by unfold idxD; (intro c fs S' h; repeat' (first | (cases h; done) | split at h))
theorem sli_nx (x : D) (l h : Option Int) (S : Sto) : NoEx (sliD x l h S) := by unfold sliD; (intro c fs S' h; repeat' (first | (cases h; done) | split at h))
theorem blt_nx (b : Bi) (xs : List D) (S : Sto) : NoEx (bltD b xs S) := by
  unfold bltD; (intro c fs S' h; repeat' (first | (cases h; done) | split at h)) <;> (first | unfold absD at h | unfold intD at h | unfold strD at h | unfold lenD at h | unfold tupleD at h | unfold listD at h | unfold reprD at h | unfold allD at h | unfold anyD at h | unfold maxD at h | unfold minD at h) <;> repeat' (first | (cases h; done) | split at h)
theorem mth_nx (m : Mt) (x : D) (xs : List D) (S : Sto) : NoEx (mthD m x xs S) := by
  unfold mthD; (intro c fs S' h; repeat' (first | (cases h; done) | split at h)) <;> (first | unfold pop0D at h | unfold appD at h | unfold popAtD at h | unfold joinD at h | unfold swD at h | unfold extD at h | unfold getD2 at h | unfold insD at h) <;> repeat' (first | (cases h; done) | split at h)
theorem mkL_nx (al : Bool) (xs : List D) (S : Sto) : NoEx (mkL al xs S) := by unfold mkL newO; (intro c fs S' h; repeat' (first | (cases h; done) | split at h))
theorem aug_nx (op : Operator) (x y : D) (S : Sto) : NoEx (augD op x y S) := by unfold augD; (intro c fs S' h; repeat' (first | (cases h; done) | split at h))

section
variable {X : Cx} {ca : CA} {pins : List (Addr × Obj)} {σ : L2.St} {H : Hp} {s : Shared} {ρ : Lo} {S : Sto}
abbrev kx (X : Cx) (ca : CA) : Kx := ⟨X.K, ca.ad, ca.nb, ca.xs, ca.xe⟩
theorem RL.obj (I : Inv X pins σ H s) {a : Addr} {vs : List V} (h : RL X.K H a vs) : ∃ (its : List Value) (n : Nat), Vals vs its ∧ s.heap.get? a = some { cls := .type "list", data := .seq its.toArray n } ∧ vs.length ≤ sizeLine := by
  rcases h with h | ⟨its, n, h1, h2, h3⟩
  · obtain ⟨z, its, n, r, e⟩ := h.ok I.hok
    exact ⟨its, n, r, e, z⟩
  · exact ⟨its, n, h3, I.kIn a _ h1, h2⟩
/-- list + list -/
theorem cat_rl : OpR X (binaryOp .Add) (fun x y H Q => ∃ l b xs zs, x = .ref l ∧ y = .ref b ∧ RL X.K H l xs ∧ RL X.K H b zs ∧ xs.length + zs.length ≤ sizeLine ∧ ∀ p, H p = none → Q (.ref p) (upd H p (.lst (xs ++ zs)))) := by
  intro pins s σ H x y v u Q I rx ry h
  obtain ⟨l, b, xs, zs, rfl, rfl, hH, hB, hz, q⟩ := h
  cases rx
  cases ry
  obtain ⟨i1, n1, r1, e1, z1⟩ := RL.obj I hH
  obtain ⟨i2, n2, r2, e2, z2⟩ := RL.obj I hB
  have l1 := r1.length
  have l2 := r2.length
  have ea : i1.toArray ++ i2.toArray = (i1 ++ i2).toArray := by simp
  refine PySem.P.add_list e1 e2 ?_ (by rw [List.size_toArray, List.size_toArray]; omega)
  rw [ea]
  exact ⟨.ref _, _, I.lnew (t' := s.toks) (r1.append r2) (by rw [List.length_append]; omega), rfl, q _ I.fresh⟩
theorem add_ok : OpR X (binaryOp .Add) (rB (kx X ca) addD) := by
  intro pins s σ H x y v u Q I rx ry h
  obtain ⟨ρ, S, d, e, r, p1, p2, h⟩ := h
  unfold addD at h
  split at h
  · rename_i i j
    obtain rfl : x = _ := p1
    obtain rfl : y = _ := p2
    exact op_add pins s σ H _ _ v u Q I rx ry ⟨i, j, rfl, rfl, h _ ρ H .refl r rfl⟩
  · rename_i a b
    obtain rfl : x = _ := p1
    obtain rfl : y = _ := p2
    split at h
    · rename_i hz
      exact op_add_str pins s σ H _ _ v u Q I rx ry ⟨a, b, rfl, rfl, hz, h _ ρ H .refl r rfl⟩
    · exact h.elim
  · rename_i a b
    obtain ⟨c1, vs1, rfl, t1, q1⟩ := p1
    obtain ⟨c2, vs2, rfl, t2, q2⟩ := p2
    split at h
    · rename_i hz
      refine op_catA pins s σ H _ _ v u Q I rx ry ⟨c1, c2, vs1, vs2, rfl, rfl, t1.sq, t2.sq, by rw [q1.length, q2.length]; exact hz, fun e1 => ?_, fun e1 e2 => ?_, fun e1 e2 p hp => ?_⟩
      · have : a = [] := List.length_eq_zero_iff.mp (by rw [← q1.length, e1]; rfl)
        subst this
        exact h _ ρ H .refl r ⟨c2, vs2, rfl, t2, by simpa using q2⟩
      · have : b = [] := List.length_eq_zero_iff.mp (by rw [← q2.length, e2]; rfl)
        subst this
        exact h _ ρ H .refl r ⟨c1, vs1, rfl, t1, by simpa using q1⟩
      · exact h _ ρ _ (.new _ hp) (r.new _ hp) (rep_newT r hp (q1.append q2))
    · exact h.elim
  · split at h
    · rename_i a b ea eb
      split at h
      · rename_i hz
        obtain ⟨c1, vs1, rfl, t1, q1⟩ := lvT_list r p1 ea
        obtain ⟨c2, vs2, rfl, t2, q2⟩ := lvT_list r p2 eb
        refine cat_rl pins s σ H _ _ v u Q I rx ry ⟨c1, c2, vs1, vs2, rfl, rfl, t1, t2, by rw [q1.length, q2.length]; exact hz, fun p hp => ?_⟩
        exact h _ ρ _ (.new _ hp) (r.new _ hp) (rep_newL r hp (q1.append q2))
      · exact h.elim
    · exact h.elim
/-- list * int -/
theorem rep_rl : OpR X (binaryOp .Mult) (fun x y H Q => ∃ l k xs, x = .ref l ∧ y = .int k ∧ RL X.K H l xs ∧ -(2 ^ 63) ≤ k ∧ k < 2 ^ 63 ∧ xs.length * k.toNat ≤ sizeLine ∧ ∀ p, H p = none → Q (.ref p) (upd H p (.lst (List.replicate k.toNat xs).flatten))) := by
  intro pins s σ H x y v u Q I rx ry h
  obtain ⟨l, k, xs, rfl, rfl, hH, h1, h2, hz, q⟩ := h
  cases rx
  obtain ⟨t, rfl⟩ := ry
  obtain ⟨its, n, r, e, z⟩ := RL.obj I hH
  have hl := r.length
  have c1 : its.toArray.size * k.toNat ≤ sizeLine := by rw [List.size_toArray, ← hl]; exact hz
  have c2 : ¬ its.toArray.size * k.toNat > (2 ^ 63 - 1) / 8 := fun q => by
    have h3 : (sizeLine : Nat) ≤ (2 ^ 63 - 1) / 8 := by decide
    omega
  have c3 : ¬ (!Builtin.List.listFitsIndex k) = true := by rw [fitsIndex_both h1 h2]; decide
  have c4 : ¬ Builtin.List.listTooLong (its.toArray.size * k.toNat) = true := by rw [notLongL c1]; decide
  have c5 : ∀ m : Nat, List.foldl (fun x1 x2 => x1 ++ x2) #[] (List.replicate m its.toArray) = (List.replicate m its).flatten.toArray := fun m => by
    have h3 := foldl_rep its m []
    rwa [List.nil_append] at h3
  have c6 : List.foldl (fun x1 x2 => x1 ++ x2) #[] (List.replicate (if its.toArray.isEmpty = true then 0 else k.toNat) its.toArray) = (List.replicate k.toNat its).flatten.toArray := by
    rw [c5]
    cases its with
    | nil => simp
    | cons a r' => simp
  refine wpAny_binaryOp_repeat_ref (T := "list") (U := "int") (by decide) ⟨_, e, rfl⟩ (fun s' => typeIs_int s' k t) noFill_list_mul F.fills_int_mul F.slot_int_rmul repeat_list F.slot_int_index.lookup
    (call_meets F.slot_int_rmul (typeIs_int s k t) F.entry_int_rmul (F.args_int_rmul_2 _ _) (int___rmul___int_list k t l its.toArray n) ⟨e, rfl, ⟨_, e, rfl⟩, ?_⟩)
  refine call_meets F.slot_list_mul ⟨_, e, rfl⟩ F.entry_list_mul (F.args_list_mul_2 _ _) (AutoListH.list___mul___list_int_3 l its.toArray n k t c3 c2 c4) ⟨e, ?_⟩
  rw [c6]
  exact ⟨.ref _, _, I.lnew (t' := s.toks) (r.rep k.toNat) (by rw [PyProof.Rows.lm_len_rep_flat, Nat.mul_comm]; exact hz), rfl, q _ I.fresh⟩

theorem repS_eq (k : Int) (x : Str) : (⟨(List.replicate k.toNat x.cps).foldl (· ++ ·) #[]⟩ : Str) = repS k x := by
  unfold repS
  congr 1
  have h : ∀ (m : Nat) (acc : Array Nat), (List.replicate m x.cps).foldl (· ++ ·) acc = acc ++ ((List.replicate m x.cps.toList).flatten).toArray := by
    intro m
    induction m with
    | zero => intro acc; simp
    | succ m ih =>
      intro acc
      rw [List.replicate_succ, List.foldl_cons, ih, List.replicate_succ, List.flatten_cons]
      apply Array.toList_inj.mp
      simp [List.append_assoc]
  rw [h]
  simp
theorem repS_small {k : Int} (x : Str) (h : k < 1) : repS k x = Str.empty := by
  unfold repS
  have : k.toNat = 0 := by omega
  rw [this]
  rfl
theorem repS_one {k : Int} {x : Str} (h : (k == 1 || x.length == 0) = true) : repS k x = x := by
  apply Str.ext'
  apply Array.toList_inj.mp
  unfold repS
  rcases Bool.or_eq_true_iff.mp h with q | q
  · have : k = 1 := by simpa using q
    subst this
    show (List.replicate 1 x.cps.toList).flatten.toArray.toList = _
    simp
  · have e : x.cps.toList = [] := by
      apply List.length_eq_zero_iff.mp
      have : x.cps.size = 0 := by simpa [Str.length] using q
      simpa using this
    rw [e]
    simp
theorem mul_strR : OpR X (binaryOp .Mult) (fun x y H Q => ∃ a k, x = .str a ∧ y = .int k ∧ 0 ≤ k ∧ k ≤ 1000 ∧ a.length ≤ 1000 ∧ Q (.str (repS k a)) H) := by
  intro pins s σ H x y v u Q I rx ry h
  obtain ⟨a, k, rfl, rfl, h0, h1, h2, q⟩ := h
  obtain ⟨t, rfl⟩ := rx
  obtain ⟨t', rfl⟩ := ry
  have e1 : decide (k < -(2 ^ 63 : Int)) = false := decide_eq_false (by omega)
  have e2 : decide (k ≥ 2 ^ 63) = false := decide_eq_false (by omega)
  refine PySem.P.mul_str (by rw [e1, e2]; rfl) (fun g1 g2 z => ?_) (fun g1 g2 => ?_) ?_
  · have g3 : (0 : Int) < k := by omega
    have g4 : (2 ^ 63 - 1) / 1000 ≤ ((2 : Int) ^ 63 - 1) / k := by
      apply (Int.le_ediv_iff_mul_le g3).mpr
      have g5 : (2 ^ 63 - 1 : Int) / 1000 * k ≤ (2 ^ 63 - 1 : Int) / 1000 * 1000 := Int.mul_le_mul_of_nonneg_left h1 (by decide)
      omega
    omega
  · unfold Builtin.Str.tooLong
    apply decide_eq_false
    have g3 : a.length * k.toNat ≤ 1000 * 1000 := Nat.mul_le_mul h2 (by omega)
    have g4 := sizeLine_eq
    omega
  · split
    · rename_i g
      rw [repS_small a g] at q
      exact ⟨by decide, .str Str.empty, H, I.tok _, ⟨_, rfl⟩, q⟩
    · split
      · rename_i g
        rw [repS_one g] at q
        exact ⟨.str a, H, I, ⟨t, rfl⟩, q⟩
      · rw [repS_eq]
        refine ⟨?_, .str _, H, I.tok _, ⟨_, rfl⟩, q⟩
        have g3 : a.length * k.toNat ≤ 1000 * 1000 := Nat.mul_le_mul h2 (by omega)
        have g4 : (repS k a).length = k.toNat * a.length := by
          unfold repS Str.length
          simp
        have g5 := sizeLine_eq
        rw [g4, Nat.mul_comm]
        omega
end
end Cr
set_option Elab.async false
set_option linter.all false
set_option maxHeartbeats 1000000
/-! Cr5: operators, comparisons, subscripts, built-in functions and methods of the evaluator keep their promise. -/
namespace Cr
open PySem L2 PyProof.Rows
section
variable {X : Cx} {ca : CA} {pins : List (Addr × Obj)} {σ : L2.St} {H : Hp} {s : Shared} {ρ : Lo} {S : Sto}
theorem key_rep {d : D} {k : Key} {v : V} (e : keyOf d = some k) (h : Rep X.K ρ H d v) : v = kV k := by
  cases d with
  | int i => cases e; exact h
  | str x => cases e; exact h
  | _ => cases e
theorem getK_rep : ∀ {kvs : List (Key × D)} {kvs' : List (Key × V)}, kvs'.map (·.1) = kvs.map (·.1) → Reps X.K ρ H (kvs.map (·.2)) (kvs'.map (·.2)) → ∀ {k : Key},
    (∀ {d : D}, getK kvs k = some d → ∃ v, valV kvs' k = some v ∧ Rep X.K ρ H d v) ∧ (getK kvs k = none → valV kvs' k = none)
  | [], [], _, _, k => ⟨(fun e => by cases e), fun _ => rfl⟩
  | [], p :: r, e, _, k => by cases e
  | p :: r, [], e, _, k => by cases e
  | p :: r, q :: t, e, h, k => by
    have e' := List.cons.inj e
    obtain ⟨v, w, e2, h2, h3⟩ := h
    have e2' := List.cons.inj e2
    have ih := getK_rep (k := k) e'.2 (by rw [e2'.2]; exact h3)
    have hk : q.1 = p.1 := e'.1
    by_cases c : p.1 = k
    · have c' : q.1 = k := hk.trans c
      refine ⟨fun {d} g => ⟨q.2, L2.valV_pos c', ?_⟩, fun g => ?_⟩
      · have : getK (p :: r) k = some p.2 := by simp [getK, List.find?_cons, c]
        rw [this] at g; cases g
        have e3 : q.2 = v := e2'.1
        rw [e3]; exact h2
      · have : getK (p :: r) k = some p.2 := by simp [getK, List.find?_cons, c]
        rw [this] at g; cases g
    · have c' : ¬ q.1 = k := fun z => c (hk.symm.trans z)
      have : getK (p :: r) k = getK r k := by simp [getK, List.find?_cons, c]
      rw [this, L2.valV_neg c']
      exact ih
theorem dicOf_rep (r : Rel X.K ca.ad ρ S H) {d : D} {v : V} {kvs : List (Key × D)} (e : dicOf S d = some kvs) (h : Rep X.K ρ H d v) :
    ∃ n a kvs', d = Cr.loc n ∧ S[n]? = some (.dic kvs) ∧ ρ.ls[n]? = some a ∧ v = .ref a ∧ H a = some (.dK kvs') ∧ kvs'.map (·.1) = kvs.map (·.1) ∧ (kvs.map (·.1)).Nodup ∧ Reps X.K ρ H (kvs.map (·.2)) (kvs'.map (·.2)) := by
  cases d with
  | dict ks =>
    obtain ⟨n, en⟩ := loc_of h
    rw [en] at e h ⊢
    unfold dicOf Cr.loc at e
    simp only [Int.toNat_natCast] at e
    cases hs : S[n]? with
    | none => rw [hs] at e; cases e
    | some o =>
      cases o with
      | dic ks' =>
        rw [hs] at e
        cases e
        obtain ⟨a, h1, h2, kvs', h3, h4, h5, h6⟩ := r.loc h hs
        exact ⟨n, a, kvs', rfl, hs, h2, h1, h3, h4, h5, h6⟩
      | _ => rw [hs] at e; cases e
  | _ => cases e
theorem mul_ok : OpR X (binaryOp .Mult) (rB (kx X ca) mulD) := by
  intro pins s σ H x y v u Q I rx ry h
  obtain ⟨ρ, S, d, e, r, p1, p2, h⟩ := h
  unfold mulD at h
  split at h
  · rename_i i j
    obtain rfl : x = _ := p1
    obtain rfl : y = _ := p2
    split at h
    · rename_i hz
      exact op_mulW pins s σ H _ _ v u Q I rx ry ⟨i, j, rfl, rfl, hz, h _ ρ H .refl r rfl⟩
    · exact h.elim
  · rename_i a b
    obtain rfl : x = _ := p1
    obtain rfl : y = _ := p2
    split at h
    · rename_i hz
      exact mul_strR pins s σ H _ _ v u Q I rx ry ⟨a, b, rfl, rfl, hz.1, hz.2.1, hz.2.2, h _ ρ H .refl r rfl⟩
    · exact h.elim
  · rename_i a k
    obtain ⟨c1, vs1, rfl, t1, q1⟩ := p1
    obtain rfl : y = _ := p2
    split at h
    · rename_i hz
      obtain ⟨z1, z2, z3, z4⟩ := hz
      refine op_repT pins s σ H _ _ v u Q I rx ry ⟨c1, k, vs1, rfl, rfl, t1.sq, fun e1 => z1 ?_, z2, z3, by rw [q1.length]; exact z4, fun p hp => ?_⟩
      · exact List.length_eq_zero_iff.mp (by rw [← q1.length, e1]; rfl)
      · exact h _ ρ _ (.new _ hp) (r.new _ hp) (rep_newT r hp (q1.rep _))
    · exact h.elim
  · rename_i k _ _ _
    split at h
    · rename_i a ea
      split at h
      · rename_i hz
        obtain ⟨c1, vs1, rfl, t1, q1⟩ := lvT_list r p1 ea
        obtain rfl : y = _ := p2
        refine rep_rl pins s σ H _ _ v u Q I rx ry ⟨c1, k, vs1, rfl, rfl, t1, hz.1, hz.2.1, by rw [q1.length]; exact hz.2.2, fun p hp => ?_⟩
        exact h _ ρ _ (.new _ hp) (r.new _ hp) (rep_newL r hp (q1.rep _))
      · exact h.elim
    · exact h.elim
  · exact h.elim
theorem fdiv_wide : OpR X (binaryOp .FloorDiv) (rI (fun _ j => j ≠ 0 ∧ j.natAbs.log2 < 9000) fun i j => .int (i.fdiv j)) :=
  opI fun _ _ _ _ _ _ _ hc q => floordiv_int hc.1 q (.inl (PyProof.noPylong_of_log2 hc.2))
theorem bin_ok (op : Operator) : OpR X (binaryOp op) (rB (kx X ca) (binD op)) := by
  intro pins s σ H x y v u Q I rx ry h
  obtain ⟨ρ, S, d, e, r, p1, p2, h⟩ := h
  unfold binD at h
  split at h
  · exact add_ok pins s σ H x y v u Q I rx ry ⟨ρ, S, d, e, r, p1, p2, h⟩
  · exact mul_ok pins s σ H x y v u Q I rx ry ⟨ρ, S, d, e, r, p1, p2, h⟩
  · split at h
    · rename_i i j
      obtain rfl : x = _ := p1
      obtain rfl : y = _ := p2
      exact op_sub pins s σ H _ _ v u Q I rx ry ⟨i, j, rfl, rfl, h _ ρ H .refl r rfl⟩
    · exact h.elim
  · split at h
    · rename_i i j
      obtain rfl : x = _ := p1
      obtain rfl : y = _ := p2
      split at h
      · rename_i hz
        exact fdiv_wide pins s σ H _ _ v u Q I rx ry ⟨i, j, rfl, rfl, hz, h _ ρ H .refl r rfl⟩
      · exact h.elim
    · exact h.elim
  · split at h
    · rename_i i j
      obtain rfl : x = _ := p1
      obtain rfl : y = _ := p2
      split at h
      · rename_i hz
        exact op_modN pins s σ H _ _ v u Q I rx ry ⟨i, j, rfl, rfl, hz, h _ ρ H .refl r rfl⟩
      · exact h.elim
    · exact h.elim
  · split at h
    · rename_i i j
      obtain rfl : x = _ := p1
      obtain rfl : y = _ := p2
      split at h
      · rename_i hz
        exact op_pow pins s σ H _ _ v u Q I rx ry ⟨i, j, rfl, rfl, hz, h _ ρ H .refl r rfl⟩
      · exact h.elim
    · exact h.elim
  · exact h.elim

/-! ### comparisons -/
theorem plain_nl {d : D} (h : plain d = true) : lv S d = d := lv_ndict fun kvs e => by
  subst e
  unfold plain at h
  simp [PyData.canLay0] at h
theorem Rel.dp' (r : Rel X.K ca.ad ρ S H) {d : D} {v : V} (h : Rep X.K ρ H d v) (c : plain d = true) : Dp X.K H v d ∧ SeqAt.shaped d = true := by
  have e := plain_nl (S := S) c
  have q := r.dp h (by rw [e]; exact c)
  rw [e] at q
  exact q
theorem reads_of (I : Inv X pins σ H s) (r : Rel X.K ca.ad ρ S H) {d : D} {v : V} {u : Value} (h : Rep X.K ρ H d v) (c : plain (lv S d) = true) (ru : RelV v u) : ∃ as, Reads s.heap u (lv S d) as :=
  Dp.reads I _ _ _ (r.dp h c).1 ru
theorem depth_plain {d : D} (h : plain d = true) : d.canLay0 = true ∧ d.depth ≤ 64 := by
  unfold plain at h
  have := Bool.and_eq_true_iff.mp h
  exact ⟨this.1, of_decide_eq_true this.2⟩
theorem isNon_ne {d : D} (h : isNon d = false) : d ≠ .none := fun e => by subst e; exact absurd h (by decide)
/-- < > <= >= -/
theorem ord_go {op : CmpOp} {g : D → D → Bool} (hu : X.A.units + 100 < cLine)
    (rule : ∀ (s : Shared) (a b : Value) (da db : PyData) (as bs : List Addr) (Q : Value → Shared → Prop), Reads s.heap a da as → Reads s.heap b db bs → PySem.W.alike da db = true → da ≠ .none → X.A.units + min da.depth db.depth < cLine → Q (.bool (g da db)) s →
      wpAny (model X.prog X.w) X.A (compareOp op a b) Q X.xe s)
    {x y : V} {v u : Value} {Q : VK} (I : Inv X pins σ H s) (rx : RelV x v) (ry : RelV y u) {d e : D} (r : Rel X.K ca.ad ρ S H) (p1 : Rep X.K ρ H d x) (p2 : Rep X.K ρ H e y)
    (h : post0 (kx X ca) ρ H (if plain d = true ∧ plain e = true ∧ PySem.W.alike d e = true ∧ isNon d = false then .ok (.bool (g d e)) S else .bad) Q) :
    wpAny (model X.prog X.w) X.A (compareOp op v u) (EP X pins σ Q) X.xe s := by
  split at h
  · rename_i c
    obtain ⟨c1, c2, c3, c4⟩ := c
    obtain ⟨as, r1⟩ := Dp.reads I _ _ _ (r.dp' p1 c1).1 rx
    obtain ⟨bs, r2⟩ := Dp.reads I _ _ _ (r.dp' p2 c2).1 ry
    refine rule s v u d e as bs _ r1 r2 c3 (isNon_ne c4) ?_ ⟨.bl _, H, I, rfl, h _ ρ H .refl r rfl⟩
    have z1 := (depth_plain c1).2
    have z2 : min d.depth e.depth ≤ d.depth := Nat.min_le_left _ _
    omega
  · exact h.elim
/-- in a list, a tuple -/
theorem in_go (hu : X.A.units + 100 < cLine) (neg : Bool) {x y : V} {v u : Value} {Q : VK} (I : Inv X pins σ H s) (rx : RelV x v) (ry : RelV y u) {d e : D} (r : Rel X.K ca.ad ρ S H) (p1 : Rep X.K ρ H d x) (p2 : Rep X.K ρ H e y)
    {ys : List D} (he : lv S e = .list ys ∨ lv S e = .tuple ys) (c1 : plain (lv S e) = true) (c2 : plain d = true) (q : Q (.bl (if neg = true then !inD d ys else inD d ys)) H) :
    wpAny (model X.prog X.w) X.A (compareOp (if neg = true then .NotIn else .In) v u) (EP X pins σ Q) X.xe s := by
  obtain ⟨as, r1⟩ := Dp.reads I _ _ _ (r.dp' p1 c2).1 rx
  obtain ⟨bs, r2⟩ := reads_of I r p2 c1 ry
  have z0 := depth_plain c1
  have z1 := (depth_plain c2).2
  have z2 : min (PyData.depthAll ys) d.depth ≤ d.depth := Nat.min_le_right _ _
  rcases he with he | he
  · rw [he] at r2 z0
    have hl : PyData.canLayAll0 ys = true := by simpa [PyData.canLay0] using z0.1
    cases neg with
    | false => exact SeqAt.in_list_reads r2 r1 hl (depth_plain c2).1 (by omega) ⟨.bl _, H, I, rfl, q⟩
    | true => exact SeqAt.notIn_list_reads r2 r1 hl (depth_plain c2).1 (by omega) ⟨.bl _, H, I, rfl, q⟩
  · rw [he] at r2 z0
    have hl : PyData.canLayAll0 ys = true := by simpa [PyData.canLay0] using z0.1
    cases neg with
    | false => exact SeqAt.in_tuple_reads r2 r1 hl (depth_plain c2).1 (by omega) ⟨.bl _, H, I, rfl, q⟩
    | true => exact SeqAt.notIn_tuple_reads r2 r1 hl (depth_plain c2).1 (by omega) ⟨.bl _, H, I, rfl, q⟩
theorem non_or {d : D} {x : V} (h : Rep X.K ρ H d x) : (d = .none ∧ x = .non) ∨ (d ≠ .none ∧ x ≠ .non) := by
  cases d with
  | none => exact .inl ⟨rfl, h⟩
  | bool b => exact .inr ⟨(fun z => nomatch z), by rw [show x = _ from h]; exact (fun z => nomatch z)⟩
  | int b => exact .inr ⟨(fun z => nomatch z), by rw [show x = _ from h]; exact (fun z => nomatch z)⟩
  | str b => exact .inr ⟨(fun z => nomatch z), by rw [show x = _ from h]; exact (fun z => nomatch z)⟩
  | tuple b => obtain ⟨a, vs, rfl, _⟩ := h; exact .inr ⟨(fun z => nomatch z), (fun z => nomatch z)⟩
  | list b => obtain ⟨a, vs, rfl, _⟩ := h; exact .inr ⟨(fun z => nomatch z), (fun z => nomatch z)⟩
  | dict b => obtain ⟨n, a, _, _, rfl⟩ := h; exact .inr ⟨(fun z => nomatch z), (fun z => nomatch z)⟩
theorem not_bl {K : PySem.W.Frag} {ρ : Lo} {H : Hp} {d : D} {x : V} {v : Value} {b : Bool} (h : Rep K ρ H d x) (hb : ∀ c, d ≠ .bool c) (rx : RelV x v) : plainIs v (.bool b) = true ∧ v ≠ .bool b := by
  cases d with
  | none => obtain rfl : x = _ := h; obtain rfl : v = _ := rx; exact ⟨rfl, fun z => by cases z⟩
  | bool c => exact absurd rfl (hb c)
  | int c => obtain rfl : x = _ := h; obtain ⟨t, rfl⟩ := rx; exact ⟨rfl, fun z => by cases z⟩
  | str c => obtain rfl : x = _ := h; obtain ⟨t, rfl⟩ := rx; exact ⟨rfl, fun z => by cases z⟩
  | tuple c => obtain ⟨a, vs, rfl, _⟩ := h; obtain rfl : v = _ := rx; exact ⟨rfl, fun z => by cases z⟩
  | list c => obtain ⟨a, vs, rfl, _⟩ := h; obtain rfl : v = _ := rx; exact ⟨rfl, fun z => by cases z⟩
  | dict c => obtain ⟨n, a, _, _, rfl⟩ := h; obtain rfl : v = _ := rx; exact ⟨rfl, fun z => by cases z⟩
theorem cmp_ok (hu : X.A.units + 100 < cLine) (op : CmpOp) : OpR X (compareOp op) (rB (kx X ca) (cmpD op)) := by
  intro pins s σ H x y v u Q I rx ry h
  obtain ⟨ρ, S, d, e, r, p1, p2, h⟩ := h
  cases op with
  | Eq =>
    dsimp only [cmpD] at h
    split at h
    · rename_i c
      have a1 := r.dp p1 c.1
      have a2 := r.dp p2 c.2
      exact op_eqD (by omega) pins s σ H x y v u Q I rx ry ⟨_, _, a1.1, a2.1, a1.2, a2.2, h _ ρ H .refl r rfl⟩
    · exact h.elim
  | NotEq =>
    dsimp only [cmpD] at h
    split at h
    · rename_i c
      have a1 := r.dp p1 c.1
      have a2 := r.dp p2 c.2
      exact op_neD (by omega) pins s σ H x y v u Q I rx ry ⟨_, _, a1.1, a2.1, a1.2, a2.2, h _ ρ H .refl r rfl⟩
    · exact h.elim
  | Lt => exact ord_go (g := fun a b => PySem.W.dataLt a b) hu (fun s a b da db as bs Q r1 r2 h1 h2 h3 q => PySem.W.lt_data r1 r2 h1 h2 h3 q) I rx ry r p1 p2 h
  | Gt => exact ord_go (g := fun a b => PySem.W.dataLt b a) hu (fun s a b da db as bs Q r1 r2 h1 h2 h3 q => PySem.W.gt_data r1 r2 h1 h2 h3 q) I rx ry r p1 p2 h
  | LtE => exact ord_go (g := fun a b => !PySem.W.dataLt b a) hu (fun s a b da db as bs Q r1 r2 h1 h2 h3 q => PySem.W.le_data r1 r2 h1 h2 h3 q) I rx ry r p1 p2 h
  | GtE => exact ord_go (g := fun a b => !PySem.W.dataLt a b) hu (fun s a b da db as bs Q r1 r2 h1 h2 h3 q => PySem.W.ge_data r1 r2 h1 h2 h3 q) I rx ry r p1 p2 h
  | Is =>
    dsimp only [cmpD] at h
    split at h
    · obtain rfl : y = _ := p2
      rcases non_or p1 with ⟨rfl, rfl⟩ | ⟨h1, h2⟩
      · exact op_isN pins s σ H _ _ v u Q I rx ry ⟨rfl, h _ ρ H .refl r rfl⟩
      · refine op_isN pins s σ H _ _ v u Q I rx ry ⟨rfl, ?_⟩
        rw [decide_eq_false h2]
        split at h
        · exact absurd rfl h1
        · exact h _ ρ H .refl r rfl
    · obtain rfl : y = _ := p2
      split at h
      · obtain rfl : x = _ := p1
        exact op_isBl pins s σ H _ _ v u Q I rx ry ⟨_, _, rfl, rfl, h _ ρ H .refl r rfl⟩
      · rename_i hb
        obtain ⟨q1, q2⟩ := not_bl (b := _) p1 hb rx
        obtain rfl : u = _ := ry
        exact wpAny_is_other q1 q2 ⟨.bl false, H, I, rfl, h _ ρ H .refl r rfl⟩
    · exact h.elim
  | IsNot =>
    dsimp only [cmpD] at h
    split at h
    · obtain rfl : y = _ := p2
      rcases non_or p1 with ⟨rfl, rfl⟩ | ⟨h1, h2⟩
      · exact op_notN pins s σ H _ _ v u Q I rx ry ⟨rfl, h _ ρ H .refl r rfl⟩
      · refine op_notN pins s σ H _ _ v u Q I rx ry ⟨rfl, ?_⟩
        rw [decide_eq_false h2]
        split at h
        · exact absurd rfl h1
        · exact h _ ρ H .refl r rfl
    · obtain rfl : y = _ := p2
      split at h
      · obtain rfl : x = _ := p1
        exact op_notBl pins s σ H _ _ v u Q I rx ry ⟨_, _, rfl, rfl, h _ ρ H .refl r rfl⟩
      · rename_i hb
        obtain ⟨q1, q2⟩ := not_bl (b := _) p1 hb rx
        obtain rfl : u = _ := ry
        exact wpAny_isNot_other q1 q2 ⟨.bl true, H, I, rfl, h _ ρ H .refl r rfl⟩
    · exact h.elim
  | In =>
    dsimp only [cmpD] at h
    split at h
    · rename_i kvs hk
      split at h
      · rename_i key k1
        obtain ⟨n, a, kvs', rfl, _, _, rfl, g1, g2, _, g4⟩ := dicOf_rep r hk p2
        cases ry
        have g : DGet H a x (valV kvs' key) := by
          rw [key_rep k1 p1]
          exact DGet.k g1
        have ev : (valV kvs' key).isSome = (getK kvs key).isSome := by
          have q := getK_rep (k := key) g2 g4
          cases e : getK kvs key with
          | none => rw [q.2 e]; rfl
          | some d => obtain ⟨z, z1, _⟩ := q.1 e; rw [z1]; rfl
        exact d_in (by omega) I g rx fun s3 I3 => ⟨.bl _, H, I3, rfl, h _ ρ H .refl r (by rw [ev]; rfl)⟩
      · exact h.elim
    split at h
    · rename_i ys he
      split at h
      · rename_i c
        exact in_go hu false I rx ry r p1 p2 (.inl he) (by rw [he]; exact c.1) c.2 (h _ ρ H .refl r rfl)
      · exact h.elim
    · rename_i ys he
      split at h
      · rename_i c
        exact in_go hu false I rx ry r p1 p2 (.inr he) (by rw [he]; exact c.1) c.2 (h _ ρ H .refl r rfl)
      · exact h.elim
    · rename_i b he
      obtain rfl := lv_of he (fun _ z => nomatch z)
      obtain rfl : y = _ := p2
      split at h
      · obtain rfl : x = _ := p1
        exact op_in_str pins s σ H _ _ v u Q I rx ry ⟨_, _, rfl, rfl, h _ ρ H .refl r rfl⟩
      · exact h.elim
    · exact h.elim
  | NotIn =>
    dsimp only [cmpD] at h
    split at h
    · rename_i kvs hk
      split at h
      · rename_i key k1
        obtain ⟨n, a, kvs', rfl, _, _, rfl, g1, g2, _, g4⟩ := dicOf_rep r hk p2
        cases ry
        have g : DGet H a x (valV kvs' key) := by
          rw [key_rep k1 p1]
          exact DGet.k g1
        have ev : (valV kvs' key).isSome = (getK kvs key).isSome := by
          have q := getK_rep (k := key) g2 g4
          cases e : getK kvs key with
          | none => rw [q.2 e]; rfl
          | some d => obtain ⟨z, z1, _⟩ := q.1 e; rw [z1]; rfl
        exact d_notIn (by omega) I g rx fun s3 I3 => ⟨.bl _, H, I3, rfl, h _ ρ H .refl r (by rw [ev]; rfl)⟩
      · exact h.elim
    split at h
    · rename_i ys he
      split at h
      · rename_i c
        exact in_go hu true I rx ry r p1 p2 (.inl he) (by rw [he]; exact c.1) c.2 (h _ ρ H .refl r rfl)
      · exact h.elim
    · rename_i ys he
      split at h
      · rename_i c
        exact in_go hu true I rx ry r p1 p2 (.inr he) (by rw [he]; exact c.1) c.2 (h _ ρ H .refl r rfl)
      · exact h.elim
    · rename_i b he
      obtain rfl := lv_of he (fun _ z => nomatch z)
      obtain rfl : y = _ := p2
      split at h
      · obtain rfl : x = _ := p1
        exact L2.op_notIn_str pins s σ H _ _ v u Q I rx ry ⟨_, _, rfl, rfl, h _ ρ H .refl r rfl⟩
      · exact h.elim
    · exact h.elim
end
end Cr
set_option Elab.async false
set_option linter.all false
set_option maxHeartbeats 1000000
/-! Cr6: subscripts, slices, built-in functions and methods. -/
namespace Cr
open PySem L2 PyProof.Rows
section
variable {X : Cx} {ca : CA} {pins : List (Addr × Obj)} {σ : L2.St} {H : Hp} {s : Shared} {ρ : Lo} {S : Sto}
theorem idx_ok (hu : X.A.units + 100 < cLine) : IxR X (rB (kx X ca) idxD) := by
  intro value slice pins s σ H x y v u Q I rx ry h hs
  obtain ⟨ρ, S, d, e, r, p1, p2, h⟩ := h
  unfold idxD at h
  split at h
  · rename_i kvs hk
    split at h
    · rename_i w hw
      obtain ⟨n, a, kvs', rfl, _, _, rfl, g1, g2, _, g4⟩ := dicOf_rep r hk p1
      cases rx
      obtain ⟨key, k1, k2⟩ := Option.bind_eq_some_iff.mp hw
      obtain ⟨z, z1, z2⟩ := (getK_rep g2 g4).1 k2
      have g : DGet H a y (some z) := by
        rw [key_rep k1 p2, ← z1]
        exact DGet.k g1
      exact tail_any (dict_typeIs I g) PySem.F.slot_dict_getitem.lookup (d_getItem (by omega) I g ry fun w' s3 I3 rw' => ⟨z, H, I3, rw', h z ρ H .refl r z2⟩) hs
    · exact h.elim
  · split at h
    · rename_i i
      obtain rfl : y = _ := p2
      split at h
      · rename_i xs he
        split at h
        · rename_i w hw
          obtain ⟨a, vs, rfl, h1, h2⟩ := lv_list r p1 he
          obtain ⟨j, hj, hv⟩ := Option.bind_eq_some_iff.mp hw
          obtain ⟨z, z1, z2⟩ := h2.get hv
          exact ix_list value slice pins s σ H _ _ v u Q I rx ry ⟨a, vs, i, z, rfl, rfl, h1.sq, by rw [atI, h2.length, hj]; exact z1, h z ρ H .refl r z2⟩ hs
        · exact h.elim
      · rename_i xs he
        split at h
        · rename_i w hw
          obtain rfl := lv_of he (fun _ z => nomatch z)
          obtain ⟨a, vs, rfl, h1, h2⟩ := p1
          obtain ⟨j, hj, hv⟩ := Option.bind_eq_some_iff.mp hw
          obtain ⟨z, z1, z2⟩ := h2.get hv
          exact ix_tup value slice pins s σ H _ _ v u Q I rx ry ⟨a, vs, i, z, rfl, rfl, h1.sq, by rw [atI, h2.length, hj]; exact z1, h z ρ H .refl r z2⟩ hs
        · exact h.elim
      · rename_i z he
        obtain rfl := lv_of he (fun _ z => nomatch z)
        obtain rfl : x = _ := p1
        split at h
        · rename_i hz
          split at h
          · rename_i c hc
            exact ix_str value slice pins s σ H _ _ v u Q I rx ry ⟨z, i, c, rfl, rfl, hz, hc, h _ ρ H .refl r rfl⟩ hs
          · exact h.elim
        · exact h.elim
      · exact h.elim
    · exact h.elim
/-! ### slices -/
def rS (k : Kx) : V → Option Int → Option Int → Hp → VK → Prop := fun x lo hi H Q => ∃ ρ S d, Rel k.K k.ca ρ S H ∧ Rep k.K ρ H d x ∧ post0 k ρ H (sliD d lo hi S) Q
theorem cutL_reps {ds : List D} {vs : List V} (h : Reps X.K ρ H ds vs) (lo hi : Option Int) : Reps X.K ρ H (cutL ds lo hi) (cutV vs lo hi) := by
  unfold cutL cutV
  rw [h.length]
  exact (h.drop _).take _
theorem sli_ok : SlR X (rS (kx X ca)) := by
  intro pins s σ H x v vl vu lo hi sl Q I rx hs pl pu h
  obtain ⟨ρ, S, d, r, p1, h⟩ := h
  unfold sliD at h
  split at h
  · rename_i xs he
    obtain ⟨a, vs, rfl, h1, h2⟩ := lv_list r p1 he
    exact sl_list pins s σ H _ v vl vu lo hi sl Q I rx hs pl pu ⟨a, vs, rfl, h1.sq, fun p hp => h _ ρ _ (.new _ hp) (r.new _ hp) (rep_newL r hp (cutL_reps h2 lo hi))⟩
  · rename_i xs he
    obtain rfl := lv_of he (fun _ z => nomatch z)
    obtain ⟨a, vs, rfl, h1, h2⟩ := p1
    refine sl_tupA pins s σ H _ v vl vu lo hi sl Q I rx hs pl pu ⟨a, vs, rfl, h1.sq, fun hw => ?_, fun _ p hp => ?_⟩
    · have e : cutL xs lo hi = xs := by
        unfold cutL
        rw [← h2.length, hw.1, hw.2]
        simp [h2.length]
      rw [e] at h
      exact h _ ρ H .refl r ⟨a, vs, rfl, h1, h2⟩
    · exact h _ ρ _ (.new _ hp) (r.new _ hp) (rep_newT r hp (cutL_reps h2 lo hi))
  · rename_i z he
    obtain rfl := lv_of he (fun _ z => nomatch z)
    obtain rfl : x = _ := p1
    split at h
    · rename_i hz
      exact L2.sl_str pins s σ H _ v vl vu lo hi sl Q I rx hs pl pu ⟨z, rfl, hz, h _ ρ H .refl r rfl⟩
    · exact h.elim
  · exact h.elim
end
end Cr
set_option Elab.async false
set_option linter.all false
set_option maxHeartbeats 1000000
/-! Cr7: built-in functions and methods. -/
namespace Cr
open PySem L2 PyProof.Rows
section
variable {X : Cx} {ca : CA} {pins : List (Addr × Obj)} {σ : L2.St} {H : Hp} {s : Shared} {ρ : Lo} {S : Sto}
def rA (k : Kx) (f : List D → Sto → Out D) : List V → Hp → VK → Prop := fun xs H Q => ∃ ρ S ds, Rel k.K k.ca ρ S H ∧ Reps k.K ρ H ds xs ∧ post0 k ρ H (f ds S) Q
def rM (k : Kx) (f : D → List D → Sto → Out D) : V → List V → Hp → VK → Prop := fun x xs H Q => ∃ ρ S d ds, Rel k.K k.ca ρ S H ∧ Rep k.K ρ H d x ∧ Reps k.K ρ H ds xs ∧ post0 k ρ H (f d ds S) Q
def biV : Bi → Value
  | .abs => .builtin "abs" | .int => .type "int" | .str => .type "str" | .len => .builtin "len" | .tuple => .type "tuple" | .list => .type "list" | .repr => .builtin "repr"
  | .max => .builtin "max" | .maxd => .builtin "max" | .min => .builtin "min" | .all => .builtin "all" | .any => .builtin "any" | .sorted => .builtin "sorted"
  | .dict => .type "dict" | .set => .type "set" | .ord => .builtin "ord"
theorem bools_of : ∀ {ds : List D} {bs : List Bool} {vs : List V}, boolsOf ds = some bs → Reps X.K ρ H ds vs → vs = bs.map V.bl
  | [], _, _, e, h => by cases e; exact h
  | .bool b :: r, _, _, e, h => by
    obtain ⟨v, w, rfl, h2, h3⟩ := h
    obtain ⟨cs, e1, rfl⟩ := Option.map_eq_some_iff.mp (show (boolsOf r).map (b :: ·) = some _ from e)
    rw [show v = _ from h2, bools_of e1 h3]
    rfl
  | .none :: r, _, _, e, h => by cases e
  | .int _ :: r, _, _, e, h => by cases e
  | .str _ :: r, _, _, e, h => by cases e
  | .tuple _ :: r, _, _, e, h => by cases e
  | .list _ :: r, _, _, e, h => by cases e
  | .dict _ :: r, _, _, e, h => by cases e
theorem ints_of : ∀ {ds : List D} {bs : List Int} {vs : List V}, intsOf ds = some bs → Reps X.K ρ H ds vs → vs = bs.map V.int
  | [], _, _, e, h => by cases e; exact h
  | .int b :: r, _, _, e, h => by
    obtain ⟨v, w, rfl, h2, h3⟩ := h
    obtain ⟨cs, e1, rfl⟩ := Option.map_eq_some_iff.mp (show (intsOf r).map (b :: ·) = some _ from e)
    rw [show v = _ from h2, ints_of e1 h3]
    rfl
  | .none :: r, _, _, e, h => by cases e
  | .bool _ :: r, _, _, e, h => by cases e
  | .str _ :: r, _, _, e, h => by cases e
  | .tuple _ :: r, _, _, e, h => by cases e
  | .list _ :: r, _, _, e, h => by cases e
  | .dict _ :: r, _, _, e, h => by cases e
theorem maxI_spec : ∀ (r : List Int) (n : Int), (maxI n r = n ∨ maxI n r ∈ r) ∧ n ≤ maxI n r ∧ ∀ y ∈ r, y ≤ maxI n r
  | [], n => ⟨.inl rfl, Int.le_refl _, fun _ h => nomatch h⟩
  | m :: r, n => by
    obtain ⟨h1, h2, h3⟩ := maxI_spec r (if m > n then m else n)
    have e : maxI n (m :: r) = maxI (if m > n then m else n) r := rfl
    rw [e]
    refine ⟨?_, ?_, fun y hy => ?_⟩
    · rcases h1 with h1 | h1
      · rw [h1]; split
        · exact .inr List.mem_cons_self
        · exact .inl rfl
      · exact .inr (List.mem_cons_of_mem _ h1)
    · split at h2 <;> split <;> omega
    · rcases List.mem_cons.mp hy with rfl | hy
      · split at h2 <;> split <;> omega
      · exact h3 y hy
theorem minI_spec : ∀ (r : List Int) (n : Int), (minI n r = n ∨ minI n r ∈ r) ∧ minI n r ≤ n ∧ ∀ y ∈ r, minI n r ≤ y
  | [], n => ⟨.inl rfl, Int.le_refl _, fun _ h => nomatch h⟩
  | m :: r, n => by
    obtain ⟨h1, h2, h3⟩ := minI_spec r (if m < n then m else n)
    have e : minI n (m :: r) = minI (if m < n then m else n) r := rfl
    rw [e]
    refine ⟨?_, ?_, fun y hy => ?_⟩
    · rcases h1 with h1 | h1
      · rw [h1]; split
        · exact .inr List.mem_cons_self
        · exact .inl rfl
      · exact .inr (List.mem_cons_of_mem _ h1)
    · split at h2 <;> split <;> omega
    · rcases List.mem_cons.mp hy with rfl | hy
      · split at h2 <;> split <;> omega
      · exact h3 y hy
theorem max_one {n : Int} {r : List Int} {m : Int} (h1 : m ∈ n :: r) (h2 : ∀ y ∈ n :: r, y ≤ m) : m = maxI n r := by
  obtain ⟨a, b, c⟩ := maxI_spec r n
  have d1 : maxI n r ∈ n :: r := a.elim (fun e => by rw [e]; exact List.mem_cons_self) fun e => List.mem_cons_of_mem _ e
  have d2 := h2 _ d1
  rcases List.mem_cons.mp h1 with rfl | h1
  · omega
  · have := c m h1; omega
theorem min_one {n : Int} {r : List Int} {m : Int} (h1 : m ∈ n :: r) (h2 : ∀ y ∈ n :: r, m ≤ y) : m = minI n r := by
  obtain ⟨a, b, c⟩ := minI_spec r n
  have d1 : minI n r ∈ n :: r := a.elim (fun e => by rw [e]; exact List.mem_cons_self) fun e => List.mem_cons_of_mem _ e
  have d2 := h2 _ d1
  rcases List.mem_cons.mp h1 with rfl | h1
  · omega
  · have := c m h1; omega
theorem one_of {d : D} {xs : List V} (h : Reps X.K ρ H [d] xs) : ∃ v, xs = [v] ∧ Rep X.K ρ H d v := by
  obtain ⟨v, r, rfl, h2, h3⟩ := h
  rw [show r = [] from h3]
  exact ⟨v, rfl, h2⟩
theorem strs_of : ∀ {ds : List D} {bs : List Str} {vs : List V}, strsOf ds = some bs → Reps X.K ρ H ds vs → vs = bs.map V.str
  | [], _, _, e, h => by cases e; exact h
  | .str b :: r, _, _, e, h => by
    obtain ⟨v, w, rfl, h2, h3⟩ := h
    obtain ⟨cs, e1, rfl⟩ := Option.map_eq_some_iff.mp (show (strsOf r).map (b :: ·) = some _ from e)
    rw [show v = _ from h2, strs_of e1 h3]
    rfl
  | .none :: r, _, _, e, h => by cases e
  | .int _ :: r, _, _, e, h => by cases e
  | .bool _ :: r, _, _, e, h => by cases e
  | .tuple _ :: r, _, _, e, h => by cases e
  | .list _ :: r, _, _, e, h => by cases e
  | .dict _ :: r, _, _, e, h => by cases e
theorem repr_ref (hg : X.A.guards = some []) (hu : X.A.units + 100 < cLine) {d e : D} {a : Addr} {Q : VK} (I : Inv X pins σ H s) (r : Rel X.K ca.ad ρ S H) (p : Rep X.K ρ H d (.ref a)) (he : lv S d = e) (h1 : plain e = true) (h2 : e.showable = true) (h3 : e.shown.length ≤ sizeLine) (q : Q (.str e.shown) H) :
    wpAny (model X.prog X.w) X.A (call (.builtin "repr") [.ref a]) (EP X pins σ Q) X.xe s := by
  subst he
  obtain ⟨as, rd⟩ := reads_of I r p h1 rfl
  have hl := (depth_plain h1)
  refine repr_of_reads' (h₀ := s.heap) rd h2 (PyData.noDict_hsm (PyData.hasDict_of_canLay _ hl.1)) hg (by have := hl.2; omega) (fun _ _ z => z) (fun h' u tk k => ⟨.str _, H, I.kept (t' := tk) k, ⟨_, rfl⟩, q⟩) h3
theorem blt_ok (hc : X.calm = true) (hg : X.A.guards = some []) (hu : X.A.units + 100 < cLine) (b : Bi) : CallR X (biV b) (rA (kx X ca) (bltD b)) := by
  intro pins s σ H xs us Q I rv h
  obtain ⟨ρ, S, ds, r, p, h⟩ := h
  unfold bltD at h
  split at h
  case h_2 => exact h.elim
  rename_i x
  obtain ⟨v, rfl, pv⟩ := one_of p
  split at h
  · unfold absD at h
    split at h
    · obtain rfl : v = _ := pv
      exact call_abs pins s σ H _ us Q I rv ⟨_, rfl, h _ ρ H .refl r rfl⟩
    · exact h.elim
  · unfold intD at h
    split at h
    · obtain rfl : v = _ := pv
      exact call_int1 pins s σ H _ us Q I rv (.inl ⟨_, rfl, h _ ρ H .refl r rfl⟩)
    · obtain rfl : v = _ := pv
      exact call_int1 pins s σ H _ us Q I rv (.inr ⟨_, rfl, h _ ρ H .refl r rfl⟩)
    · obtain rfl : v = _ := pv
      split at h
      · rename_i n hn
        split at h
        · rename_i hz
          exact call_int_str pins s σ H _ us Q I rv ⟨_, n, rfl, hn, hz, h _ ρ H .refl r rfl⟩
        · exact h.elim
      · exact h.elim
    · exact h.elim
  · unfold strD at h
    split at h
    · obtain rfl : v = _ := pv
      split at h
      · rename_i hz
        exact call_str_int pins s σ H _ us Q I rv ⟨_, rfl, hz, h _ ρ H .refl r rfl⟩
      · exact h.elim
    · obtain rfl : v = _ := pv
      exact SkE.call_str_str pins s σ H _ us Q I rv ⟨_, rfl, h _ ρ H .refl r rfl⟩
    · exact h.elim
  · unfold lenD at h
    split at h
    · rename_i kvs hk
      obtain ⟨n, a, kvs', rfl, _, _, rfl, g1, g2, _, g4⟩ := dicOf_rep r hk pv
      have e : kvs'.length = kvs.length := by simpa using congrArg List.length g2
      exact call_lenD pins s σ H _ us Q I rv ⟨a, kvs', rfl, g1, by rw [e]; exact h _ ρ H .refl r rfl⟩
    split at h
    · rename_i a he
      obtain rfl := lv_of he (fun _ z => nomatch z)
      obtain rfl : v = _ := pv
      split at h
      · rename_i hz
        exact call_len pins s σ H _ us Q I rv ⟨_, _, rfl, ⟨hz, rfl⟩, h _ ρ H .refl r rfl⟩
      · exact h.elim
    · rename_i a he
      obtain ⟨c, vs, rfl, h1, h2⟩ := lv_list r pv he
      exact call_len pins s σ H _ us Q I rv ⟨_, a.length, rfl, .inl ⟨vs, h1.sq, h2.length.symm⟩, h _ ρ H .refl r rfl⟩
    · rename_i a he
      obtain rfl := lv_of he (fun _ z => nomatch z)
      obtain ⟨c, vs, rfl, h1, h2⟩ := pv
      exact call_len pins s σ H _ us Q I rv ⟨_, a.length, rfl, .inr ⟨vs, h1.sq, h2.length.symm⟩, h _ ρ H .refl r rfl⟩
    · exact h.elim
  · unfold tupleD at h
    split at h
    · rename_i a he
      obtain ⟨c, vs, rfl, h1, h2⟩ := lv_list r pv he
      exact call_tuple_of pins s σ H _ us Q I rv ⟨c, vs, rfl, .inl ⟨h1.sq, fun l hl => h _ ρ _ (.new _ hl) (r.new _ hl) (rep_newT r hl h2)⟩⟩
    · rename_i a he
      obtain rfl := lv_of he (fun _ z => nomatch z)
      obtain ⟨c, vs, rfl, h1, h2⟩ := pv
      exact call_tuple_of pins s σ H _ us Q I rv ⟨c, vs, rfl, .inr ⟨h1.sq, h _ ρ H .refl r ⟨c, vs, rfl, h1, h2⟩⟩⟩
    · exact h.elim
  · unfold listD at h
    split at h
    · rename_i a he
      obtain ⟨c, vs, rfl, h1, h2⟩ := lv_list r pv he
      exact call_list_of pins s σ H _ us Q I rv ⟨c, vs, rfl, .inl h1.sq, fun l hl => h _ ρ _ (.new _ hl) (r.new _ hl) (rep_newL r hl h2)⟩
    · rename_i a he
      obtain rfl := lv_of he (fun _ z => nomatch z)
      obtain ⟨c, vs, rfl, h1, h2⟩ := pv
      exact call_list_of pins s σ H _ us Q I rv ⟨c, vs, rfl, .inr h1.sq, fun l hl => h _ ρ _ (.new _ hl) (r.new _ hl) (rep_newL r hl h2)⟩
    · exact h.elim
  · unfold reprD at h
    split at h
    · obtain rfl : v = _ := pv
      obtain ⟨u, rfl, ru⟩ := vals1 rv
      cases ru
      exact PySem.P.repr_of_bool ⟨.str _, H, I.tok _, ⟨_, rfl⟩, h _ ρ H .refl r rfl⟩
    · split at h
      · rename_i hn hz
        have q := h _ ρ H .refl r rfl
        obtain ⟨u, rfl, ru⟩ := vals1 rv
        cases x with
        | none =>
          obtain rfl : v = _ := pv
          cases ru
          exact PySem.P.repr_of_none ⟨.str _, H, I.tok _, ⟨_, rfl⟩, q⟩
        | bool b => exact absurd rfl (hn b)
        | int i =>
          obtain rfl : v = _ := pv
          obtain ⟨t, rfl⟩ := ru
          have h2 : (PyData.int i).showable = true := hz.2.1
          exact PySem.P.repr_of_int (by simpa [PyData.showable] using h2) ⟨.str _, H, I.tok _, ⟨_, rfl⟩, q⟩
        | str z =>
          obtain rfl : v = _ := pv
          obtain ⟨t, rfl⟩ := ru
          exact PySem.P.repr_of_str ⟨.str _, H, I.tok _, ⟨_, rfl⟩, q⟩ hz.2.2
        | tuple xs =>
          have pv0 := pv
          obtain ⟨c, vs, rfl, _⟩ := pv0
          cases ru
          exact repr_ref (ca := ca) hg hu I r pv rfl hz.1 hz.2.1 hz.2.2 q
        | list xs =>
          have pv0 := pv
          obtain ⟨c, vs, rfl, _⟩ := pv0
          cases ru
          exact repr_ref (ca := ca) hg hu I r pv rfl hz.1 hz.2.1 hz.2.2 q
        | dict kvs =>
          have pv0 := pv
          obtain ⟨n, c, _, _, rfl⟩ := pv0
          cases ru
          exact repr_ref (ca := ca) hg hu I r pv rfl hz.1 hz.2.1 hz.2.2 q
      · exact h.elim
  · unfold allD at h
    split at h
    · rename_i a he
      obtain ⟨c, vs, rfl, h1, h2⟩ := lv_list r pv he
      split at h
      · rename_i bs hb
        have e := bools_of hb h2
        subst e
        exact cr_all hc pins s σ H _ us Q I rv ⟨c, bs, rfl, h1.sq, h _ ρ H .refl r rfl⟩
      · exact h.elim
    · exact h.elim
  · unfold anyD at h
    split at h
    · rename_i a he
      obtain ⟨c, vs, rfl, h1, h2⟩ := lv_list r pv he
      split at h
      · rename_i bs hb
        have e := bools_of hb h2
        subst e
        exact cr_any hc pins s σ H _ us Q I rv ⟨c, bs, rfl, h1.sq, h _ ρ H .refl r rfl⟩
      · exact h.elim
    · exact h.elim
  · unfold maxD at h
    split at h
    · rename_i a he
      obtain ⟨c, vs, rfl, h1, h2⟩ := lv_list r pv he
      split at h
      · rename_i n t hb
        have e := ints_of hb h2
        subst e
        refine cr_max hc pins s σ H _ us Q I rv ⟨c, n :: t, rfl, h1.sq, Nat.succ_pos _, fun m m1 m2 => ?_⟩
        rw [max_one m1 m2]
        exact h _ ρ H .refl r rfl
      · exact h.elim
    · exact h.elim
  · unfold minD at h
    split at h
    · rename_i a he
      obtain ⟨c, vs, rfl, h1, h2⟩ := lv_list r pv he
      split at h
      · rename_i n t hb
        have e := ints_of hb h2
        subst e
        refine cr_min hc pins s σ H _ us Q I rv ⟨c, n :: t, rfl, h1.sq, Nat.succ_pos _, fun m m1 m2 => ?_⟩
        rw [min_one m1 m2]
        exact h _ ρ H .refl r rfl
      · exact h.elim
    · exact h.elim
  · exact h.elim
/-! ### methods -/
theorem locOf_rep {d : D} {v : V} {n : Nat} (e : locOf d = some n) (h : Rep X.K ρ H d v) : d = Cr.loc n := by
  cases d with
  | dict kvs =>
    obtain ⟨m, em⟩ := loc_of h
    rw [em] at e ⊢
    rw [locOf_loc] at e
    cases e
    rfl
  | _ => cases e
theorem lstAt_rep (r : Rel X.K ca.ad ρ S H) {d : D} {v : V} {p : Nat × List D} (e : lstAt d S = some p) (h : Rep X.K ρ H d v) :
    d = Cr.loc p.1 ∧ S[p.1]? = some (.lst p.2) ∧ ∃ b, v = .ref b ∧ ρ.ls[p.1]? = some b ∧ ∃ vs, H b = some (.lst vs) ∧ Reps X.K ρ H p.2 vs := by
  unfold lstAt at e
  split at e
  · rename_i n hn
    split at e
    · rename_i a hs
      cases e
      obtain rfl := locOf_rep hn h
      obtain ⟨b, e1, e2, e3⟩ := r.loc h hs
      exact ⟨rfl, hs, b, e1, e2, e3⟩
    · cases e
  · cases e
/-- two of .. -/
theorem two_of {d e : D} {xs : List V} (h : Reps X.K ρ H [d, e] xs) : ∃ v w, xs = [v, w] ∧ Rep X.K ρ H d v ∧ Rep X.K ρ H e w := by
  obtain ⟨v, r, rfl, h2, w, q, rfl, h4, h5⟩ := h
  rw [show q = [] from h5]
  exact ⟨v, w, rfl, h2, h4⟩
theorem append_ok : MtR X "list.append" (rM (kx X ca) (mthD .append)) := by
  intro pins s σ H x xs v us Q I rx rv h
  obtain ⟨ρ, S, d, ds, r, p1, p2, h0⟩ := h
  match ds, p2, h0 with
  | [], _, h => exact h.elim
  | _ :: _ :: [], _, h => exact h.elim
  | _ :: _ :: _ :: _, _, h => exact h.elim
  | [y], p2, h1 =>
    obtain ⟨w, rfl, pw⟩ := one_of p2
    have h : post0 (kx X ca) ρ H (appD d y S) Q := h1
    clear h1 h0
    unfold appD at h
    split at h
    · rename_i p hp
      obtain ⟨rfl, hs, b, rfl, hb, vs, h1, h2⟩ := lstAt_rep r hp p1
      split at h
      · rename_i hz
        exact mt_append pins s σ H _ _ v us Q I rx rv ⟨b, vs, w, rfl, rfl, h1, by rw [h2.length]; exact hz, h _ ρ _ (.write _ (List.mem_of_getElem? hb)) (r.writeL hb (h2.append (.one pw))) rfl⟩
      · exact h.elim
    · exact h.elim
theorem pop0_ok : MtR X "list.pop" (rM (kx X ca) (mthD .pop0)) := by
  intro pins s σ H x xs v us Q I rx rv h
  obtain ⟨ρ, S, d, ds, r, p1, p2, h0⟩ := h
  match ds, p2, h0 with
  | _ :: [], _, h => exact h.elim
  | _ :: _ :: [], _, h => exact h.elim
  | _ :: _ :: _ :: _, _, h => exact h.elim
  | [], p2, h1 =>
    have e : xs = [] := p2
    subst e
    have h : post0 (kx X ca) ρ H (pop0D d S) Q := h1
    clear h1 h0
    unfold pop0D at h
    split at h
    · rename_i p hp
      obtain ⟨rfl, hs, b, rfl, hb, vs, h1, h2⟩ := lstAt_rep r hp p1
      split at h
      · rename_i y hy
        obtain ⟨w, w1, w2⟩ := h2.get hy
        refine mt_pop pins s σ H _ _ v us Q I rx rv ⟨b, vs, w, rfl, rfl, h1, by rw [h2.length]; exact w1, ?_⟩
        exact h _ ρ _ (.write _ (List.mem_of_getElem? hb)) (r.writeL hb h2.dropLast) (Rep.ext (.write _ (List.mem_of_getElem? hb)) _ _ w2)
      · exact h.elim
    · exact h.elim
theorem popAt_ok : MtR X "list.pop" (rM (kx X ca) (mthD .popAt)) := by
  intro pins s σ H x xs v us Q I rx rv h
  obtain ⟨ρ, S, d, ds, r, p1, p2, h0⟩ := h
  match ds, p2, h0 with
  | [], _, h => exact h.elim
  | _ :: _ :: [], _, h => exact h.elim
  | _ :: _ :: _ :: _, _, h => exact h.elim
  | [y], p2, h1 =>
    obtain ⟨w, rfl, pw⟩ := one_of p2
    have h : post0 (kx X ca) ρ H (popAtD d y S) Q := h1
    clear h1 h0
    unfold popAtD at h
    split at h
    · rename_i p i hp
      obtain ⟨rfl, hs, b, rfl, hb, vs, h1, h2⟩ := lstAt_rep r hp p1
      obtain rfl : w = _ := pw
      split at h
      · rename_i hz
        split at h
        · rename_i j hj
          split at h
          · rename_i y hy
            obtain ⟨w, w1, w2⟩ := h2.get hy
            refine mt_popAt pins s σ H _ _ v us Q I rx rv ⟨b, vs, i, j, w, rfl, rfl, h1, hz.1, hz.2, by rw [h2.length]; exact hj, w1, ?_⟩
            exact h _ ρ _ (.write _ (List.mem_of_getElem? hb)) (r.writeL hb (h2.eraseIdx j)) (Rep.ext (.write _ (List.mem_of_getElem? hb)) _ _ w2)
          · exact h.elim
        · exact h.elim
      · exact h.elim
    · exact h.elim
theorem join_ok : MtR X "str.join" (rM (kx X ca) (mthD .join)) := by
  intro pins s σ H x xs v us Q I rx rv h
  obtain ⟨ρ, S, d, ds, r, p1, p2, h0⟩ := h
  match ds, p2, h0 with
  | [], _, h => exact h.elim
  | _ :: _ :: [], _, h => exact h.elim
  | _ :: _ :: _ :: _, _, h => exact h.elim
  | [y], p2, h1 =>
    obtain ⟨w, rfl, pw⟩ := one_of p2
    have h : post0 (kx X ca) ρ H (joinD d y S) Q := h1
    clear h1 h0
    unfold joinD at h
    split at h
    · rename_i a ys hys
      obtain rfl : x = _ := p1
      split at h
      · rename_i hz
        obtain ⟨zs, e1, e2⟩ := Option.bind_eq_some_iff.mp hys
        have fin : ∃ p, w = .ref p ∧ (SqL X.K H p (ys.map V.str) ∨ SqT X.K H p (ys.map V.str)) := by
          unfold seqOf at e1
          split at e1
          · rename_i b he
            cases e1
            obtain ⟨c, vs, rfl, h1, h2⟩ := lv_list r pw he
            rw [← strs_of e2 h2]
            exact ⟨c, rfl, .inl h1.sq⟩
          · rename_i b he
            cases e1
            obtain rfl := lv_of he (fun _ z => nomatch z)
            obtain ⟨c, vs, rfl, h1, h2⟩ := pw
            rw [← strs_of e2 h2]
            exact ⟨c, rfl, .inr h1.sq⟩
          · cases e1
        obtain ⟨c, rfl, hc⟩ := fin
        exact mt_join pins s σ H _ _ v us Q I rx rv ⟨a, c, ys, rfl, rfl, hc, hz, by rw [show Txt.join a ys = Str.join a ys from TL.join_eq a ys]; exact h _ ρ H .refl r rfl⟩
      · exact h.elim
    · exact h.elim
theorem sw_ok : MtR X "str.startswith" (rM (kx X ca) (mthD .startswith)) := by
  intro pins s σ H x xs v us Q I rx rv h
  obtain ⟨ρ, S, d, ds, r, p1, p2, h0⟩ := h
  match ds, p2, h0 with
  | [], _, h => exact h.elim
  | _ :: _ :: [], _, h => exact h.elim
  | _ :: _ :: _ :: _, _, h => exact h.elim
  | [y], p2, h1 =>
    obtain ⟨w, rfl, pw⟩ := one_of p2
    have h : post0 (kx X ca) ρ H (swD d y S) Q := h1
    clear h1 h0
    unfold swD at h
    split at h
    · obtain rfl : x = _ := p1
      obtain rfl : w = _ := pw
      exact mt_startswith pins s σ H _ _ v us Q I rx rv ⟨_, _, rfl, rfl, h _ ρ H .refl r rfl⟩
    · exact h.elim
/-! ### op= -/
theorem aug_ok (op : Operator) : OpR X (inplaceOp op) (rB (kx X ca) (augD op)) := by
  intro pins s σ H x y v u Q I rx ry h
  obtain ⟨ρ, S, d, e, r, p1, p2, h⟩ := h
  unfold augD at h
  split at h
  · obtain rfl : x = _ := p1
    obtain rfl : y = _ := p2
    exact iop_add pins s σ H _ _ v u Q I rx ry ⟨_, _, rfl, rfl, h _ ρ H .refl r rfl⟩
  · obtain rfl : x = _ := p1
    obtain rfl : y = _ := p2
    exact iop_sub pins s σ H _ _ v u Q I rx ry ⟨_, _, rfl, rfl, h _ ρ H .refl r rfl⟩
  · obtain rfl : x = _ := p1
    obtain rfl : y = _ := p2
    split at h
    · rename_i hz
      exact iop_add_str pins s σ H _ _ v u Q I rx ry ⟨_, _, rfl, rfl, hz, h _ ρ H .refl r rfl⟩
    · exact h.elim
  · exact h.elim
end
end Cr
set_option Elab.async false
set_option linter.all false
set_option maxHeartbeats 1000000
/-! Cr8: calls of defs. -/
namespace Cr
open PySem L2 PyProof.Rows
/-- room for n calls, one in the other, and no guard of a repr under way -/
structure RoomG (n : Nat) (A : Around) : Prop where
  hd : A.handled = none
  dp : A.depth + 2 * n + 12 < recursionLimit
  un : A.units + 16 * n + 300 < cLine
  gd : A.guards = some []
theorem RoomG.mono {j n : Nat} {A : Around} (r : RoomG n A) (h : j ≤ n) : RoomG j A := ⟨r.hd, by have := r.dp; omega, by have := r.un; omega, r.gd⟩
theorem RoomG.depth {n : Nat} {A : Around} (r : RoomG n A) : A.depth < recursionLimit := by have := r.dp; omega
/-- .. within a body: a little more -/
structure RoomX (n : Nat) (A : Around) : Prop where
  hd : A.handled = none
  dp : A.depth + 2 * n + 13 < recursionLimit
  un : A.units + 16 * n + 301 < cLine
  gd : A.guards = some []
theorem RoomX.g {n : Nat} {A : Around} (r : RoomX n A) : RoomG n A := ⟨r.hd, by have := r.dp; omega, by have := r.un; omega, r.gd⟩
theorem RoomX.room {n : Nat} {A : Around} (r : RoomX n A) : Room 2 A := ⟨r.hd, by have := r.dp; omega, by have := r.un; omega⟩
theorem RoomX.make {n : Nat} {A : Around} (r : RoomX n A) (C : Addr) (us : List Value) (kw : List (Str × Value)) : RoomG n (A.under (.builtin "type.__call__" ⟨.ref C :: us, kw⟩)) :=
  ⟨r.hd, by have := r.dp; rw [make_depth]; omega, by have := r.un; rw [make_units]; omega, r.gd⟩
theorem RoomG.body {n : Nat} {A : Around} (r : RoomG (n + 1) A) (env : Env) : RoomX n (A.deeper env) :=
  ⟨r.hd, by have := r.dp; show A.depth + 1 + 2 * n + 13 < _; omega, by have := r.un; show A.units + 3 + 16 * n + 301 < _; omega, r.gd⟩
/-- a def keeps its promise -/
structure FnG (P : Program) (w : World) (K : PySem.W.Frag) (mg : Str → Option Value) (base : Heap) (n : Nat) (f : Addr) (fd : FuncData) (ps : List Str) (sp : Sp) : Prop where
  len : ∀ vs H Q E, sp vs H Q E → vs.length = ps.length
  run : ∀ (A : Around) (outer : List Env) (s : Shared) (H : Hp) (args : Args) (us : List Value) (vs : List V) (Q : VK) (E : XK), RoomG n A → Env0 P w K mg base A outer s H → BindsTo s fd args (ps.zip us) → Vals vs us → sp vs H Q E →
    codeAny (model P w) A (.call (.ref f) args) (CR (CX P w) outer P w H s Q E) s
/-- what the evaluator's run of a def promises -/
def postF (K : PySem.W.Frag) (ca : Nat → Addr) (ρ : Lo) (H : Hp) (o : Out D) (Q : VK) (E : XK) : Prop :=
  match o with
  | .ok d S => ∀ v ρ' H', Ext ρ H ρ' H' → Rel K ca ρ' S H' → Rep K ρ' H' d v → Q v H'
  | .ex c fs S => ∀ ρ' H' cls d, Ext ρ H ρ' H' → Rel K ca ρ' S H' → Exn K ca ρ' H' c fs cls d → E cls d H'
  | .bad => False
def spF (K : PySem.W.Frag) (ca : Nat → Addr) (np : Nat) (g : List D → Sto → Out D) : Sp := fun vs H Q E => ∃ ρ S ds, ds.length = np ∧ Rel K ca ρ S H ∧ Reps K ρ H ds vs ∧ postF K ca ρ H (g ds S) Q E
/-- a global def, as its callers see it -/
structure GF (P : Program) (w : World) (K : PySem.W.Frag) (mg : Str → Option Value) (base : Heap) (ca : Nat → Addr) (n : Nat) (x : Str) (np : Nat) (g : List D → Sto → Out D) : Prop where
  ex : ∃ (a : Addr) (fd : FuncData) (ps : List Str), ps.length = np ∧ mg x = some (.ref a) ∧ PySem.W.keepIn K (.ref a) = true ∧ Binds K fd ps [] ∧ FnG P w K mg base n a fd ps (spF K ca np g)
section
variable {X : Cx} {ca : CA} {W : WX}
theorem call_run {n : Nat} {a : Addr} {fd : FuncData} {ps : List Str} {sp : Sp} {E : XK} {pins : List (Addr × Obj)} {σ : L2.St} {H : Hp} {s : Shared} {Q : VK} {us : List Value} {vs : List V} (F : FnG X.prog X.w X.K X.mg X.base n a fd ps sp) (hr : RoomG n X.A) (hb : Binds X.K fd ps [])
    (tk : Takes X W) (hW : ∀ cls d H', E cls d H' → W cls d σ H') (I : Inv X pins σ H s) (r : Vals vs us) (h : sp vs H Q E) : wpAny (model X.prog X.w) X.A (call (.ref a) us) (EP X pins σ Q) X.xe s := by
  have hl : us.length = ps.length := by rw [← r.length]; exact F.len _ _ _ _ h
  have e0 : us ++ [] = us := List.append_nil us
  have b := hb s us I.kIn (by rw [e0]; exact hl)
  rw [e0] at b
  refine wpAny_call (codeAny_mono (F.run X.A X.stack s H ⟨us, []⟩ us vs Q E hr I.env0 b r h) fun z s' hz => ?_)
  match z, hz with
  | .error e, hz => exact tk e s' (XE.of_call I hW hz)
  | .ok (.ret u), hz => exact I.after hz
theorem pe_callF {n np : Nat} {x : Str} {g : List D → Sto → Out D} {e : Expr} {es : List Expr} {m : Fr → Sto → Out (List D)} {p pos : Pos} (G : GF X.prog X.w X.K X.mg X.base ca.ad n x np g) (hr : RoomX n X.A) (tk : Takes X W) (hg : Gl X x) (hdb : (x == ("__debug__" : Str)) = false)
    (ha : PA X (e :: es) (tA (kx X ca) W m)) (hm : ∀ s S ds S', m s S = .ok ds S' → ds.length = np) (he : starEach (e :: es) X.env = (false, eval e X.env) :: starEach es X.env) (hpl : (backTo pos (starEach es X.env)).any (·.1) = false) :
    PE X (.Call (.Name x p) (e :: es) [] pos) (tE (kx X ca) W fun s S => (m s S).bind fun ys S1 => g ys S1) := by
  obtain ⟨a, fd, ps, hps, hmg, hk, hb, F⟩ := G.ex
  refine ⟨fun pins s σ H Q I h => ?_⟩
  obtain ⟨ρ, S, f, at_, h⟩ := h
  dsimp only at h
  refine wpAny_Call_Name_kw (ld_glob I hg hmg ?_ hdb)
  have hA := ha.run pos pins s σ H (fun vs H1 => ∃ ds ρ1 S1, At (kx X ca) ρ1 S1 f σ H1 ∧ Reps X.K ρ1 H1 ds vs ∧ m f S = .ok ds S1 ∧ postE (kx X ca) W σ ρ1 H1 (g ds S1) Q) I ⟨ρ, S, f, at_, ?_⟩
  · refine PySem.W.callWith_K (h₀ := X.base) I.ok.mod.kin hk (thn hA fun us s1 ⟨vs, H1, I1, r, ds, ρ1, S1, a1, rp, em, q⟩ => ⟨I1.kIn, ?_⟩) he hpl
    refine call_run (E := fun cls d H' => W cls d σ H') F hr.g hb tk (fun _ _ _ z => z) I1 r ⟨ρ1, S1, ds, hm _ _ _ _ em, a1.rel, rp, ?_⟩
    unfold postF
    cases eg : g ds S1 with
    | ok d S2 => rw [eg] at q; exact q
    | ex c fs S2 => rw [eg] at q; exact q
    | bad => rw [eg] at q; exact q
  · cases em : m f S with
    | ok ds S1 =>
      rw [em] at h
      exact fun vs ρ1 H1 e1 r1 p1 => ⟨ds, ρ1, S1, at_.ext e1 r1, p1, rfl, post.mono h e1 fun _ _ z => z⟩
    | ex c fs S1 => rw [em] at h; exact h
    | bad => rw [em] at h; exact h
theorem pe_callF0 {n : Nat} {x : Str} {g : List D → Sto → Out D} {p pos : Pos} (G : GF X.prog X.w X.K X.mg X.base ca.ad n x 0 g) (hr : RoomX n X.A) (tk : Takes X W) (hg : Gl X x) (hdb : (x == ("__debug__" : Str)) = false) :
    PE X (.Call (.Name x p) [] [] pos) (tE (kx X ca) W fun s S => g [] S) := by
  obtain ⟨a, fd, ps, hps, hmg, hk, hb, F⟩ := G.ex
  refine ⟨fun pins s σ H Q I h => ?_⟩
  obtain ⟨ρ, S, f, at_, h⟩ := h
  dsimp only at h
  refine wpAny_Call_Name_kw (ld_glob I hg hmg ?_ hdb)
  refine PySem.W.callWith_K0 I.kIn hk (call_run (us := []) (E := fun cls d H' => W cls d σ H') F hr.g hb tk (fun _ _ _ z => z) I .nil ⟨ρ, S, [], rfl, at_.rel, rfl, ?_⟩)
  unfold postF
  cases eg : g [] S with
  | ok d S2 => rw [eg] at h; exact h
  | ex c fs S2 => rw [eg] at h; exact h
  | bad => rw [eg] at h; exact h
end
/-! ### methods and new instances -/
/-- a method, as its callers see it -/
structure GM (P : Program) (w : World) (K : PySem.W.Frag) (mg : Str → Option Value) (base : Heap) (ca : Nat → Addr) (n : Nat) (c : Nat) (nm : Str) (np : Nat) (g : List D → Sto → Out D) : Prop where
  ex : ∃ (a : Addr) (fd : FuncData) (ps : List Str), ps.length = np ∧ Cls K (ca c) ∧ Meth K (ca c) nm a ∧ Binds K fd ps [] ∧ FnG P w K mg base n a fd ps (spF K ca np g)
/-- a class that is called -/
structure GN (P : Program) (w : World) (K : PySem.W.Frag) (mg : Str → Option Value) (base : Heap) (ca : Nat → Addr) (n : Nat) (x : Str) (c : Nat) (np : Nat) (g : List D → Sto → Out D) : Prop where
  ex : ∃ (a : Addr) (fd : FuncData) (ps : List Str), ps.length = np ∧ mg x = some (.ref (ca c)) ∧ Mk K (ca c) a ∧ Binds K fd ps [] ∧ FnG P w K mg base n a fd ps (spF K ca np g)
theorem mem_lookupN {β : Type} {k : Nat} {v : β} : ∀ {l : List (Nat × β)}, l.lookup k = some v → (k, v) ∈ l
  | (k', v') :: r, h => by
    rw [List.lookup_cons] at h
    split at h
    · rename_i e
      cases h
      have : k = k' := by simpa using e
      subst this
      exact List.mem_cons_self
    · exact List.mem_cons_of_mem _ (mem_lookupN h)
theorem lookup_keys {α β : Type} {f : Str} : ∀ {xs : List (Str × α)} {ys : List (Str × β)}, ys.map (·.1) = xs.map (·.1) → xs.lookup f = none → ys.lookup f = none
  | [], [], _, _ => rfl
  | [], _ :: _, e, _ => by cases e
  | _ :: _, [], e, _ => by cases e
  | (k, x) :: xs, (k', y) :: ys, e, h => by
    have e' := List.cons.inj e
    have hk : k' = k := e'.1
    subst hk
    rw [List.lookup_cons] at h ⊢
    split at h
    · cases h
    · exact lookup_keys e'.2 h
theorem lookup_reps {K : PySem.W.Frag} {ρ : Lo} {H : Hp} {f : Str} : ∀ {xs : List (Str × D)} {ys : List (Str × V)} {d : D}, ys.map (·.1) = xs.map (·.1) → Reps K ρ H (xs.map (·.2)) (ys.map (·.2)) → xs.lookup f = some d → ∃ v, ys.lookup f = some v ∧ Rep K ρ H d v
  | [], _, _, _, _, h => by cases h
  | _ :: _, [], _, e, _, _ => by cases e
  | (k, x) :: xs, (k', y) :: ys, d, e, r, h => by
    have e' := List.cons.inj e
    have hk : k' = k := e'.1
    subst hk
    obtain ⟨v, w, e2, h2, h3⟩ := r
    have e2' := List.cons.inj e2
    rw [List.lookup_cons] at h ⊢
    split at h
    · cases h
      exact ⟨y, rfl, by rw [show y = v from e2'.1]; exact h2⟩
    · exact lookup_reps e'.2 (by rw [show ys.map (·.2) = w from e2'.2]; exact h3) h
theorem insOf_rep {K : PySem.W.Frag} {ca : Nat → Addr} {ρ : Lo} {S : Sto} {H : Hp} (r : Rel K ca ρ S H) {d : D} {v : V} {p : Nat × List (Str × D)} (e : insOf S d = some p) (h : Rep K ρ H d v) :
    ∃ n a, d = Cr.loc n ∧ S[n]? = some (.ins p.1 p.2) ∧ v = .ref a ∧ ρ.ls[n]? = some a ∧ ∃ dx fs', H a = some (.ins (ca p.1) dx fs') ∧ fs'.map (·.1) = p.2.map (·.1) ∧ Reps K ρ H (p.2.map (·.2)) (fs'.map (·.2)) := by
  cases d with
  | dict ks =>
    obtain ⟨n, en⟩ := loc_of h
    rw [en] at e h ⊢
    unfold insOf Cr.loc at e
    simp only [Int.toNat_natCast] at e
    cases hs : S[n]? with
    | none => rw [hs] at e; cases e
    | some o =>
      cases o with
      | ins c fs =>
        rw [hs] at e
        cases e
        obtain ⟨a, h1, h2, h3⟩ := r.loc h hs
        exact ⟨n, a, rfl, hs, h1, h2, h3⟩
      | _ => rw [hs] at e; cases e
  | _ => cases e
section
variable {X : Cx} {ca : CA} {W : WX}
theorem mclD_rep {nm : Str} {tb : List (Nat × Nat)} {ρ : Lo} {S : Sto} {H : Hp} {d : D} {v : V} {g : Nat} (r : Rel X.K ca.ad ρ S H) (p : Rep X.K ρ H d v) (e : mclD nm tb d S = some g) :
    ∃ c, (c, g) ∈ tb ∧ ∃ a dx fs', v = .ref a ∧ H a = some (.ins (ca.ad c) dx fs') ∧ fs'.lookup nm = none := by
  unfold mclD at e
  split at e
  · rename_i q hq
    split at e
    · rename_i hn
      obtain ⟨n, a, _, _, rfl, _, dx, fs', h1, h2, _⟩ := insOf_rep r hq p
      exact ⟨q.1, mem_lookupN e, a, dx, fs', rfl, h1, lookup_keys h2 (by simpa using hn)⟩
    · cases e
  · cases e
/-- o.m(e, ..) -/
theorem pe_methF {n np : Nat} {nm : Str} {tb : List (Nat × Nat)} {R : Nat → List D → Sto → Out D} {o e : Expr} {es : List Expr} {mo : Fr → Sto → Out D} {m : Fr → Sto → Out (List D)} {pos apos : Pos} {pl : Sem Bool}
    (G : ∀ q ∈ tb, GM X.prog X.w X.K X.mg X.base ca.ad n q.1 nm (np + 1) (R q.2)) (hr : RoomX n X.A) (tk : Takes X W) (ho : PE X o (tE (kx X ca) W mo)) (ha : PA X (e :: es) (tA (kx X ca) W m)) (hm : ∀ s S ds S', m s S = .ok ds S' → ds.length = np)
    (he : starEach (e :: es) X.env = (false, eval e X.env) :: starEach es X.env) (hpl : (backTo pos (starEach es X.env)).any (·.1) = false)
    (ht : eval (.Call (.Attribute o nm apos) (e :: es) [] pos) X.env = (do
      let ov ← eval o X.env
      standAt apos.atName
      let (f, first) ← holding [ov] (getMethod ov nm pl)
      callWith pos f first (backTo pos (starEach (e :: es) X.env)) (backToKw pos (keywordEach [] X.env)))) :
    PE X (.Call (.Attribute o nm apos) (e :: es) [] pos) (tE (kx X ca) W fun s S => (mo s S).bind fun x S1 => match mclD nm tb x S1 with
      | some g => (m s S1).bind fun ys S2 => R g (x :: ys) S2
      | none => .bad) := by
  refine ⟨fun pins s σ H Q I h => ?_⟩
  obtain ⟨ρ, S, f, at_, h⟩ := h
  dsimp only at h
  refine PySem.W.methodCall_KW (pl := pl) (thn (ho.run pins s σ H _ I (tE_step at_ h)) fun u s1 ⟨x, H1, I1, rx, d, ρ1, S1, a1, e1, p1, h1⟩ => ?_) ht
  split at h1
  case h_2 => exact h1.elim
  rename_i g hg
  obtain ⟨c, hc, a, dx, fs', rfl, ea, l⟩ := mclD_rep a1.rel p1 hg
  obtain ⟨fa, fd, ps, hps, hcl, hmt, hb, F⟩ := (G _ hc).ex
  obtain rfl : u = Value.ref a := rx
  refine getmeth_ok I1 ea hcl hmt l ?_
  have hA := ha.run pos pins s1 σ H1 (fun vs H2 => ∃ ds ρ2 S2, At (kx X ca) ρ2 S2 f σ H2 ∧ Ext ρ1 H1 ρ2 H2 ∧ Reps X.K ρ2 H2 ds vs ∧ m f S1 = .ok ds S2 ∧ postE (kx X ca) W σ ρ2 H2 (R g (d :: ds) S2) Q) I1 ⟨ρ1, S1, f, a1, ?_⟩
  · refine PySem.W.callWith_K (first := [.ref a]) (h₀ := X.base) I.ok.mod.kin hmt.kp (thn hA fun us s2 ⟨vs, H2, I2, r, ds, ρ2, S2, a2, e2, rp, em, q⟩ => ⟨I2.kIn, ?_⟩) he hpl
    refine call_run (us := .ref a :: us) (vs := .ref a :: vs) (E := fun cls d H' => W cls d σ H') F hr.g hb tk (fun _ _ _ z => z) I2 (.cons rfl r) ⟨ρ2, S2, d :: ds, by rw [List.length_cons, hm _ _ _ _ em], a2.rel, ⟨_, _, rfl, Rep.ext e2 _ _ p1, rp⟩, ?_⟩
    unfold postF
    cases eg : R g (d :: ds) S2 with
    | ok d S2 => rw [eg] at q; exact q
    | ex c fs S2 => rw [eg] at q; exact q
    | bad => rw [eg] at q; exact q
  · cases em : m f S1 with
    | ok ds S2 =>
      rw [em] at h1
      exact fun vs ρ2 H2 e2 r2 p2 => ⟨ds, ρ2, S2, a1.ext e2 r2, e2, p2, rfl, post.mono h1 e2 fun _ _ z => z⟩
    | ex c fs S2 => rw [em] at h1; exact h1
    | bad => rw [em] at h1; exact h1
/-- o.m() -/
theorem pe_methF0 {n : Nat} {nm : Str} {tb : List (Nat × Nat)} {R : Nat → List D → Sto → Out D} {o : Expr} {mo : Fr → Sto → Out D} {pos apos : Pos} {pl : Sem Bool}
    (G : ∀ q ∈ tb, GM X.prog X.w X.K X.mg X.base ca.ad n q.1 nm 1 (R q.2)) (hr : RoomX n X.A) (tk : Takes X W) (ho : PE X o (tE (kx X ca) W mo))
    (ht : eval (.Call (.Attribute o nm apos) [] [] pos) X.env = (do
      let ov ← eval o X.env
      standAt apos.atName
      let (f, first) ← holding [ov] (getMethod ov nm pl)
      callWith pos f first (backTo pos (starEach [] X.env)) (backToKw pos (keywordEach [] X.env)))) :
    PE X (.Call (.Attribute o nm apos) [] [] pos) (tE (kx X ca) W fun s S => (mo s S).bind fun x S1 => match mclD nm tb x S1 with
      | some g => R g [x] S1
      | none => .bad) := by
  refine ⟨fun pins s σ H Q I h => ?_⟩
  obtain ⟨ρ, S, f, at_, h⟩ := h
  dsimp only at h
  refine PySem.W.methodCall_KW (pl := pl) (thn (ho.run pins s σ H _ I (tE_step at_ h)) fun u s1 ⟨x, H1, I1, rx, d, ρ1, S1, a1, e1, p1, h1⟩ => ?_) ht
  split at h1
  case h_2 => exact h1.elim
  rename_i g hg
  obtain ⟨c, hc, a, dx, fs', rfl, ea, l⟩ := mclD_rep a1.rel p1 hg
  obtain ⟨fa, fd, ps, hps, hcl, hmt, hb, F⟩ := (G _ hc).ex
  obtain rfl : u = Value.ref a := rx
  refine getmeth_ok I1 ea hcl hmt l ?_
  refine PySem.W.callWith_K0 (first := [.ref a]) I1.kIn hmt.kp (call_run (us := [.ref a]) (vs := [.ref a]) (E := fun cls d H' => W cls d σ H') F hr.g hb tk (fun _ _ _ z => z) I1 (.cons rfl .nil) ⟨ρ1, S1, [d], rfl, a1.rel, ⟨_, _, rfl, p1, rfl⟩, ?_⟩)
  unfold postF
  cases eg : R g [d] S1 with
  | ok d S2 => rw [eg] at h1; exact h1
  | ex c fs S2 => rw [eg] at h1; exact h1
  | bad => rw [eg] at h1; exact h1
/-- a new instance, its __init__ run -/
theorem new_run {n : Nat} {c np : Nat} {x : Str} {g : List D → Sto → Out D} {ρ : Lo} {S : Sto} {ds : List D} {pins : List (Addr × Obj)} {σ : L2.St} {H : Hp} {s : Shared} {Q : VK} {us : List Value} {vs : List V} (G : GN X.prog X.w X.K X.mg X.base ca.ad n x c (np + 1) g) (hr : RoomX n X.A) (tk : Takes X W)
    (I : Inv X pins σ H s) (r : Vals vs us) (rl : Rel X.K ca.ad ρ S H) (rp : Reps X.K ρ H ds vs) (hl : ds.length = np) (h : postE (kx X ca) W σ ρ H ((g (loc S.length :: ds) (S ++ [.ins c []])).bind fun v S2 => newR (loc S.length) v S2) Q) :
    wpAny (model X.prog X.w) X.A (call (.ref (ca.ad c)) us) (EP X pins σ Q) X.xe s := by
  obtain ⟨fa, fd, ps, hps, hmg, M, hb, F⟩ := G.ex
  have hx : H (s.heap.objs.size + 1) = none := I.hok.fresh (Nat.le_succ _)
  have hdx : H s.heap.objs.size = none := I.hok.fresh (Nat.le_refl _)
  have ne : s.heap.objs.size ≠ s.heap.objs.size + 1 := Nat.ne_of_lt (Nat.lt_succ_self _)
  have I2 := Inv.made (C := ca.ad c) I
  have e1 : Ext ρ H ρ (upd H s.heap.objs.size (.own (s.heap.objs.size + 1))) := .new _ hdx
  have hx1 : (upd H s.heap.objs.size (.own (s.heap.objs.size + 1))) (s.heap.objs.size + 1) = none := by rw [upd_ne (Ne.symm ne)]; exact hx
  have r1 : Rel X.K ca.ad ρ S (upd H s.heap.objs.size (.own (s.heap.objs.size + 1))) := rl.new _ hdx
  have e2 : Ext ρ H (ρ.add (s.heap.objs.size + 1)) (upd (upd H s.heap.objs.size (.own (s.heap.objs.size + 1))) (s.heap.objs.size + 1) (.ins (ca.ad c) s.heap.objs.size [])) := e1.trans (.alloc _ hx1)
  have r2 : Rel X.K ca.ad (ρ.add (s.heap.objs.size + 1)) (S ++ [.ins c []]) (upd (upd H s.heap.objs.size (.own (s.heap.objs.size + 1))) (s.heap.objs.size + 1) (.ins (ca.ad c) s.heap.objs.size [])) :=
    r1.alloc hx1 ⟨s.heap.objs.size, [], upd_same, rfl, rfl⟩
  have hloc : Rep X.K (ρ.add (s.heap.objs.size + 1)) (upd (upd H s.heap.objs.size (.own (s.heap.objs.size + 1))) (s.heap.objs.size + 1) (.ins (ca.ad c) s.heap.objs.size [])) (loc S.length) (.ref (s.heap.objs.size + 1)) := rl.locNew
  have hlen : (Value.ref (s.heap.objs.size + 1) :: us).length = ps.length := by rw [List.length_cons, ← r.length, rp.length, hl, hps]
  have e0 : (Value.ref (s.heap.objs.size + 1) :: us) ++ [] = Value.ref (s.heap.objs.size + 1) :: us := List.append_nil _
  have b := hb _ (Value.ref (s.heap.objs.size + 1) :: us) I2.kIn (by rw [e0]; exact hlen)
  rw [e0] at b
  have hsp : spF X.K ca.ad (np + 1) g (V.ref (s.heap.objs.size + 1) :: vs) (upd (upd H s.heap.objs.size (.own (s.heap.objs.size + 1))) (s.heap.objs.size + 1) (.ins (ca.ad c) s.heap.objs.size [])) (fun v H2 => v = .non ∧ Q (.ref (s.heap.objs.size + 1)) H2) (fun cls d H' => W cls d σ H') := by
    refine ⟨_, _, loc S.length :: ds, by rw [List.length_cons, hl], r2, ⟨_, _, rfl, hloc, Reps.ext e2 _ _ rp⟩, ?_⟩
    unfold postF
    cases eg : g (loc S.length :: ds) (S ++ [.ins c []]) with
    | bad => rw [eg] at h; exact h
    | ex c' fs S2 => rw [eg] at h; exact fun ρ' H' cls d e' r' p' => h ρ' H' cls d (e2.trans e') r' p'
    | ok d S2 =>
      rw [eg, bind_ok] at h
      intro v ρ' H' e' r' p'
      cases d with
      | none => exact ⟨p', h _ ρ' H' (e2.trans e') r' (Rep.ext e' _ _ hloc)⟩
      | _ => exact h.elim
  refine wpAny_call (make_map (f := fa) I.kIn M.makes M.init (beq_iff_eq.mp M.fn) (codeAny_mono (F.run _ X.stack _ _ ⟨Value.ref (s.heap.objs.size + 1) :: us, []⟩ (Value.ref (s.heap.objs.size + 1) :: us) _ _ _ (hr.make (ca.ad c) us [])
    (I2.env0.make (ca.ad c) us []) b (.cons (show RelV (V.ref (s.heap.objs.size + 1)) (Value.ref (s.heap.objs.size + 1)) from rfl) r) hsp) fun r' s' hq' => ?_))
  match r', hq' with
  | .error e, hq' =>
    have J : Inv X pins σ _ _ := I2
    exact tk e s' (XE.of_call J (fun _ _ _ z => z) hq')
  | .ok (.ret u), hq' =>
    obtain ⟨v, H', I3, rv, ev, q3⟩ := I2.after hq'
    subst ev
    exact ⟨rv, ⟨V.ref (s.heap.objs.size + 1), H', I3, rfl, q3⟩⟩
theorem pe_newF {n np c : Nat} {x : Str} {g : List D → Sto → Out D} {e : Expr} {es : List Expr} {m : Fr → Sto → Out (List D)} {p pos : Pos} (G : GN X.prog X.w X.K X.mg X.base ca.ad n x c (np + 1) g) (hr : RoomX n X.A) (tk : Takes X W) (hg : Gl X x) (hdb : (x == ("__debug__" : Str)) = false)
    (ha : PA X (e :: es) (tA (kx X ca) W m)) (hm : ∀ s S ds S', m s S = .ok ds S' → ds.length = np) (he : starEach (e :: es) X.env = (false, eval e X.env) :: starEach es X.env) (hpl : (backTo pos (starEach es X.env)).any (·.1) = false) :
    PE X (.Call (.Name x p) (e :: es) [] pos) (tE (kx X ca) W fun s S => (m s S).bind fun ys S1 => (g (loc S1.length :: ys) (S1 ++ [.ins c []])).bind fun v S2 => newR (loc S1.length) v S2) := by
  obtain ⟨fa, fd, ps, hps, hmg, M, hb, F⟩ := id G.ex
  refine ⟨fun pins s σ H Q I h => ?_⟩
  obtain ⟨ρ, S, f, at_, h⟩ := h
  dsimp only at h
  refine wpAny_Call_Name_kw (ld_glob I hg hmg ?_ hdb)
  have hA := ha.run pos pins s σ H (fun vs H1 => ∃ ds ρ1 S1, At (kx X ca) ρ1 S1 f σ H1 ∧ Reps X.K ρ1 H1 ds vs ∧ m f S = .ok ds S1 ∧ postE (kx X ca) W σ ρ1 H1 ((g (loc S1.length :: ds) (S1 ++ [.ins c []])).bind fun v S2 => newR (loc S1.length) v S2) Q) I ⟨ρ, S, f, at_, ?_⟩
  · refine PySem.W.callWith_K (h₀ := X.base) I.ok.mod.kin M.kp (thn hA fun us s1 ⟨vs, H1, I1, r, ds, ρ1, S1, a1, rp, em, q⟩ => ⟨I1.kIn, ?_⟩) he hpl
    exact new_run G hr tk I1 r a1.rel rp (hm _ _ _ _ em) q
  · cases em : m f S with
    | ok ds S1 =>
      rw [em] at h
      exact fun vs ρ1 H1 e1 r1 p1 => ⟨ds, ρ1, S1, at_.ext e1 r1, p1, rfl, post.mono h e1 fun _ _ z => z⟩
    | ex c fs S1 => rw [em] at h; exact h
    | bad => rw [em] at h; exact h
theorem pe_newF0 {n c : Nat} {x : Str} {g : List D → Sto → Out D} {p pos : Pos} (G : GN X.prog X.w X.K X.mg X.base ca.ad n x c 1 g) (hr : RoomX n X.A) (tk : Takes X W) (hg : Gl X x) (hdb : (x == ("__debug__" : Str)) = false) :
    PE X (.Call (.Name x p) [] [] pos) (tE (kx X ca) W fun s S => (g [loc S.length] (S ++ [.ins c []])).bind fun v S2 => newR (loc S.length) v S2) := by
  obtain ⟨fa, fd, ps, hps, hmg, M, hb, F⟩ := id G.ex
  refine ⟨fun pins s σ H Q I h => ?_⟩
  obtain ⟨ρ, S, f, at_, h⟩ := h
  dsimp only at h
  refine wpAny_Call_Name_kw (ld_glob I hg hmg ?_ hdb)
  exact PySem.W.callWith_K0 I.kIn M.kp (new_run (us := []) (vs := []) (ds := []) G hr tk I .nil at_.rel (show Reps X.K ρ H [] [] from rfl) rfl h)
end
/-- the rule of a def by its body -/
theorem fnG_of {P : Program} {w : World} {K : PySem.W.Frag} {mg : Str → Option Value} {base : Heap} {n : Nat} {f : Addr} {name qual : Str} {params : Arguments} {body : List Stmt} {scope : Scope} {dV kV doc pm cdv ct oc : Value} {an od : Option Addr}
    {osl : Array (Option Value)} {N ps : List Str} {sp : Sp} (lk : K.lookup f = some ⟨oc, od, .func (PySem.W.fnOf name qual params body scope dV kV doc pm an cdv ct), osl⟩) (hcd : PySem.W.codeIn K cdv qual = true) (S : FnScope N ps scope)
    (len : ∀ vs H Q E, sp vs H Q E → vs.length = ps.length)
    (hbody : ∀ (A : Around) (outer : List Env) (s : Shared) (H : Hp) (vs : List V) (Q : VK) (E : XK), RoomX n (A.deeper (envOfC qual scope s.heap.objs.size f cdv)) → sp vs H Q E →
      ∃ t, PSs (cxOf (CX P w) P w K mg base N qual scope f cdv A outer s H E) body t ∧ t { nx := fun _ H' => Q .non H', rt := Q } (start N vs) H) :
    FnG P w K mg base (n + 1) f (PySem.W.fnOf name qual params body scope dV kV doc pm an cdv ct) ps sp := by
  refine ⟨len, fun A outer s H args us vs Q E hr e0 hb r hsp => ?_⟩
  have hl := len _ _ _ _ hsp
  have KX : K.In s.heap := e0.mod.kin.keeps fun b o e => (e0.bs b o e).1
  refine Att.call_fn KX (e0.mod.nolimit.keeps fun b o e => (e0.bs b o e).1) lk hcd hr.depth hb ?_ (fun s1 x => ?_) S.co S.gen S.kind
  · rw [List.all_eq_true]
    rintro ⟨y, v⟩ hy
    rcases S.par y (List.of_mem_zip hy).1 with q | q <;> simp [q]
  · obtain ⟨t, ht, hq⟩ := hbody A outer s H vs Q E (hr.body _) hsp
    have I := inv_start (CX := CX P w) (E := E) S hr.hd e0 hl r x
    refine wpAny_mono (ht.run [] s1 (start N vs) H _ I hq) (fun fl s' hs => ?_) fun e s' hs => hs
    match fl, hs with
    | .ret u, hs =>
      obtain ⟨v, σ', H', J, rv, q⟩ := hs
      exact ⟨v, H', J.os, J.bare, J.base, J.hok, rv, q⟩
    | .next, hs =>
      obtain ⟨σ', H', J, q⟩ := hs
      exact ⟨.non, H', J.os, J.bare, J.base, J.hok, rfl, q⟩
    | .brk, hs => obtain ⟨_, _, _, q⟩ := hs; exact q.elim
    | .cont, hs => obtain ⟨_, _, _, q⟩ := hs; exact q.elim
end Cr
set_option Elab.async false
set_option linter.all false
set_option maxHeartbeats 1000000
/-! Cr9: what a for or a comprehension walks; comprehensions. -/
namespace Cr
open PySem L2 PyProof.Rows
/-! ### moving values between heaps -/
structure Mv (ρ : Lo) (H : Hp) (ρ' : Lo) (H' : Hp) : Prop where
  rd : ∀ a u, ρ.out a → Rd H a u → ρ'.out a ∧ Rd H' a u
  ls : ∀ (n : Nat) (a : Addr), ρ.ls[n]? = some a → ρ'.ls[n]? = some a
section
variable {K : PySem.W.Frag} {ca : Nat → Addr} {ρ ρ' : Lo} {H H' : Hp} {S : Sto}
mutual
theorem Rep.mv (e : Mv ρ H ρ' H') : ∀ (d : D) (v : V), Rep K ρ H d v → Rep K ρ' H' d v
  | .none, _, h => h
  | .bool _, _, h => h
  | .int _, _, h => h
  | .str _, _, h => h
  | .tuple xs, v, h => by
    obtain ⟨a, vs, h1, h2, h3⟩ := h
    exact ⟨a, vs, h1, h2.elim (fun q => .inl (e.rd _ _ q.1 q.2)) .inr, Reps.mv e xs vs h3⟩
  | .list xs, v, h => by
    obtain ⟨a, vs, h1, h2, h3⟩ := h
    exact ⟨a, vs, h1, h2.elim (fun q => .inl (e.rd _ _ q.1 q.2)) .inr, Reps.mv e xs vs h3⟩
  | .dict kvs, v, h => by
    obtain ⟨n, a, h1, h2, h3⟩ := h
    exact ⟨n, a, h1, e.ls n a h2, h3⟩
theorem Reps.mv (e : Mv ρ H ρ' H') : ∀ (ds : List D) (vs : List V), Reps K ρ H ds vs → Reps K ρ' H' ds vs
  | [], _, h => h
  | x :: xs, vs, h => by
    obtain ⟨v, r, h1, h2, h3⟩ := h
    exact ⟨v, r, h1, Rep.mv e x v h2, Reps.mv e xs r h3⟩
end
theorem ObR.mv {a : Addr} {o : Ob} (e : Mv ρ H ρ' H') (ha : H' a = H a) (h : ObR K ca ρ H a o) : ObR K ca ρ' H' a o := by
  cases o with
  | lst ds =>
    obtain ⟨vs, h1, h2⟩ := h
    exact ⟨vs, ha.trans h1, Reps.mv e _ _ h2⟩
  | dic kvs =>
    obtain ⟨vs, h1, h2, h3, h4⟩ := h
    exact ⟨vs, ha.trans h1, h2, h3, Reps.mv e _ _ h4⟩
  | ins c fs =>
    obtain ⟨dx, vs, h1, h2, h3⟩ := h
    exact ⟨dx, vs, ha.trans h1, h2, Reps.mv e _ _ h3⟩
/-- an address blocked, freed -/
def Lo.blk (ρ : Lo) (a : Addr) : Lo := ⟨ρ.ls, a :: ρ.bl⟩
def Lo.unb (ρ : Lo) : Lo := ⟨ρ.ls, ρ.bl.tail⟩
theorem Mv.blk {a : Addr} {o : HO} (hn : H a = none) : Mv ρ H (ρ.blk a) (upd H a o) :=
  ⟨fun b u ho hr => by
    have hb : b ≠ a := fun q => (Rd.ne hr) (by rw [q]; exact hn)
    refine ⟨⟨ho.1, fun q => ?_⟩, ?_⟩
    · rcases List.mem_cons.mp q with q | q
      · exact hb q
      · exact ho.2 q
    · rcases hr with hr | ⟨z, hr⟩
      · exact .inl (by rw [upd_ne hb]; exact hr)
      · exact .inr ⟨z, by rw [upd_ne hb]; exact hr⟩, fun _ _ h => h⟩
theorem Mv.unb : Mv ρ H ρ.unb H := ⟨fun b u ho hr => ⟨⟨ho.1, fun q => ho.2 (List.mem_of_mem_tail q)⟩, hr⟩, fun _ _ h => h⟩
theorem Mv.poke {a : Addr} {o : HO} (ha : a ∈ ρ.bl) : Mv ρ H ρ (upd H a o) :=
  ⟨fun b u ho hr => by
    have hb : b ≠ a := fun q => ho.2 (by rw [q]; exact ha)
    refine ⟨ho, ?_⟩
    rcases hr with hr | ⟨z, hr⟩
    · exact .inl (by rw [upd_ne hb]; exact hr)
    · exact .inr ⟨z, by rw [upd_ne hb]; exact hr⟩, fun _ _ h => h⟩
theorem Rel.blk (r : Rel K ca ρ S H) {a : Addr} {o : HO} (hn : H a = none) : Rel K ca (ρ.blk a) S (upd H a o) :=
  ⟨r.nd, r.ln, fun i b o' h1 h2 => (r.ob i b o' h1 h2).mv (.blk hn) (upd_ne fun q => (r.notin hn).1 (q ▸ List.mem_of_getElem? h1)), fun b hb => by
    rcases List.mem_cons.mp hb with rfl | hb
    · exact ⟨(r.notin hn).1, by rw [upd_same]; exact fun z => nomatch z⟩
    · exact ⟨(r.bl b hb).1, by rw [upd_ne fun q => (r.bl b hb).2 (by rw [q]; exact hn)]; exact (r.bl b hb).2⟩⟩
theorem Rel.unb (r : Rel K ca ρ S H) : Rel K ca ρ.unb S H :=
  ⟨r.nd, r.ln, fun i b o' h1 h2 => (r.ob i b o' h1 h2).mv .unb rfl, fun b hb => r.bl b (List.mem_of_mem_tail hb)⟩
theorem Rel.poke (r : Rel K ca ρ S H) {a : Addr} {o : HO} (ha : a ∈ ρ.bl) : Rel K ca ρ S (upd H a o) :=
  ⟨r.nd, r.ln, fun i b o' h1 h2 => (r.ob i b o' h1 h2).mv (.poke ha) (upd_ne fun q => (r.bl a ha).1 (q ▸ List.mem_of_getElem? h1)), fun b hb => ⟨(r.bl b hb).1, by
    by_cases q : b = a
    · rw [q, upd_same]; exact fun z => nomatch z
    · rw [upd_ne q]; exact (r.bl b hb).2⟩⟩
theorem FRel.mv {k : Kx} {s : Fr} {σ : L2.St} (f : FRel k ρ H s σ) (hx : k.xs = []) (e : Mv ρ H ρ' H') : FRel k ρ' H' s σ :=
  ⟨f.len, f.le, fun i d hi h => let ⟨v, h1, h2⟩ := f.at_ i d hi h; ⟨v, h1, Rep.mv e d v h2⟩, fun p hp => absurd hp (by rw [hx]; exact List.not_mem_nil), f.ex⟩
/-! ### walking -/
def Walks (K : PySem.W.Frag) (ca : Nat → Addr) (J : It) (d : D) (v : V) (xs : List D) : Prop :=
  ∀ ρ S H, Rel K ca ρ S H → Rep K ρ H d v → stays d xs S = true → ∀ i : Nat, (∀ x, xs[i]? = some x → J.go i H ∧ ∀ y H', J.yld i H y H' → H' = H ∧ Rep K ρ H x y) ∧ (xs.length ≤ i → J.stop i H)
open Classical in
theorem stays_iff {d : D} {xs : List D} {S : Sto} : stays d xs S = true ↔ (lv S d = .list xs ∨ lv S d = .tuple xs ∨ d = .none) := by
  unfold stays
  rw [decide_eq_true_eq]
theorem lv_nt {S S' : Sto} {d : D} {xs ys : List D} (h : lv S d = .list xs) : lv S' d ≠ .tuple ys := fun q => by
  have := lv_of q (fun _ z => nomatch z)
  subst this
  cases h
theorem walks_list {d : D} {a : Addr} {xs : List D} {S0 : Sto} (h0 : lv S0 d = .list xs) : Walks K ca (Itl K a) d (.ref a) xs := by
  intro ρ S H r p st i
  have e : lv S d = .list xs := by
    rcases stays_iff.mp st with q | q | q
    · exact q
    · exact absurd q (lv_nt h0)
    · subst q; cases h0
  obtain ⟨b, vs, eb, h1, h2⟩ := lv_list r p e
  cases eb
  refine ⟨fun x hx => ?_, fun hi => ⟨vs, h1.sq, by rw [h2.length]; exact hi⟩⟩
  obtain ⟨v, hv, pv⟩ := h2.get hx
  exact ⟨⟨vs, v, h1.sq, hv⟩, fun y H' hy => ⟨hy.1, by
    have := hy.2 vs h1.sq
    rw [hv] at this; cases this
    exact pv⟩⟩
theorem walks_tup {a : Addr} {xs : List D} : Walks K ca (Itt K a) (.tuple xs) (.ref a) xs := by
  intro ρ S H r p st i
  obtain ⟨b, vs, eb, h1, h2⟩ := p
  cases eb
  refine ⟨fun x hx => ?_, fun hi => ⟨vs, h1.sq, by rw [h2.length]; exact hi⟩⟩
  obtain ⟨v, hv, pv⟩ := h2.get hx
  exact ⟨⟨vs, v, h1.sq, hv⟩, fun y H' hy => ⟨hy.1, by
    have := hy.2 vs h1.sq
    rw [hv] at this; cases this
    exact pv⟩⟩
theorem walks_str {z : Str} : Walks K ca (Its z) .none .non (z.cps.toList.map fun c => .str ⟨#[c]⟩) := by
  intro ρ S H r p st i
  refine ⟨fun x hx => ?_, fun hi => ?_⟩
  · rw [List.getElem?_map] at hx
    cases e : z.cps.toList[i]? with
    | none => rw [e] at hx; cases hx
    | some c =>
      rw [e] at hx
      cases hx
      have hi := (List.getElem?_eq_some_iff.mp e).1
      rw [Array.length_toList] at hi
      refine ⟨hi, fun y H' hy => ⟨hy.1, ?_⟩⟩
      obtain ⟨_, c', hc, rfl⟩ := hy
      rw [Array.getElem?_toList, hc] at e
      cases e
      exact rfl
  · show z.cps.size ≤ i
    simpa using hi
theorem walks_rng {lo : Int} {n : Nat} : Walks K ca (Itr lo n) .none .non (rngL lo n) := by
  intro ρ S H r p st i
  refine ⟨fun x hx => ?_, fun hi => ?_⟩
  · unfold rngL at hx
    rw [List.getElem?_map] at hx
    cases e : (List.range n)[i]? with
    | none => rw [e] at hx; cases hx
    | some c =>
      rw [e] at hx
      cases hx
      have hi := (List.getElem?_eq_some_iff.mp e).1
      rw [List.length_range] at hi
      have hc : c = i := by
        rw [List.getElem?_range hi] at e
        cases e; rfl
      subst hc
      exact ⟨hi, fun y H' hy => ⟨hy.1, hy.2⟩⟩
  · show n ≤ i
    unfold rngL at hi
    simpa using hi
end
/-- what an iterator is to be -/
def postI (k : Kx) (W : WX) (σ : L2.St) (ρ : Lo) (H : Hp) (o : Out (D × List D)) (R : It → Hp → Prop) : Prop :=
  match o with
  | .ok p S => ∀ v ρ' H' J, Ext ρ H ρ' H' → Rel k.K k.ca ρ' S H' → Rep k.K ρ' H' p.1 v → stays p.1 p.2 S = true → Walks k.K k.ca J p.1 v p.2 → R J H'
  | .ex c fs S => ∀ ρ' H' cls d, Ext ρ H ρ' H' → Rel k.K k.ca ρ' S H' → Exn k.K k.ca ρ' H' c fs cls d → W cls d σ H'
  | .bad => False
def tI (k : Kx) (W : WX) (m : Fr → Sto → Out (D × List D)) : TI := fun σ H R => ∃ ρ S s, At k ρ S s σ H ∧ postI k W σ ρ H (m s S) R
section
variable {X : Cx} {ca : CA} {W : WX}
theorem pi_or {tg e : Expr} {w1 w2 : TI} (h1 : PI X tg e w1) (h2 : PI X tg e w2) : PI X tg e (fun σ H R => w1 σ H R ∨ w2 σ H R) :=
  ⟨fun pins s σ H R I h => h.elim (h1.run pins s σ H R I) (h2.run pins s σ H R I)⟩
theorem pi_walked {tg e : Expr} {m : Fr → Sto → Out D} (he : PE X e (tE (kx X ca) W m)) : PI X tg e (tI (kx X ca) W fun s S => (m s S).bind fun x S1 => walked x S1) := by
  have h3 := pi_or (pi_list (tg := tg) he) (pi_or (pi_tup he) (pi_str he))
  refine ⟨fun pins s σ H R I h => h3.run pins s σ H R I ?_⟩
  obtain ⟨ρ, S, f, a, h⟩ := h
  cases em : m f S with
  | bad =>
    dsimp only at h
    rw [em] at h
    exact h.elim
  | ex c fs S1 =>
    dsimp only at h
    rw [em] at h
    refine .inl ⟨ρ, S, f, a, ?_⟩
    rw [em]
    exact h
  | ok d S1 =>
    dsimp only at h
    rw [em] at h
    rw [bind_ok] at h
    unfold walked at h
    split at h
    · rename_i xs hl
      refine .inl ⟨ρ, S, f, a, ?_⟩
      rw [em]
      intro v ρ1 H1 e1 r1 p1
      obtain ⟨b, vs, rfl, h1, h2⟩ := lv_list r1 p1 hl
      exact ⟨b, rfl, ⟨vs, h1.sq⟩, h _ ρ1 H1 _ e1 r1 p1 (stays_iff.mpr (.inl hl)) (walks_list hl)⟩
    · rename_i xs hl
      obtain rfl := lv_of hl (fun _ z => nomatch z)
      refine .inr (.inl ⟨ρ, S, f, a, ?_⟩)
      rw [em]
      intro v ρ1 H1 e1 r1 p1
      obtain ⟨b, vs, rfl, h1, h2⟩ := id p1
      exact ⟨b, rfl, ⟨vs, h1.sq⟩, h _ ρ1 H1 _ e1 r1 p1 (stays_iff.mpr (.inr (.inl hl))) walks_tup⟩
    · rename_i z hl
      obtain rfl := lv_of hl (fun _ z => nomatch z)
      refine .inr (.inr ⟨ρ, S, f, a, ?_⟩)
      rw [em]
      intro v ρ1 H1 e1 r1 p1
      exact ⟨z, p1, h .non ρ1 H1 _ e1 r1 rfl (stays_iff.mpr (.inr (.inr rfl))) walks_str⟩
    · exact h.elim
theorem pi_rng1 {tg a : Expr} {p pos : Pos} {m : Fr → Sto → Out (List D)} (hg : Gl X "range") (hm : X.mg "range" = none) (ha : PA X [a] (tA (kx X ca) W m)) (hs : starEach [a] X.env = [(false, eval a X.env)]) (hl : ∀ s S ds S', m s S = .ok ds S' → ds.length = 1) :
    PI X tg (.Call (.Name "range" p) [a] [] pos) (tI (kx X ca) W fun s S => (m s S).bind fun x S1 => rangeD x S1) := by
  have h1 := pi_range1 (tg := tg) (p := p) (pos := pos) hg hm ha hs
  refine ⟨fun pins s σ H R I h => h1.run pins s σ H R I ?_⟩
  obtain ⟨ρ, S, f, at_, h⟩ := h
  dsimp only at h
  refine ⟨ρ, S, f, at_, ?_⟩
  cases em : m f S with
  | bad => rw [em] at h; exact h.elim
  | ex c fs S1 => rw [em] at h; exact h
  | ok ds S1 =>
    rw [em, bind_ok] at h
    intro vs ρ1 H1 e1 r1 p1
    unfold rangeD at h
    split at h
    · rename_i j
      obtain ⟨v, rfl, rfl⟩ := one_of p1
      split at h
      · rename_i hj
        exact ⟨j, rfl, hj.1, hj.2, h .non ρ1 H1 _ e1 r1 rfl (stays_iff.mpr (.inr (.inr rfl))) walks_rng⟩
      · exact h.elim
    · have := hl _ _ _ _ em
      simp at this
    · exact h.elim
theorem pi_rng2 {tg a b : Expr} {p pos : Pos} {m : Fr → Sto → Out (List D)} (hg : Gl X "range") (hm : X.mg "range" = none) (ha : PA X [a, b] (tA (kx X ca) W m)) (hs : starEach [a, b] X.env = [(false, eval a X.env), (false, eval b X.env)]) (hs2 : starEach [b] X.env = [(false, eval b X.env)])
    (hl : ∀ s S ds S', m s S = .ok ds S' → ds.length = 2) : PI X tg (.Call (.Name "range" p) [a, b] [] pos) (tI (kx X ca) W fun s S => (m s S).bind fun x S1 => rangeD x S1) := by
  have h1 := pi_range2 (tg := tg) (p := p) (pos := pos) hg hm ha hs hs2
  refine ⟨fun pins s σ H R I h => h1.run pins s σ H R I ?_⟩
  obtain ⟨ρ, S, f, at_, h⟩ := h
  dsimp only at h
  refine ⟨ρ, S, f, at_, ?_⟩
  cases em : m f S with
  | bad => rw [em] at h; exact h.elim
  | ex c fs S1 => rw [em] at h; exact h
  | ok ds S1 =>
    rw [em, bind_ok] at h
    intro vs ρ1 H1 e1 r1 p1
    unfold rangeD at h
    split at h
    · have := hl _ _ _ _ em
      simp at this
    · rename_i i j
      obtain ⟨v, w, rfl, rfl, q⟩ := p1
      obtain ⟨v2, rfl, rfl⟩ := one_of q
      split at h
      · rename_i hj
        exact ⟨i, j, rfl, ⟨hj.1.1, hj.1.2, hj.2.1, hj.2.2⟩, h .non ρ1 H1 _ e1 r1 rfl (stays_iff.mpr (.inr (.inr rfl))) walks_rng⟩
      · exact h.elim
    · exact h.elim
end
end Cr
set_option Elab.async false
set_option linter.all false
set_option maxRecDepth 100000
set_option maxHeartbeats 4000000
/-! CrC: a comprehension out of whose block an exception leaves. -/
namespace Cr
open PySem L2 PyProof.Rows
/-! ### notes of a frame -/
theorem note_same {e : Value} {a b : Env} (h : a.frame = b.frame) : noteFrame e a = noteFrame e b := by
  unfold noteFrame PySem.frameOf
  rw [h]
theorem on_same {α : Type} {what : String} {e : Value} {a b : Env} (h : a.frame = b.frame) : (PySem.passOn what e a : Sem α) = PySem.passOn what e b := by
  unfold PySem.passOn
  rw [h]
section
variable {M : Model} {A : Around} {E : Value → Shared → Prop} {s : Shared} {Z : Obj → Prop} {B : Heap} {fe : Env} {rest : List Env} {F L a : Addr}
/-- held by another frame's number, noted here -/
theorem note_held {Q : Unit → Shared → Prop} (hZ : HandSPX.Steady Z) (hfr : A.frames = some (fe :: rest)) (hf : fe.frame = some F) (hne : L ≠ F) (x : HandSPX.HeldZ B (fe :: rest) a Z L s.heap)
    (q : ∀ h', HandSPX.HeldZ B (fe :: rest) a Z F h' → s.heap.UpToSlots h' → Q () { s with heap := h' }) : wpAny M A (noteFrame (.ref a) fe) Q E s := by
  obtain ⟨g1, g2, g3, o, vs, T, oT, ts, e1, e2, e3, e4, e5, e6, e7, e8, e9⟩ := x
  have nr : (Value.ref T != Value.none) = true := by simp
  have nl : ¬ (rawInt L == rawInt F) = true := by
    have hi : ¬ (L : Int) = (F : Int) := fun z => hne (Int.ofNat.inj z)
    simp [rawInt, hi]
  unfold noteFrame
  simp only [hf]
  refine wpAny_bind (wpAny_field e1 e3 e4 ?_)
  rw [if_pos nr]
  refine wpAny_bind (wpAny_field e7 e8 e9 ?_)
  rw [if_neg nl]
  have far : ∀ b, T ≠ b → (s.heap.update T (Obj.mapFields (·.setIfInBounds 3 Value.none))).get? b = s.heap.get? b := fun b hb => Heap.get?_update_other _ _ hb
  have plainObj : ∀ b u, s.heap.get? b = some u → (∀ xs, u.data ≠ .fields xs) → T ≠ b := fun b u hb hn z => by
    rw [← z, e7] at hb
    cases hb
    exact hn ts e8
  refine wpAny_bind (wpAny_setField e7 e8 (Array.getElem?_eq_some_iff.mp e9).1 ?_)
  refine HandSPX.wpAny_entryZ hZ hfr (g3.of_keeps fun b u hb hn => ⟨u, (far b (plainObj b u hb hn)).trans hb, rfl⟩) hf ((far a e6).trans e1) (fun b u hb => ?_) g2 e3 (Array.getElem?_eq_some_iff.mp e4).1 e2 fun h' hN => ?_
  · exact (far b fun z => by rw [← z, e5] at hb; cases hb).trans (g1 b u hb)
  · obtain ⟨x1, x2, x3, x4⟩ := hN
    exact q h' ⟨x1, g2, x2, x3⟩ fun b u hb hn => x4 b u ((far b (plainObj b u hb hn)).trans hb) hn
theorem note_sky {Q : Unit → Shared → Prop} (hZ : HandSPX.Steady Z) (hfr : A.frames = some (fe :: rest)) (hf : fe.frame = some F) (hne : L ≠ F) (x : Sky B (fe :: rest) a Z L s.heap)
    (q : ∀ h', HandSPX.HeldZ B (fe :: rest) a Z F h' → s.heap.UpToSlots h' → Q () { s with heap := h' }) : wpAny M A (noteFrame (.ref a) fe) Q E s := by
  rcases x with ⟨b1, b2, b3, o, vs, b4, b5, b6, b7⟩ | fl | hh
  · exact HandSPX.look_newZ hZ hfr b3 hf b4 b1 b2 b6 b7 b5 q
  · exact HandSPX.looks_onZ hZ hfr hf fl q
  · exact note_held hZ hfr hf hne hh q
end
/-! ### the end of a comprehension's block, told its frame -/
section
variable {M : Model} {A : Around} {E : Value → Shared → Prop} {s : Shared} {env : Env}
def blkEnd (M : Model) (A : Around) (E : Value → Shared → Prop) (use : Option (Value → Sem Unit)) (Q : Value → Shared → Prop) (acc : Value) (C : Addr) (F : Option Addr) : Result → Shared → Prop
  | .ok f, s' => compPost M A E use Q acc C (.ok f) s'
  | .error x, s' => ∃ m, s'.heap.Ns C m ∧ ∀ h', Heap.SameBut C s'.heap h' → ∀ cenv : Env, cenv.frame = F → wpAny M A (PySem.passOn "comprehension.variables-let-go" x cenv : Sem Value) (fun _ _ => False) E { s' with heap := h' }
theorem comp_free {e : Expr} {scope : Scope} {pos : Pos} {newAcc first : Sem Value} {g : Comprehension} {gs : List Comprehension} {cl : List (Str × Addr)} {use : Option (Value → Sem Unit)} {Q : Value → Shared → Prop}
    (hcl : clausesOf e = g :: gs) (hs : ∀ x, foldedSetIterable g.iter env x = pure x) (hclos : closureFor scope env = pure cl) (hk : scope.kind = .function) (hn : ∀ x ∈ scope.names, x.2 = .local → scope.names.lookup x.1 = some .local)
    (h : wpAny M A first (fun x s₁ => wpAny M A (pyIter x) (fun it s₂ => wpAny M A newAcc (fun acc s₃ =>
      wpAny M A (newFunctionEnv scope env.globals cl [] env.qual none .none (some env)) (fun cenv s₄ =>
        codeAny M A (.compStart e 0 it acc { cenv with scope := relabel scope env }) (blkEnd M A E use Q acc cenv.locals cenv.frame) s₄) E s₃) E s₂) E s₁) E s) :
    wpAny M A (comprehension e scope env pos newAcc false first use) Q E s := by
  unfold comprehension
  rw [hclos, hcl]
  refine wpAny_bind (wpAny_mono h (fun x s₁ h₁ => wpAny_bind (wpAny_standAt (wpAny_bind (wpAny_of_eq (hs x) (wpAny_bind (wpAny_holding (wpAny_mono h₁ (fun it s₂ h₂ =>
    wpAny_standIf (wpAny_bind (wpAny_mono h₂ (fun acc s₃ h₃ => wpAny_bind (wpAny_pure (wpAny_bind (wpAny_mono h₃ (fun cenv s₄ h₄ => ?_) fun _ _ y => y)))) fun _ _ y => y)))
      fun _ _ y => y))))))) fun _ _ y => y)
  dsimp only
  generalize hvs : (scope.names.filter fun x => (x.2 == .local || x.2 == .cell) && x.1 != (".0" : Str)) = vs
  have one : ∀ y ∈ vs, y.2 = .local → Env.kindOf { cenv with scope := relabel scope env } y.1 = some .local := fun y hy hl =>
    lookup_relabel_local (hn y (by rw [← hvs] at hy; exact (List.mem_filter.mp hy).1) hl)
  have rev : ∀ y ∈ vs.reverse, y.2 = .local → Env.kindOf { cenv with scope := relabel scope env } y.1 = some .local := fun y hy => one y (List.mem_reverse.mp hy)
  have two : ∀ y ∈ vs.reverse.drop 1 ++ vs.reverse.take 1, y.2 = .local → Env.kindOf { cenv with scope := relabel scope env } y.1 = some .local := fun y hy =>
    rev y ((List.mem_append.mp hy).elim List.mem_of_mem_drop List.mem_of_mem_take)
  refine wpAny_holding (wpAny_bind (wpAny_attempt (wpAny_holding (wpAny_run (codeAny_mono h₄ fun r s' hr => ?_)))))
  match r, use, hr with
  | .ok f, none, hr =>
    obtain ⟨m, hm, hr⟩ := hr
    exact wpAny_bind (wpAny_holding (wpAny_comp_letGo (cenv := { cenv with scope := relabel scope env }) hk _ s' m rev hm fun h' m' _ q => wpAny_pure (hr h' q)))
  | .ok f, some u, hr =>
    refine wpAny_bind (wpAny_rule (wpAny_bind (wpAny_holding (wpAny_mono hr (fun _ s'' hz => ?_) fun _ _ y => y))))
    obtain ⟨m, hm, hz⟩ := hz
    exact wpAny_bind (wpAny_comp_letGo (cenv := { cenv with scope := relabel scope env }) hk _ s'' m two hm fun h' m' _ q => wpAny_pure (hz h' q))
  | .error x, none, hr =>
    obtain ⟨m, hm, hr⟩ := hr
    exact wpAny_bind (wpAny_holding (wpAny_comp_letGo (cenv := { cenv with scope := relabel scope env }) hk _ s' m rev hm fun h' m' _ q => wpAny_mono (hr h' q _ rfl) (fun _ _ z => z.elim) fun _ _ y => y))
  | .error x, some u, hr =>
    obtain ⟨m, hm, hr⟩ := hr
    exact wpAny_bind (wpAny_holding (wpAny_comp_letGo (cenv := { cenv with scope := relabel scope env }) hk _ s' m rev hm fun h' m' _ q => wpAny_mono (hr h' q _ rfl) (fun _ _ z => z.elim) fun _ _ y => y))
end
/-! ### the block -/
/-- the context of a block that lets exceptions out -/
abbrev blkX (X : Cx) (s : Shared) (H : Hp) (scope : Scope) (cenv : Env) (fp : List Addr) (xe : Value → Shared → Prop) : Cx := { X.blk s H scope cenv fp with xe := xe }
theorem Inv.toX {X : Cx} {s : Shared} {H : Hp} {scope : Scope} {cenv : Env} {fp : List Addr} {xe : Value → Shared → Prop} {pins : List (Addr × Obj)} {σ : L2.St} {H' : Hp} {s' : Shared} (I : Inv (X.blk s H scope cenv fp) pins σ H' s') : Inv (blkX X s H scope cenv fp xe) pins σ H' s' := I.wish xe
/-- what the block wishes of an exception -/
abbrev wOut (W : WX) (σ : L2.St) : WX := fun cls d _ H => W cls d σ H
/-- a def's body (no block of it) -/
structure Own (X : Cx) : Prop where
  stk : X.stack = X.env :: X.outer
  frm : X.env.frame = some X.env.locals
theorem frames_less {h h' B B' : Heap} (hB : ∀ b o, B'.get? b = some o → B.get? b = some o) : ∀ {l : List Env}, (∀ L ∈ frs l, h'.get? L = h.get? L) → h.FunFrames B l → h'.FunFrames B' l
  | [], _, _ => trivial
  | env :: l, hh, hx => by
    obtain ⟨h1, ⟨L, o, h2, h3, h4, h5⟩, h6⟩ := hx
    refine ⟨h1, ⟨L, o, h2, ?_, (hh L (List.mem_filterMap.mpr ⟨env, List.mem_cons_self, h2⟩)).trans h4, h5⟩, frames_less hB (fun b hb => hh b ?_) h6⟩
    · match e : B'.get? L with
      | none => rfl
      | some o' => rw [hB L o' e] at h3; cases h3
    · obtain ⟨e, he, q⟩ := List.mem_filterMap.mp hb
      exact List.mem_filterMap.mpr ⟨e, List.mem_cons_of_mem _ he, q⟩
theorem blk_raise {X : Cx} {W : WX} {pins : List (Addr × Obj)} {σ : L2.St} {H3 : Hp} {s3 : Shared} {scope : Scope} {cl : List (Str × Addr)} {fp : List Addr} {use : Option (Value → Sem Unit)} {Qf : Value → Shared → Prop} {acc : Value} {xe : Value → Shared → Prop}
    (own : Own X) (tk : Takes X W) (I3 : Inv X pins σ H3 s3) (f3 : ∀ b ∈ fp, FpOk X pins H3 b ∧ b < s3.heap.objs.size) {u : Value} {s' : Shared}
    (x : XE (blkX X s3 H3 scope (compEnvC scope cl s3.heap.objs.size X.env) fp xe) (wOut W σ) u s') :
    notedBy (model X.prog X.w) X.A (compEnvC scope cl s3.heap.objs.size X.env) (fun e s'' => blkEnd (model X.prog X.w) X.A X.xe use Qf acc s3.heap.objs.size X.env.frame (.error e) s'') u s' := by
  obtain ⟨a, B, sI, pins', σ', H', cls, d, rfl, J, nb, up, sky, na, os, ag, w⟩ := x
  generalize hC : s3.heap.objs.size = C at *
  have hfr : X.A.frames = some (X.env :: X.outer) := by rw [← own.stk]; exact I3.ok.frames
  have nC : C ≠ X.env.locals := by rw [← hC]; exact Nat.ne_of_gt I3.lt
  have J : Inv (blkX X s3 H3 scope (compEnvC scope cl C X.env) fp xe) pins' σ' H' sI := J
  -- the block's own dict
  obtain ⟨m, ⟨oC, es, ep, c1, c2, c3⟩, _⟩ := id J.loc
  have c1 : sI.heap.get? C = some oC := c1
  have hHC : H' C = none := J.free
  have sky : Sky B (X.env :: X.outer) a (Zc cls d) C s'.heap := by rw [← own.stk]; exact sky
  show wpAny _ _ (noteFrame (.ref a) (compEnvC scope cl C X.env)) _ _ s'
  rw [note_same (a := compEnvC scope cl C X.env) (b := X.env) rfl]
  refine note_sky Zc.steady hfr own.frm nC sky fun h1 hh up1 => ?_
  have up2 := up.trans up1
  obtain ⟨sl, cC⟩ := up2 C oC c1 (fun vs z => by rw [c2] at z; cases z)
  refine ⟨m, ⟨_, es, ep, cC, c2, c3⟩, fun h2 sb cenv hce => ?_⟩
  rw [on_same (b := X.env) hce]
  -- the ground without the block's dict
  obtain ⟨B', k1, k2⟩ := restrict B fun b => decide (b ≠ C)
  have hB : ∀ b o, B'.get? b = some o → B.get? b = some o ∧ b ≠ C := fun b o e => by
    by_cases q : b = C
    · rw [q, k2 C (by simp)] at e; cases e
    · rw [k1 b (by simpa using q)] at e; exact ⟨e, q⟩
  have hB' : ∀ b o, b ≠ C → B.get? b = some o → B'.get? b = some o := fun b o q e => by rw [k1 b (by simpa using q)]; exact e
  obtain ⟨G, g1, g2⟩ := restrict sI.heap fun b => decide (b ≠ C)
  have hG : ∀ b o, G.get? b = some o → sI.heap.get? b = some o ∧ b ≠ C := fun b o e => by
    by_cases q : b = C
    · rw [q, g2 C (by simp)] at e; cases e
    · rw [g1 b (by simpa using q)] at e; exact ⟨e, q⟩
  have hG' : ∀ b o, b ≠ C → sI.heap.get? b = some o → G.get? b = some o := fun b o q e => by rw [g1 b (by simpa using q)]; exact e
  have old : ∀ b o, s3.heap.get? b = some o → b ≠ C := fun b o e => by rw [← hC]; exact Nat.ne_of_lt (Heap.lt_size e)
  -- held, behind the names that went
  have fld : ∀ {b : Addr} {o : Obj} {vs : Array Value}, h1.get? b = some o → o.data = .fields vs → b ≠ C := fun {b o vs} e q z => by
    rw [z, cC] at e; cases e; rw [c2] at q; cases q
  have hh2 : HandSPX.HeldZ B' (X.env :: X.outer) a (Zc cls d) X.env.locals h2 := by
    obtain ⟨x1, x2, x3, o, vs, T, oT, ts, e1, e2, e3, e4, e5, e6, e7, e8, e9⟩ := hh
    refine ⟨fun b u hb => ?_, ?_, ?_, o, vs, T, oT, ts, (sb.2 a (fld e1 e3)).trans e1, e2, e3, e4, ?_, e6, (sb.2 T (fld e7 e8)).trans e7, e8, e9⟩
    · obtain ⟨hb, q⟩ := hB b u hb
      exact (sb.2 b q).trans (x1 b u hb)
    · cases e : B'.get? a with
      | none => rfl
      | some o' => rw [(hB a o' e).1] at x2; cases x2
    · refine frames_less (fun b o e => (hB b o e).1) (fun L hL => sb.2 L fun z => ?_) x3
      have hL : L ∈ frs X.stack := by rw [own.stk]; exact hL
      obtain ⟨_, o, e, _⟩ := I3.stack.mem hL
      exact old L o e z
    · cases e : B'.get? T with
      | none => rfl
      | some o' => rw [(hB T o' e).1] at e5; cases e5
  -- the state without the exception and without the block's dict, as one of the def's
  have stk : ∀ b, b ∈ frs (blkX X s3 H3 scope (compEnvC scope cl C X.env) fp xe).stack ↔ b ∈ frs X.stack := fun b => Iff.rfl
  have JX : Inv X pins σ H' { sI with heap := G } := by
    have U := J.base
    refine I3.call' (ch := fp) J.os ⟨fun b o e n hf hx => hG' b o (old b o e) (U.keep b o e n hf hx), fun b o e n hf hx => ?_, U.free, fun b o e hx => ?_, U.tups, U.frzs, U.tbls⟩ (fun b o e => ?_) J.bare fun b hb => ⟨(f3 b hb).1.2.2.2.1, (f3 b hb).1.2.1, (f3 b hb).1.2.2.2.2.1, (f3 b hb).1.2.2.2.2.2⟩
    · obtain ⟨sl, e1⟩ := U.slot b o e n hf hx
      exact ⟨sl, hG' b _ (old b o e) e1⟩
    · obtain ⟨o', e1⟩ := U.there b o e hx
      exact ⟨o', hG' b _ (old b o e) e1⟩
    · have nb' : ∀ c, (c = b ∨ H' c = some (.own b)) → c ≠ C := fun c hc z => by
        rw [z] at hc
        rcases hc with hc | hc
        · rw [← hc, hHC] at e; cases e
        · rw [hHC] at hc; cases hc
      exact (J.hok b o e).stay (fun c v hc z => hG' c v (nb' c hc) z) (fun _ z => z) fun _ _ z => z
  obtain ⟨x1, x2, x3, o, vs, T, oT, ts, e1, e2, e3, e4, e5, e6, e7, e8, e9⟩ := id hh2
  unfold PySem.passOn
  refine wpAny_bind (wpAny_field e1 e3 e4 ?_)
  rw [if_neg (show ¬ ((Value.ref T == Value.none) = true) from by simp)]
  rw [own.frm]
  have last : wpAny (model X.prog X.w) X.A (setFlight (.ref a) (some X.env.locals)) (fun _ s4 => wpAny (model X.prog X.w) X.A (throw (.ref a) : Sem Value) (fun _ _ => False) X.xe s4) X.xe { s' with heap := h2 } := by
    refine HandSPX.setFlight_onZ hh2 fun h4 hh4 up4 => wpAny_throw (tk _ _ ?_)
    refine ⟨a, B', { sI with heap := G }, pins, σ, H', cls, d, rfl, JX, fun b o e hf => (fun q => hB' b o q.2 (nb b o q.1 hf)) (hG b o e), fun b o e hn => ?_, .inr (.inr (by rw [own.stk]; exact hh4)), na, os, ag, w⟩
    obtain ⟨e1, e2⟩ := hG b o e
    obtain ⟨sl, e3⟩ := up2 b o e1 hn
    exact up4 b { o with slots := sl } ((sb.2 b e2).trans e3) hn
  first
    | exact wpAny_bind (wpAny_pure (wpAny_bind last))
    | exact wpAny_bind last

/-! ### the rule -/
/-- [elt for target in iter if ..] that may raise: as tLc, what is raised wished for at the slots ahead -/
def tLcX (W : WX) (wi : TI) (g : TG) (tt : WX → TT) (te : WX → TE) (vs : List Nat) : TE := fun σ H Q => tLc wi g (tt (wOut W σ)) (te (wOut W σ)) vs σ H Q
section
variable {X : Cx} {W : WX}
theorem lcx_core {pins : List (Addr × Obj)} {s : Shared} {σ : L2.St} {H : Hp} {Q : VK} {elt tg iter : Expr} {ifs : List Expr} {scope : Scope} {own : List (Str × Nat)} {pos pos' : Pos} {wi : TI} {g : TG} {tt : WX → TT} {te : WX → TE} {use : Option (Value → Sem Unit)} {Qf : Value → Shared → Prop}
    (hc : X.calm = true) (hN : X.N.Nodup) (ow : Own X) (tk : Takes X W) (I : Inv X pins σ H s) (hi : PI X tg iter wi) (ok : BlkOk X.N X.env.scope scope own)
    (hg : ∀ (s : Shared) (H : Hp) (C : Addr) (cl : List (Str × Addr)) (fp : List Addr) (xe : Value → Shared → Prop), PG (blkX X s H scope (compEnvC scope cl C X.env) fp xe) tg g)
    (ht : ∀ (s : Shared) (H : Hp) (C : Addr) (cl : List (Str × Addr)) (fp : List Addr) (xe : Value → Shared → Prop) (W' : WX), Takes (blkX X s H scope (compEnvC scope cl C X.env) fp xe) W' → PTs (blkX X s H scope (compEnvC scope cl C X.env) fp xe) ifs (tt W'))
    (he : ∀ (s : Shared) (H : Hp) (C : Addr) (cl : List (Str × Addr)) (fp : List Addr) (xe : Value → Shared → Prop) (W' : WX), Takes (blkX X s H scope (compEnvC scope cl C X.env) fp xe) W' → PE (blkX X s H scope (compEnvC scope cl C X.env) fp xe) elt (te W'))
    (hs : ∀ x, foldedSetIterable iter X.env x = pure x) (h : tLcX W wi g tt te (own.map (·.2)) σ H Q)
    (hRR : ∀ D C s' m H', Inv X pins σ H' s' → Q (.ref D) H' → s'.heap.Ns C m → FpOk X pins H' C → compPost (model X.prog X.w) X.A X.xe use Qf (.ref D) C (.ok .next) s') :
    wpAny (model X.prog X.w) X.A (comprehension (.ListComp elt [⟨tg, iter, ifs, 0⟩] scope pos) scope X.env pos' (newList []) false (eval iter X.env) use) Qf X.xe s := by
  have hcl : ∀ y ∈ scope.names, y.2 = .free → ∃ c, X.env.cells.lookup y.1 = some c := fun y hy e => I.ok.has _ (ok.free y hy e)
  refine comp_free (use := use) rfl hs (closure_ok hcl) ok.kind (fun y hy e => by rw [ok.uniq y hy, e]) (thn (hi.run pins s σ H _ I h) fun xv s1 hx => thn hx fun itv s2 hz => ?_)
  obtain ⟨it, fp, tn, J, H2, rfl, I2, T, st2, f2, q⟩ := hz
  refine wpAny_newObj_type (newEnv_comp ?_) (by show 0 ≤ sizeLine; decide)
  -- the new list, at D
  obtain ⟨D, hD⟩ : ∃ D, D = s2.heap.objs.size := ⟨_, rfl⟩
  rw [← hD]
  obtain ⟨Wt, ⟨m0, w0⟩, turn⟩ := q D (I2.hok.fresh (Nat.le_of_eq hD.symm))
  obtain ⟨s3, hs3⟩ : ∃ s3 : Shared, s3 = { s2 with heap := s2.heap.push { cls := .type "list", data := .seq ([] : List Value).toArray } } := ⟨_, rfl⟩
  have h3 : s3.heap = s2.heap.push { cls := .type "list", data := .seq ([] : List Value).toArray } := by rw [hs3]
  have grow : ∀ b o, s2.heap.get? b = some o → s3.heap.get? b = some o := fun b o e => by rw [h3]; exact Heap.get?_push_of_some _ e
  obtain ⟨H3, hH3⟩ : ∃ H3, H3 = upd H2 D (.lst []) := ⟨_, rfl⟩
  have I3 : Inv X pins σ H3 s3 := by
    rw [hs3, hH3]
    refine I2.laid (t' := s2.toks) (fun b o e => Heap.get?_push_of_some _ e) (Nat.le_of_eq hD.symm) ⟨Nat.zero_le _, [], 0, .nil, ?_⟩
    rw [hD]
    exact Heap.get?_push_size _ rfl
  rw [← hH3] at w0
  have f3 : ∀ b ∈ fp, FpOk X pins H3 b ∧ b < s3.heap.objs.size := fun b hb => by
    obtain ⟨o, e, _⟩ := T.obj _ _ st2 b hb
    have lt := Heap.lt_size e
    refine ⟨⟨?_, (f2 b hb).2⟩, by rw [h3, Heap.size_push]; exact Nat.lt_succ_of_lt lt⟩
    rw [hH3, upd_ne (by rw [hD]; exact Nat.ne_of_lt lt)]
    exact (f2 b hb).1
  have I4 := block_start I3 ok hN f3
  -- the block's places
  obtain ⟨cl, hcls⟩ : ∃ cl, cl = cellsFrom (s3.heap.objs.size + 1) scope.names (cloFrom X.env.cells scope.names []) := ⟨_, rfl⟩
  obtain ⟨s4, hs4⟩ : ∃ s4 : Shared, s4 = { s3 with heap := pushCells (s3.heap.push { cls := .type "dict", data := .dict #[] }) scope.names } := ⟨_, rfl⟩
  have goal4 : codeAny (model X.prog X.w) X.A (.compStart (.ListComp elt [⟨tg, iter, ifs, 0⟩] scope pos) 0 (.ref it) (.ref D) (compEnvC scope cl s3.heap.objs.size X.env)) (blkEnd (model X.prog X.w) X.A X.xe use Qf (.ref D) s3.heap.objs.size X.env.frame) s4 := by
    rw [← hcls, ← hs4] at I4
    have st4 : tn 0 s4.heap := T.keep _ _ _ st2 fun b _ o e => by rw [hs4]; exact pushCells_keeps _ _ _ _ (Heap.get?_push_of_some _ (grow b o e))
    obtain ⟨xe, hxe⟩ : ∃ xe : Value → Shared → Prop, xe = notedBy (model X.prog X.w) X.A (compEnvC scope cl s3.heap.objs.size X.env) (fun e s'' => blkEnd (model X.prog X.w) X.A X.xe use Qf (.ref D) s3.heap.objs.size X.env.frame (.error e) s'') := ⟨_, rfl⟩
    obtain ⟨Y, hY⟩ : ∃ Y, Y = blkX X s3 H3 scope (compEnvC scope cl s3.heap.objs.size X.env) fp xe := ⟨_, rfl⟩
    have tkY : Takes Y (wOut W σ) := by
      rw [hY]
      intro u s' x
      show xe u s'
      rw [hxe]
      exact blk_raise ow tk I3 f3 x
    have pg : PG Y tg g := by rw [hY]; exact hg _ _ _ _ _ _
    have pt : PTs Y ifs (tt (wOut W σ)) := by rw [hY] at tkY ⊢; exact ht _ _ _ _ _ _ _ tkY
    have pe : PE Y elt (te (wOut W σ)) := by rw [hY] at tkY ⊢; exact he _ _ _ _ _ _ _ tkY
    have I5 : Inv Y [] (wipe σ (own.map (·.2))) H3 s4 := by rw [hY]; exact Inv.toX I4
    have yp : Y.prog = X.prog := by rw [hY]
    have yw : Y.w = X.w := by rw [hY]
    have yk : Y.K = X.K := by rw [hY]
    have yA : Y.A = X.A := by rw [hY]
    have yc : Y.calm = true := by rw [hY]; exact hc
    have yx : Y.xe = xe := by rw [hY]
    have ye : Y.env = compEnvC scope cl s3.heap.objs.size X.env := by rw [hY]
    have yn : Y.pn = [] := by rw [hY]
    have yex : Y.ex = fp := by rw [hY]
    have fpY : ∀ {σ' : L2.St} {H' : Hp} {s' : Shared}, Inv Y [] σ' H' s' → (∀ b ∈ fp, H' b = none) → ∀ b ∈ fp, FpOk Y [] H' b := fun {σ' H' s'} I' hn b hb => by
      have hb' : b ∈ Y.ex := by rw [yex]; exact hb
      refine ⟨hn b hb, (I'.ok.exf b hb').1, I'.ok.exfs b hb', .inl hb', fun x c e => (I'.ok.exf b hb').2 x c e, fun p hp => ?_⟩
      rw [yn] at hp
      exact absurd hp (by simp)
    have main : codeAny (model X.prog X.w) X.A (.compLoop (.ListComp elt [⟨tg, iter, ifs, 0⟩] scope pos) 0 (.ref it) (.ref D) (compEnvC scope cl s3.heap.objs.size X.env)) (blkEnd (model X.prog X.w) X.A X.xe use Qf (.ref D) s3.heap.objs.size X.env.frame) s4 := by
      refine compLoop_any (fun n s' => ∃ i H', Inv Y [] (wipe σ (own.map (·.2))) H' s' ∧ tn i s'.heap ∧ (∀ b ∈ fp, H' b = none) ∧ Wt i n H') ?_ m0 ⟨0, H3, I5, st4, fun b hb => (f3 b hb).1.1, w0⟩
      rw [← hxe]
      rintro n s5 ⟨i, H5, J5, st5, n5, w5⟩
      rcases turn i n H5 w5 with ⟨stop, qq⟩ | ⟨go, Nx, hNx, step⟩
      · have td := T.done Y yp yw yk yc i [] s5 _ H5 (fun _ _ => False) J5 (fpY J5 n5) st5 stop
        rw [yA] at td
        refine thnF td fun r s6 ⟨hr, J6⟩ => ?_
        subst hr
        have U : Un (frs X.stack) fp H3 H5 s3.heap s6.heap := by have := J6.base; rw [hY] at this; exact this
        have hok6 : HOk X.prog X.w H5 s6.heap := by have := J6.hok; rw [yp, yw] at this; exact this
        have os6 : s6.os = s3.os := by have := J6.os; rw [hY] at this; exact this
        have I7 : Inv X pins σ H5 s6 := I3.call' (ch := fp) os6 U hok6 J6.bare fun b hb => ⟨(f3 b hb).1.2.2.2.1, (f3 b hb).1.2.1, (f3 b hb).1.2.2.2.2.1, (f3 b hb).1.2.2.2.2.2⟩
        have nC : H5 s3.heap.objs.size = none := by
          have z : H5 Y.env.locals = none := J6.free
          rw [ye] at z
          exact z
        obtain ⟨m, hn, _⟩ := J6.loc
        rw [ye] at hn
        exact hRR D s3.heap.objs.size s6 m H5 I7 qq hn (I3.fpOk (Nat.le_refl _) nC)
      · have ti := T.item Y yp yw yk yc i [] s5 _ H5 (fun _ _ => False) J5 (fpY J5 n5) st5 go
        rw [yA] at ti
        refine thnF ti fun r s6 ⟨u, hr, h6⟩ => ?_
        subst hr
        refine thnF h6 fun _ s7 ⟨x, H7, J7, r7, y7, st7, n7⟩ => ?_
        have P7 := J7.pinned (fpY J7 n7) (T.obj _ _ st7)
        have g7 := pg.run _ s7 _ H7 x u _ P7 r7 (step x H7 y7)
        rw [yp, yw, yA, yx, ye] at g7
        refine thn g7 fun _ s8 ⟨σ8, H8, J8, hw8, q8⟩ => ?_
        have t8 := pt.run _ s8 σ8 H8 _ J8 q8
        rw [yp, yw, yA, yx, ye] at t8
        refine thn t8 fun b s9 ⟨H9, J9, q9⟩ => ?_
        have fin : ∀ {s' : Shared} {H' : Hp}, Inv Y ([] ++ pinsAt fp s7.heap) σ8 H' s' → Nx H' → ∃ m, m < n ∧ ∃ i H', Inv Y [] (wipe σ (own.map (·.2))) H' s' ∧ tn i s'.heap ∧ (∀ b ∈ fp, H' b = none) ∧ Wt i m H' := fun {s' H'} I' nx => by
          obtain ⟨m', hm, w'⟩ := hNx H' nx
          have at_ : ∀ b ∈ fp, ∀ o, s7.heap.get? b = some o → s'.heap.get? b = some o ∧ H' b = none := fun b hb o e =>
            let z := I'.pin (b, o) (List.mem_append_right _ (List.mem_append_right _ (mem_pinsAt hb e)))
            ⟨z.1, z.2.1⟩
          refine ⟨m', hm, i + 1, H', (I'.unpinned (pins := [])).weak (by rw [← hw8, wipe_length]) (fun j v e => ?_), T.keep _ _ _ st7 fun b hb o e => (at_ b hb o e).1, fun b hb => ?_, w'⟩
          · rw [← hw8] at e
            exact (wipe_some e).1
          · obtain ⟨o, e, _⟩ := T.obj _ _ st7 b hb
            exact (at_ b hb o e).2
        cases b with
        | false =>
          simp only [Bool.false_eq_true, if_false] at q9 ⊢
          exact fin J9 q9
        | true =>
          simp only [if_true] at q9 ⊢
          have e9 := pe.run _ s9 σ8 H9 _ J9 q9
          rw [yp, yw, yA, yx, ye] at e9
          refine thn e9 fun z s10 ⟨yv, H10, J10, r10, acc, hD10, hz10, nx⟩ => ?_
          have a10 := app_ok (E := xe) (X := Y) (Q := fun _ s5 => ∃ m, m < n ∧ ∃ i H', Inv Y [] (wipe σ (own.map (·.2))) H' s5 ∧ tn i s5.heap ∧ (∀ b ∈ fp, H' b = none) ∧ Wt i m H') J10 hD10 hz10 r10 fun s11 J11 => fin J11 nx
          rw [yp, yw, yA] at a10
          exact a10
    exact codeAny_compStart_list main (T.self X.A 0 _ _ _ st4 main)
  rw [hs4, hcls] at goal4
  rw [hs3] at goal4
  rw [hD]
  rw [hD] at goal4
  exact goal4
theorem pe_lcx {elt tg iter : Expr} {ifs : List Expr} {scope : Scope} {own : List (Str × Nat)} {pos : Pos} {wi : TI} {g : TG} {tt : WX → TT} {te : WX → TE} (hc : X.calm = true) (hN : X.N.Nodup) (ow : Own X) (tk : Takes X W) (hi : PI X tg iter wi) (ok : BlkOk X.N X.env.scope scope own)
    (hg : ∀ (s : Shared) (H : Hp) (C : Addr) (cl : List (Str × Addr)) (fp : List Addr) (xe : Value → Shared → Prop), PG (blkX X s H scope (compEnvC scope cl C X.env) fp xe) tg g)
    (ht : ∀ (s : Shared) (H : Hp) (C : Addr) (cl : List (Str × Addr)) (fp : List Addr) (xe : Value → Shared → Prop) (W' : WX), Takes (blkX X s H scope (compEnvC scope cl C X.env) fp xe) W' → PTs (blkX X s H scope (compEnvC scope cl C X.env) fp xe) ifs (tt W'))
    (he : ∀ (s : Shared) (H : Hp) (C : Addr) (cl : List (Str × Addr)) (fp : List Addr) (xe : Value → Shared → Prop) (W' : WX), Takes (blkX X s H scope (compEnvC scope cl C X.env) fp xe) W' → PE (blkX X s H scope (compEnvC scope cl C X.env) fp xe) elt (te W'))
    (hs : ∀ x, foldedSetIterable iter X.env x = pure x) : PE X (.ListComp elt [⟨tg, iter, ifs, 0⟩] scope pos) (tLcX W wi g tt te (own.map (·.2))) := by
  refine ⟨fun pins s σ H Q I h => ?_⟩
  rw [eval_ListComp]
  refine lcx_core hc hN ow tk I hi ok hg ht he hs h fun D C s' m H' I' q hn f => ⟨m, hn, fun h'' sb => ?_⟩
  exact ⟨.ref D, H', I'.turned (t' := s'.toks) (fun b o hb e => (sb.2 b hb).trans e) f.1 f.2.1 f.2.2.2.1 f.2.2.2.2.1 f.2.2.2.2.2, rfl, q⟩
/-- name = [..] on one row, the name a local -/
theorem ps_lcx {i : Nat} {y : Str} {py : Pos} {elt tg iter : Expr} {ifs : List Expr} {scope : Scope} {own : List (Str × Nat)} {pos spos : Pos} {wi : TI} {g : TG} {tt : WX → TT} {te : WX → TE} (hc : X.calm = true) (hN : X.N.Nodup) (ow : Own X) (tk : Takes X W)
    (hy : X.N[i]? = some y) (hyl : X.env.scope.names.lookup y = some .local) (hsw : swapsWith (.ListComp elt [⟨tg, iter, ifs, 0⟩] scope pos) (some (.Name y py)) spos.line X.env = pure true) (hi : PI X tg iter wi) (ok : BlkOk X.N X.env.scope scope own)
    (hg : ∀ (s : Shared) (H : Hp) (C : Addr) (cl : List (Str × Addr)) (fp : List Addr) (xe : Value → Shared → Prop), PG (blkX X s H scope (compEnvC scope cl C X.env) fp xe) tg g)
    (ht : ∀ (s : Shared) (H : Hp) (C : Addr) (cl : List (Str × Addr)) (fp : List Addr) (xe : Value → Shared → Prop) (W' : WX), Takes (blkX X s H scope (compEnvC scope cl C X.env) fp xe) W' → PTs (blkX X s H scope (compEnvC scope cl C X.env) fp xe) ifs (tt W'))
    (he : ∀ (s : Shared) (H : Hp) (C : Addr) (cl : List (Str × Addr)) (fp : List Addr) (xe : Value → Shared → Prop) (W' : WX), Takes (blkX X s H scope (compEnvC scope cl C X.env) fp xe) W' → PE (blkX X s H scope (compEnvC scope cl C X.env) fp xe) elt (te W'))
    (hs : ∀ x, foldedSetIterable iter X.env x = pure x) : PS X (.Assign [.Name y py] (.ListComp elt [⟨tg, iter, ifs, 0⟩] scope pos) spos) (tAsg (tLcX W wi g tt te (own.map (·.2))) (gName i)) := by
  refine ⟨fun pins s σ H D I h => ?_⟩
  rw [exec_Assign_Name_used _ _ _ _ hsw]
  refine wpAny_bind (wpAny_standAt (wpAny_bind ?_))
  have h : tLcX W wi g tt te (own.map (·.2)) σ H (fun x H1 => gName i x σ H1 D.nx) := h
  refine wpAny_bind (thn (lcx_core (Qf := fun _ s' => SP X pins D .next s') (use := some (assign (.Name y py) X.env)) hc hN ow tk I hi ok hg ht he hs h fun L C s' m H' I' q hn f => ?_) fun _ s' hq => wpAny_pure (wpAny_pure hq))
  show wpAny _ _ (assign (.Name y py) X.env (.ref L)) _ _ _
  refine wpAny_assign_Name (store_ok2 (v := V.ref L) I' hN hy (.inl hyl) rfl (fun s2 I2 ⟨a, sb, ha⟩ => ?_) (.inr hyl))
  have haC : C ≠ a := by
    rcases ha with z | z
    · rw [z]; exact f.2.1
    · exact fun e => f.2.2.2.2.1 y a z e.symm
  refine ⟨m, hn.sameBut sb haC, fun h3 sb3 => ?_⟩
  exact ⟨_, H', I2.turned (t' := s2.toks) (fun b o hb e => (sb3.2 b hb).trans e) f.1 f.2.1 f.2.2.2.1 f.2.2.2.2.1 f.2.2.2.2.2, q⟩
end
end Cr
set_option Elab.async false
set_option linter.all false
set_option maxHeartbeats 1000000
/-! Cr10: comprehensions. -/
namespace Cr
open PySem L2 PyProof.Rows
/-- a comprehension's turn -/
def turnE (mT : Fr → Sto → Out Bool) (mE : Fr → Sto → Out D) (σ : Fr) (tg : Nat) (x : D) (S2 : Sto) : Out (Option D) :=
  ((mT ((σ.set tg none).set tg (some x)) S2).bind fun t S3 => if t = true then (mE ((σ.set tg none).set tg (some x)) S3).bind fun y S4 => .ok (some y) S4 else .ok none S3).nox
theorem turnE_nx {mT : Fr → Sto → Out Bool} {mE : Fr → Sto → Out D} {σ : Fr} {tg : Nat} {x : D} {S : Sto} : NoEx (turnE mT mE σ tg x S) := by
  intro c fs S' h
  unfold turnE Out.nox at h
  split at h <;> cases h
theorem turnE_ok {mT : Fr → Sto → Out Bool} {mE : Fr → Sto → Out D} {σ : Fr} {tg : Nat} {x : D} {S S1 : Sto} {r : Option D} (h : turnE mT mE σ tg x S = .ok r S1) :
    ∃ t S3, mT ((σ.set tg none).set tg (some x)) S = .ok t S3 ∧ ((t = true ∧ ∃ y, mE ((σ.set tg none).set tg (some x)) S3 = .ok y S1 ∧ r = some y) ∨ (t = false ∧ S1 = S3 ∧ r = none)) := by
  unfold turnE at h
  cases em : mT ((σ.set tg none).set tg (some x)) S with
  | bad => rw [em] at h; cases h
  | ex c fs S3 => rw [em] at h; cases h
  | ok t S3 =>
    rw [em, bind_ok] at h
    refine ⟨t, S3, rfl, ?_⟩
    cases t with
    | true =>
      rw [if_pos rfl] at h
      cases ee : mE ((σ.set tg none).set tg (some x)) S3 with
      | bad => rw [ee] at h; cases h
      | ex c fs S4 => rw [ee] at h; cases h
      | ok y S4 =>
        rw [ee] at h
        cases h
        exact .inl ⟨rfl, y, rfl, rfl⟩
    | false =>
      rw [if_neg (by decide)] at h
      cases h
      exact .inr ⟨rfl, rfl, rfl⟩
theorem lcL_nx {d : D} {all : List D} {step : D → Sto → Out (Option D)} (hs : ∀ x S, NoEx (step x S)) : ∀ (xs : List D) (S : Sto), NoEx (lcL d all step xs S)
  | [], S, c, fs, S', h => by cases h
  | x :: xs, S, c, fs, S', h => by
    unfold lcL at h
    cases e : step x S with
    | bad => rw [e] at h; cases h
    | ex c' fs' S1 => exact hs x S _ _ _ e
    | ok r S1 =>
      rw [e, bind_ok] at h
      split at h
      · cases e2 : lcL d all step xs S1 with
        | bad => rw [e2] at h; cases h
        | ex c' fs' S2 => exact lcL_nx hs xs S1 _ _ _ e2
        | ok rs S2 => rw [e2] at h; cases h
      · cases h
section
variable {k : Kx} {W : WX} {σ : L2.St} {ρ : Lo} {H : Hp} {Q : VK}
/-- a turn of the loop is through -/
theorem lcL_step {d : D} {all : List D} {step : D → Sto → Out (Option D)} (hs : ∀ x S, NoEx (step x S)) {x : D} {xs : List D} {S : Sto} {f : List D → Sto → Out D} (h : postE k W σ ρ H ((lcL d all step (x :: xs) S).bind f) Q) :
    ∃ r S1, step x S = .ok r S1 ∧ stays d all S1 = true ∧ postE k W σ ρ H ((lcL d all step xs S1).bind fun rs S5 => f (r.toList ++ rs) S5) Q := by
  rw [lcL] at h
  cases e : step x S with
  | bad => rw [e] at h; exact h.elim
  | ex c fs S1 => exact absurd e (hs x S c fs S1)
  | ok r S1 =>
    rw [e, bind_ok] at h
    split at h
    · rename_i st
      refine ⟨r, S1, rfl, st, ?_⟩
      cases e2 : lcL d all step xs S1 with
      | bad => rw [e2] at h; exact h
      | ex c fs S2 => rw [e2] at h; exact h
      | ok rs S2 => rw [e2] at h; exact h
    · exact h.elim
theorem lcL_len {d : D} {all : List D} {step : D → Sto → Out (Option D)} (hs : ∀ x S, NoEx (step x S)) {xs : List D} {S : Sto} {al : Bool} {ys : List D} (h : postE k W σ ρ H ((lcL d all step xs S).bind fun rs S5 => mkL al (ys ++ rs) S5) Q) : ys.length ≤ sizeLine := by
  cases e : lcL d all step xs S with
  | bad => rw [e] at h; exact h.elim
  | ex c fs S1 => exact absurd e (lcL_nx hs xs S c fs S1)
  | ok rs S1 =>
    rw [e, bind_ok] at h
    unfold mkL at h
    split at h
    · rename_i hz
      rw [List.length_append] at hz
      omega
    · exact h.elim
end
theorem wipe_one (σ : L2.St) (tg : Nat) : wipe σ [tg] = σ.set tg none := rfl
theorem FRel.wipe1 {k : Kx} {ρ : Lo} {H : Hp} {s : Fr} {σ : L2.St} (f : FRel k ρ H s σ) (tg : Nat) (hx : ∀ p, k.xe = some p → p.1 ≠ tg) : FRel k ρ H (s.set tg none) (σ.set tg none) := by
  refine ⟨by simp [f.len], by simpa using f.le, fun i d hi h => ?_, fun p hp => ?_, fun p hp => by rw [List.getElem?_set_ne (Ne.symm (hx p hp))]; exact f.ex p hp⟩
  case refine_2 =>
    obtain ⟨h1, h2, fs, h3, h4⟩ := f.hid p hp
    refine ⟨h1, h2, fs, h3, fun d h => ?_⟩
    by_cases e : tg = p.1
    · rw [e] at h
      by_cases hi : p.1 < s.length
      · rw [List.getElem?_set_self hi] at h; cases h
      · rw [List.getElem?_eq_none (by simpa using hi)] at h; cases h
    · rw [List.getElem?_set_ne e] at h
      exact h4 d h
  by_cases e : tg = i
  · subst e
    by_cases hi : tg < s.length
    · rw [List.getElem?_set_self hi] at h; cases h
    · rw [List.getElem?_eq_none (by simpa using hi)] at h; cases h
  · rw [List.getElem?_set_ne e] at h ⊢
    exact f.at_ i d hi h
theorem FRel.put {k : Kx} {ρ : Lo} {H : Hp} {s : Fr} {σ : L2.St} (f : FRel k ρ H s σ) {i : Nat} (hi : i < k.nb) (hx : ∀ p, k.xe = some p → p.1 ≠ i) {d : D} {v : V} (p : Rep k.K ρ H d v) : FRel k ρ H (s.set i (some d)) (σ.set i (some v)) := by
  refine ⟨by simp [f.len], by simpa using f.le, fun j e hj h => ?_, fun p hp => ?_, fun p hp => by rw [List.getElem?_set_ne (Ne.symm (hx p hp))]; exact f.ex p hp⟩
  · by_cases q : i = j
    · subst q
      rw [List.getElem?_set_self (Nat.lt_of_lt_of_le hi f.le)] at h
      cases h
      exact ⟨v, by rw [List.getElem?_set_self (by rw [f.len]; exact hi)], p⟩
    · rw [List.getElem?_set_ne q] at h ⊢
      exact f.at_ j e hj h
  · obtain ⟨h1, h2, fs, h3, h4⟩ := f.hid p hp
    refine ⟨h1, h2, fs, h3, fun d h => ?_⟩
    rw [List.getElem?_set_ne (by omega)] at h
    exact h4 d h
section
variable {X : Cx} {ca : CA} {W : WX}
abbrev noW : WX := fun _ _ _ _ => False
theorem lc_imp (hxs : ca.xs = []) (hxe : ca.xe = none) {tg : Nat} {mI : Fr → Sto → Out (D × List D)} {mT : Fr → Sto → Out Bool} {mE : Fr → Sto → Out D} {al : Bool} {σ : L2.St} {H : Hp} {Q : VK} (hb : tg < ca.nb)
    (h : tE (kx X ca) W (fun σ S => (mI σ S).bind fun p S1 => (lcL p.1 p.2 (turnE mT mE σ tg) p.2 S1).bind fun ys S5 => mkL al ys S5) σ H Q) :
    tLc (tI (kx X ca) W mI) (gName tg) (fun σ H Q => ∃ ρ S s, At (kx X ca) ρ S s σ H ∧ postB (kx X ca) noW σ ρ H (mT s S) Q) (tE (kx X ca) noW mE) [tg] σ H Q := by
  obtain ⟨ρ, S, f, a, h⟩ := h
  dsimp only at h
  refine ⟨ρ, S, f, a, ?_⟩
  cases em : mI f S with
  | bad => rw [em] at h; exact h.elim
  | ex c fs S1 => rw [em] at h; exact h
  | ok p S1 =>
    rw [em, bind_ok] at h
    obtain ⟨d, xs⟩ := p
    dsimp only at h
    intro v ρ1 H1 J e1 r1 p1 st1 wk D hD
    have nx : ∀ x S, NoEx (turnE mT mE f tg x S) := fun _ _ => turnE_nx
    have f1 := a.fr.ext e1
    refine ⟨fun i m H2 => m = xs.length - i ∧ i ≤ xs.length ∧ ∃ ρ2 S2 ys vs, Rel X.K ca.ad ρ2 S2 H2 ∧ ρ2.bl = D :: ρ1.bl ∧ FRel (kx X ca) ρ2 H2 f σ ∧ Rep X.K ρ2 H2 d v ∧ H2 D = some (.lst vs) ∧ Reps X.K ρ2 H2 ys vs ∧ Ext ρ1 H1 ρ2.unb H2 ∧ stays d xs S2 = true ∧
      postE (kx X ca) W σ ρ1 H1 ((lcL d xs (turnE mT mE f tg) (xs.drop i) S2).bind fun rs S5 => mkL al (ys ++ rs) S5) Q, ⟨xs.length, rfl, Nat.zero_le _, ?_⟩, ?_⟩
    · refine ⟨ρ1.blk D, S1, [], [], r1.blk hD, rfl, f1.mv hxs (.blk hD), Rep.mv (.blk hD) _ _ p1, upd_same, rfl, ?_, st1, ?_⟩
      · exact ⟨⟨[], by simp [Lo.unb, Lo.blk], fun _ h => nomatch h⟩, (Ext.new (ρ := ρ1) _ hD).old, (Ext.new (ρ := ρ1) _ hD).som⟩
      · refine post.mono h e1 fun _ _ z => z
    · rintro i m H2 ⟨rfl, hi2, ρ2, S2, ys, vs, r2, hbl, f2, p2, hH, rs2, e2, st2, h2⟩
      have hDm : D ∈ ρ2.bl := by rw [hbl]; exact List.mem_cons_self
      have wi := wk ρ2 S2 H2 r2 p2 st2 i
      by_cases hlt : i < xs.length
      · have hx : xs[i]? = some xs[i] := List.getElem?_eq_getElem hlt
        obtain ⟨go, yl⟩ := wi.1 _ hx
        rw [List.drop_eq_getElem_cons hlt] at h2
        obtain ⟨r, S3, t1, st3, h3⟩ := lcL_step nx h2
        obtain ⟨t, S4, tt, tr⟩ := turnE_ok t1
        -- the next turn
        refine .inr ⟨go, fun H' => ∃ ρ3 ys vs, Rel X.K ca.ad ρ3 S3 H' ∧ ρ3.bl = D :: ρ1.bl ∧ FRel (kx X ca) ρ3 H' f σ ∧ Rep X.K ρ3 H' d v ∧ H' D = some (.lst vs) ∧ Reps X.K ρ3 H' ys vs ∧ Ext ρ1 H1 ρ3.unb H' ∧
          postE (kx X ca) W σ ρ1 H1 ((lcL d xs (turnE mT mE f tg) (xs.drop (i + 1)) S3).bind fun rs S5 => mkL al (ys ++ rs) S5) Q, fun H' hn => ?_, fun y H' hy => ?_⟩
        · obtain ⟨ρ3, ys3, vs3, q1, q2, q3, q4, q5, q6, q7, q8⟩ := hn
          exact ⟨xs.length - (i + 1), by omega, rfl, hlt, ρ3, S3, ys3, vs3, q1, q2, q3, q4, q5, q6, q7, st3, q8⟩
        · obtain ⟨rfl, py⟩ := yl y H' hy
          show gName tg y (wipe σ [tg]) H' _
          rw [wipe_one]
          have f3 : FRel (kx X ca) ρ2 H' ((f.set tg none).set tg (some xs[i])) ((σ.set tg none).set tg (some y)) := (f2.wipe1 tg fun p hp => by rw [show (kx X ca).xe = none from hxe] at hp; cases hp).put hb (fun p hp => by rw [show (kx X ca).xe = none from hxe] at hp; cases hp) py
          refine ⟨by simp [wipe_one], ρ2, S2, _, ⟨r2, f3⟩, ?_⟩
          rw [tt]
          intro b ρ3 H3 e3 r3 hb
          subst hb
          have blk3 : ρ3.bl = ρ2.bl := by
            obtain ⟨τ, hτ, _⟩ := e3.pre
            rw [hτ]
          have hD3 : H3 D = some (.lst vs) := e3.old D _ (r2.bl D hDm).1 hH
          -- from the turn's start on
          have ext : ∀ {ρ4 : Lo} {H4 : Hp}, Ext ρ2 H' ρ4 H4 → Ext ρ1 H1 ρ4.unb H4 := fun {ρ4 H4} e4 => by
            obtain ⟨τ, hτ, g1⟩ := e2.pre
            obtain ⟨τ', hτ', g2⟩ := e4.pre
            have hτ : ρ2.ls = ρ1.ls ++ τ := congrArg Lo.ls hτ
            refine ⟨⟨τ ++ τ', ?_, fun b hb => ?_⟩, fun b o hb e => ?_, fun b hb => e4.som b (e2.som b hb)⟩
            · rw [hτ']
              show (⟨ρ2.ls ++ τ', ρ2.bl.tail⟩ : Lo) = _
              rw [hτ, hbl]
              simp
            · rcases List.mem_append.mp hb with q | q
              · exact g1 b q
              · cases z : H1 b with
                | none => rfl
                | some o => exact absurd (g2 b q) (e2.som b (by rw [z]; exact fun z => nomatch z))
            · refine e4.old b o (fun q => ?_) (e2.old b o hb e)
              rw [hτ] at q
              rcases List.mem_append.mp q with q | q
              · exact hb q
              · rw [g1 b q] at e; cases e
          cases t with
          | true =>
            rw [if_pos rfl]
            rcases tr with ⟨_, z, ez, rfl⟩ | ⟨q, _⟩
            · refine ⟨ρ3, S4, _, ⟨r3, f3.ext e3⟩, ?_⟩
              rw [ez]
              intro w ρ4 H4 e4 r4 pw
              have e34 := e3.trans e4
              have blk4 : ρ4.bl = D :: ρ1.bl := by
                obtain ⟨τ, hτ, _⟩ := e4.pre
                rw [hτ]
                exact blk3.trans hbl
              have hDm4 : D ∈ ρ4.bl := by rw [blk4]; exact List.mem_cons_self
              have hD4 : H4 D = some (.lst vs) := e34.old D _ (r2.bl D hDm).1 hH
              have rs4 := Reps.ext e34 _ _ rs2
              have hlen : (ys ++ [z]).length ≤ sizeLine := by
                have h3' : postE (kx X ca) W σ ρ1 H1 ((lcL d xs (turnE mT mE f tg) (xs.drop (i + 1)) S3).bind fun rs S5 => mkL al ((ys ++ [z]) ++ rs) S5) Q := by
                  simpa using h3
                exact lcL_len nx h3'
              rw [List.length_append, List.length_singleton] at hlen
              refine ⟨vs, hD4, by rw [rs4.length]; omega, ρ4, ys ++ [z], vs ++ [w], r4.poke hDm4, blk4, (FRel.ext (k := kx X ca) f2 e34).mv hxs (.poke hDm4), Rep.mv (.poke hDm4) _ _ (Rep.ext e34 _ _ p2), upd_same, Reps.mv (.poke hDm4) _ _ (rs4.append (.one pw)), ?_, by simpa using h3⟩
              have q := ext e34
              refine ⟨q.pre, fun b o hb e => ?_, fun b hb => ?_⟩
              · rw [upd_ne (fun z => by rw [z, hD] at e; cases e)]
                exact q.old b o hb e
              · by_cases z : b = D
                · rw [z, upd_same]; exact fun z => nomatch z
                · rw [upd_ne z]; exact q.som b hb
            · cases q
          | false =>
            rw [if_neg (by decide)]
            rcases tr with ⟨q, _⟩ | ⟨_, rfl, rfl⟩
            · cases q
            · exact ⟨ρ3, ys, vs, r3, blk3.trans hbl, FRel.ext (k := kx X ca) f2 e3, Rep.ext e3 _ _ p2, hD3, Reps.ext e3 _ _ rs2, ext e3, by simpa using h3⟩
      · have hi3 : i = xs.length := by omega
        subst hi3
        refine .inl ⟨wi.2 (Nat.le_refl _), ?_⟩
        rw [List.drop_length] at h2
        have h2 : postE (kx X ca) W σ ρ1 H1 (mkL al (ys ++ []) S2) Q := h2
        rw [List.append_nil] at h2
        unfold mkL at h2
        have ru := r2.unb
        have rsu : Reps X.K ρ2.unb H2 ys vs := Reps.mv .unb _ _ rs2
        have hub : ρ2.unb.bl = ρ1.bl := by
          show ρ2.bl.tail = _
          rw [hbl]; rfl
        have hDo : ρ2.unb.out D := ⟨(r2.bl D hDm).1, by
          rw [hub]
          exact (r1.notin hD).2⟩
        split at h2
        · cases al with
          | false =>
            rw [if_neg (by decide)] at h2
            exact h2 _ ρ2.unb H2 e2 ru ⟨D, vs, rfl, .inl ⟨hDo, .inl hH⟩, rsu⟩
          | true =>
            rw [if_pos rfl] at h2
            obtain ⟨τ, hτ, g1⟩ := e2.pre
            have hτ : ρ2.ls = ρ1.ls ++ τ := congrArg Lo.ls hτ
            have mv : Mv ρ2 H2 (ρ2.unb.add D) H2 := ⟨fun b u ho hr => ⟨⟨fun q => ?_, fun q => ho.2 (List.mem_of_mem_tail q)⟩, hr⟩, fun n b hn => ?_⟩
            · refine h2 _ (ρ2.unb.add D) H2 ⟨⟨τ ++ [D], ?_, fun b hb => ?_⟩, e2.old, e2.som⟩ ⟨?_, ?_, fun n b o g2 g3 => ?_, fun b hb => ?_⟩ (show Rep X.K (ρ2.unb.add D) H2 (Cr.loc S2.length) (.ref D) from ⟨S2.length, D, rfl, ?_, rfl⟩)
              · show (⟨ρ2.ls ++ [D], ρ2.bl.tail⟩ : Lo) = _
                rw [hτ, hbl, List.append_assoc]
                rfl
              · rcases List.mem_append.mp hb with q | q
                · exact g1 b q
                · rw [List.mem_singleton.mp q]; exact hD
              · show (ρ2.ls ++ [D]).Nodup
                rw [List.nodup_append]
                exact ⟨r2.nd, by simp, fun b hb c hc => by rw [List.mem_singleton.mp hc]; rintro rfl; exact hDo.1 hb⟩
              · show (ρ2.ls ++ [D]).length = _
                simp [r2.ln]
              · have g2 : (ρ2.ls ++ [D])[n]? = some b := g2
                by_cases hn : n < ρ2.ls.length
                · rw [List.getElem?_append_left hn] at g2
                  rw [List.getElem?_append_left (by rw [← r2.ln]; exact hn)] at g3
                  exact (r2.ob n b o g2 g3).mv mv rfl
                · have hl := r2.ln
                  rw [List.getElem?_append_right (by omega)] at g2 g3
                  have e0 : n - ρ2.ls.length = 0 := by
                    cases q : n - ρ2.ls.length with
                    | zero => rfl
                    | succ j => rw [q] at g2; simp at g2
                  rw [e0] at g2
                  rw [← r2.ln, e0] at g3
                  simp at g2 g3
                  subst g2; subst g3
                  exact ⟨vs, hH, Reps.mv mv _ _ rs2⟩
              · have hb : b ∈ ρ2.bl.tail := hb
                have hb2 := r2.bl b (List.mem_of_mem_tail hb)
                refine ⟨fun q => ?_, hb2.2⟩
                rcases List.mem_append.mp q with q | q
                · exact hb2.1 q
                · rw [List.mem_singleton.mp q] at hb
                  exact hDo.2 hb
              · show (ρ2.ls ++ [D])[S2.length]? = some D
                rw [← r2.ln]
                simp
            · rcases List.mem_append.mp q with q | q
              · exact ho.1 q
              · exact ho.2 (by rw [List.mem_singleton.mp q]; exact hDm)
            · show (ρ2.ls ++ [D])[n]? = some b
              rw [List.getElem?_append_left (List.getElem?_eq_some_iff.mp hn).1]
              exact hn
        · exact h2.elim
theorem lc_sound (hxs : ca.xs = []) (hxe : ca.xe = none) {elt tgx iter : Expr} {ifs : List Expr} {scope : Scope} {tg : Nat} {x : Str} {pos : Pos} {mI : Fr → Sto → Out (D × List D)} {mT : Fr → Sto → Out Bool} {mE : Fr → Sto → Out D} {al : Bool}
    (hb : tg < ca.nb) (hc : X.calm = true) (hN : X.N.Nodup) (hi : PI X tgx iter (tI (kx X ca) W mI)) (ok : BlkOk X.N X.env.scope scope [(x, tg)])
    (hg : ∀ (s : Shared) (H : Hp) (C : Addr) (cl : List (Str × Addr)) (fp : List Addr), PG (X.blk s H scope (compEnvC scope cl C X.env) fp) tgx (gName tg))
    (ht : ∀ (s : Shared) (H : Hp) (C : Addr) (cl : List (Str × Addr)) (fp : List Addr), PTs (X.blk s H scope (compEnvC scope cl C X.env) fp) ifs (fun σ H Q => ∃ ρ S s, At (kx X ca) ρ S s σ H ∧ postB (kx X ca) noW σ ρ H (mT s S) Q))
    (he : ∀ (s : Shared) (H : Hp) (C : Addr) (cl : List (Str × Addr)) (fp : List Addr), PE (X.blk s H scope (compEnvC scope cl C X.env) fp) elt (tE (kx X ca) noW mE))
    (hs : ∀ v, foldedSetIterable iter X.env v = pure v) :
    PE X (.ListComp elt [⟨tgx, iter, ifs, 0⟩] scope pos) (tE (kx X ca) W fun σ S => (mI σ S).bind fun p S1 => (lcL p.1 p.2 (turnE mT mE σ tg) p.2 S1).bind fun ys S5 => mkL al ys S5) :=
  PE.imp (pe_lc hc hN hi ok hg ht he hs) fun σ H Q h => lc_imp hxs hxe hb h
theorem lc_asg (hxs : ca.xs = []) (hxe : ca.xe = none) {elt tgx iter : Expr} {ifs : List Expr} {scope : Scope} {tg : Nat} {x : Str} {pos py spos : Pos} {i : Nat} {y : Str} {mI : Fr → Sto → Out (D × List D)} {mT : Fr → Sto → Out Bool} {mE : Fr → Sto → Out D} {al : Bool}
    (hb : tg < ca.nb) (hc : X.calm = true) (hN : X.N.Nodup) (hi : PI X tgx iter (tI (kx X ca) W mI)) (ok : BlkOk X.N X.env.scope scope [(x, tg)])
    (hg : ∀ (s : Shared) (H : Hp) (C : Addr) (cl : List (Str × Addr)) (fp : List Addr), PG (X.blk s H scope (compEnvC scope cl C X.env) fp) tgx (gName tg))
    (ht : ∀ (s : Shared) (H : Hp) (C : Addr) (cl : List (Str × Addr)) (fp : List Addr), PTs (X.blk s H scope (compEnvC scope cl C X.env) fp) ifs (fun σ H Q => ∃ ρ S s, At (kx X ca) ρ S s σ H ∧ postB (kx X ca) noW σ ρ H (mT s S) Q))
    (he : ∀ (s : Shared) (H : Hp) (C : Addr) (cl : List (Str × Addr)) (fp : List Addr), PE (X.blk s H scope (compEnvC scope cl C X.env) fp) elt (tE (kx X ca) noW mE))
    (hy : X.N[i]? = some y) (hyl : X.env.scope.names.lookup y = some .local) (hsw : swapsWith (.ListComp elt [⟨tgx, iter, ifs, 0⟩] scope pos) (some (.Name y py)) spos.line X.env = pure true) (hs : ∀ v, foldedSetIterable iter X.env v = pure v) :
    PS X (.Assign [.Name y py] (.ListComp elt [⟨tgx, iter, ifs, 0⟩] scope pos) spos) (tAsg (tE (kx X ca) W fun σ S => (mI σ S).bind fun p S1 => (lcL p.1 p.2 (turnE mT mE σ tg) p.2 S1).bind fun ys S5 => mkL al ys S5) (gName i)) :=
  PS.imp (ps_setLc hc hN hy hyl hsw hi ok hg ht he hs) fun D σ H h => lc_imp hxs hxe hb h
end
end Cr
set_option Elab.async false
set_option linter.all false
set_option maxHeartbeats 4000000
/-! CrD: comprehensions with any target, lists and dicts; exceptions leave them. -/
namespace Cr
open PySem L2 PyProof.Rows
/-! ### slots wiped -/
theorem wipF_len (σ : Fr) : ∀ ts : List Nat, (wipF σ ts).length = σ.length
  | [] => rfl
  | i :: is => by rw [wipF, List.length_set, wipF_len σ is]
theorem wipe_get (σ : L2.St) : ∀ (ts : List Nat) (j : Nat), (wipe σ ts)[j]? = if j ∈ ts then (if j < σ.length then some none else none) else σ[j]?
  | [], j => by simp [wipe]
  | i :: is, j => by
    rw [wipe]
    by_cases h : i = j
    · subst h
      by_cases hl : i < σ.length
      · rw [List.getElem?_set_self (by rw [wipe_length]; exact hl)]; simp [hl]
      · rw [List.getElem?_eq_none (by rw [List.length_set, wipe_length]; omega)]; simp [hl]
    · rw [List.getElem?_set_ne h, wipe_get σ is j]
      have : (j ∈ i :: is) ↔ j ∈ is := by simp [Ne.symm h]
      simp only [this]
theorem wipe_eq {σ τ : L2.St} {ts : List Nat} (hl : σ.length = τ.length) (h : ∀ j, j ∉ ts → σ[j]? = τ[j]?) : wipe σ ts = wipe τ ts := by
  apply List.ext_getElem?
  intro j
  rw [wipe_get, wipe_get, hl]
  split
  · rfl
  · rename_i hj; exact h j hj
theorem wipe_wipe (σ : L2.St) (ts : List Nat) : wipe (wipe σ ts) ts = wipe σ ts :=
  wipe_eq (wipe_length σ ts) fun j hj => by rw [wipe_get, if_neg hj]
theorem wipe_set {σ : L2.St} {ts : List Nat} {i : Nat} {x : Option V} (h : i ∈ ts) : wipe (σ.set i x) ts = wipe σ ts :=
  wipe_eq (by simp) fun j hj => by rw [List.getElem?_set_ne (fun z : i = j => hj (z ▸ h))]
theorem FRel.wipeN {k : Kx} (hxe : k.xe = none) {ρ : Lo} {H : Hp} {s : Fr} {σ : L2.St} (f : FRel k ρ H s σ) : ∀ ts : List Nat, FRel k ρ H (wipF s ts) (wipe σ ts)
  | [] => f
  | i :: is => (FRel.wipeN hxe f is).wipe1 i fun p hp => by rw [hxe] at hp; cases hp
/-- a target of a comprehension: what its store asks -/
def GOk (k : Kx) (ts : List Nat) (tu : Bool) (g : TG) : Prop := ∀ {ρ : Lo} {S : Sto} {H : Hp} {d : D} {v : V} {s s1 : Fr} {σ : L2.St} {Q : L2.St → Hp → Prop}, Rel k.K k.ca ρ S H → bndT ts tu d s = some s1 → FRel k ρ H s σ → Rep k.K ρ H d v → (∀ σ1, FRel k ρ H s1 σ1 → wipe σ1 ts = wipe σ ts → Q σ1 H) → g v σ H Q
/-! ### a turn -/
def turnG {α : Type} (nx : Bool) (ts : List Nat) (tu : Bool) (mT : Fr → Sto → Out Bool) (mE : Fr → Sto → Out (Option α)) (σ : Fr) (x : D) (S2 : Sto) : Out (Option α) := nxW nx (match bndT ts tu x (wipF σ ts) with
  | some f => (mT f S2).bind fun t S3 => if t = true then mE f S3 else .ok none S3
  | none => .bad)
theorem nxW_ok {α : Type} {nx : Bool} {o : Out α} {a : α} {S : Sto} : nxW nx o = .ok a S ↔ o = .ok a S := by
  cases nx
  · exact Iff.rfl
  · rw [nxW_t]; cases o <;> simp [Out.nox]
section
variable {k : Kx} {W : WX} {σ : L2.St} {ρ : Lo} {H : Hp} {Q : VK} {α : Type}
/-- a turn of the loop -/
theorem lcL_turn {d : D} {all : List D} {step : D → Sto → Out (Option α)} {x : D} {xs : List D} {S : Sto} {f : List α → Sto → Out D} (h : postE k W σ ρ H ((lcL d all step (x :: xs) S).bind f) Q) :
    (∃ c fs S1, step x S = .ex c fs S1 ∧ postE k W σ ρ H (.ex c fs S1) Q) ∨
    ∃ r S1, step x S = .ok r S1 ∧ stays d all S1 = true ∧ postE k W σ ρ H ((lcL d all step xs S1).bind fun rs S5 => f (r.toList ++ rs) S5) Q := by
  rw [lcL] at h
  cases e : step x S with
  | bad => rw [e] at h; exact h.elim
  | ex c fs S1 => rw [e] at h; exact .inl ⟨c, fs, S1, rfl, h⟩
  | ok r S1 =>
    rw [e, bind_ok] at h
    split at h
    · rename_i st
      refine .inr ⟨r, S1, rfl, st, ?_⟩
      cases e2 : lcL d all step xs S1 with
      | bad => rw [e2] at h; exact h
      | ex c fs S2 => rw [e2] at h; exact h
      | ok rs S2 => rw [e2] at h; exact h
    · exact h.elim
end
/-- the comprehension's own object stands apart: in the heap of its block -/
structure Apart (K : PySem.W.Frag) (ca : Nat → Addr) (ρ1 : Lo) (H1 : Hp) (D : Addr) (ρ2 : Lo) (S : Sto) (H2 : Hp) : Prop where
  rel : Rel K ca ρ2 S H2
  bl : ρ2.bl = D :: ρ1.bl
  ext : Ext ρ1 H1 ρ2.unb H2
section
variable {K : PySem.W.Frag} {ca : Nat → Addr} {ρ1 ρ2 ρ3 : Lo} {H1 H2 H3 : Hp} {S S' : Sto} {D : Addr}
theorem Apart.start (r : Rel K ca ρ1 S H1) (hD : H1 D = none) (o : HO) : Apart K ca ρ1 H1 D (ρ1.blk D) S (upd H1 D o) :=
  ⟨r.blk hD, rfl, ⟨⟨[], by simp [Lo.unb, Lo.blk], fun _ h => nomatch h⟩, (Ext.new (ρ := ρ1) _ hD).old, (Ext.new (ρ := ρ1) _ hD).som⟩⟩
theorem Apart.mem (a : Apart K ca ρ1 H1 D ρ2 S H2) : D ∈ ρ2.bl := by rw [a.bl]; exact List.mem_cons_self
theorem Apart.blEq (e : Ext ρ2 H2 ρ3 H3) : ρ3.bl = ρ2.bl := by
  obtain ⟨τ, hτ, _⟩ := e.pre
  rw [hτ]
theorem Apart.unbEq (e : Ext ρ2 H2 ρ3 H3) : Ext ρ2.unb H2 ρ3.unb H3 := by
  obtain ⟨⟨τ, hτ, h1⟩, h2, h3⟩ := e
  refine ⟨⟨τ, by rw [hτ]; rfl, h1⟩, h2, h3⟩
theorem Apart.next (a : Apart K ca ρ1 H1 D ρ2 S H2) (e : Ext ρ2 H2 ρ3 H3) (r : Rel K ca ρ3 S' H3) : Apart K ca ρ1 H1 D ρ3 S' H3 :=
  ⟨r, (Apart.blEq e).trans a.bl, a.ext.trans (Apart.unbEq e)⟩
theorem Apart.keep (a : Apart K ca ρ1 H1 D ρ2 S H2) (e : Ext ρ2 H2 ρ3 H3) {o : HO} (h : H2 D = some o) : H3 D = some o := e.old D _ (a.rel.bl D a.mem).1 h
theorem Apart.poke (a : Apart K ca ρ1 H1 D ρ2 S H2) (hD : H1 D = none) (o : HO) : Apart K ca ρ1 H1 D ρ2 S (upd H2 D o) := by
  refine ⟨a.rel.poke a.mem, a.bl, a.ext.pre, fun b u hb e => ?_, fun b hb => ?_⟩
  · rw [upd_ne (fun z => by rw [z, hD] at e; cases e)]
    exact a.ext.old b u hb e
  · by_cases z : b = D
    · rw [z, upd_same]; exact fun z => nomatch z
    · rw [upd_ne z]; exact a.ext.som b hb
theorem Apart.out (a : Apart K ca ρ1 H1 D ρ2 S H2) (r1 : Rel K ca ρ1 S' H1) (hD : H1 D = none) : ρ2.unb.out D := by
  refine ⟨(a.rel.bl D a.mem).1, ?_⟩
  have : ρ2.unb.bl = ρ1.bl := by show ρ2.bl.tail = _; rw [a.bl]; rfl
  rw [this]
  exact (r1.notin hD).2
/-- at the end it becomes a location -/
theorem Apart.loc (a : Apart K ca ρ1 H1 D ρ2 S H2) (r1 : Rel K ca ρ1 S' H1) (hD : H1 D = none) {o : Ob} (ho : ∀ ρ', Mv ρ2 H2 ρ' H2 → ObR K ca ρ' H2 D o) :
    ∃ ρ3, Ext ρ1 H1 ρ3 H2 ∧ Rel K ca ρ3 (S ++ [o]) H2 ∧ Rep K ρ3 H2 (Cr.loc S.length) (.ref D) := by
  have hDo := a.out r1 hD
  have r2 := a.rel
  have hDb := r2.bl D a.mem
  obtain ⟨⟨τ, hτ, g1⟩, g2, g3⟩ := a.ext
  have hls : ρ2.ls = ρ1.ls ++ τ := congrArg Lo.ls hτ
  have hbl : ρ2.bl.tail = ρ1.bl := by rw [a.bl]; rfl
  have mv : Mv ρ2 H2 ⟨ρ2.ls ++ [D], ρ2.bl.tail⟩ H2 := ⟨fun b u ho hr => ⟨⟨fun q => ?_, fun q => ho.2 (List.mem_of_mem_tail q)⟩, hr⟩, fun n b hn => ?_⟩
  · refine ⟨⟨ρ2.ls ++ [D], ρ2.bl.tail⟩, ⟨⟨τ ++ [D], by rw [hls, hbl, List.append_assoc], fun b hb => ?_⟩, g2, g3⟩, ⟨?_, ?_, fun n b o' h1 h2 => ?_, fun b hb => ?_⟩, S.length, D, rfl, ?_, rfl⟩
    · rcases List.mem_append.mp hb with q | q
      · exact g1 b q
      · rw [List.mem_singleton.mp q]; exact hD
    · show (ρ2.ls ++ [D]).Nodup
      rw [List.nodup_append]
      exact ⟨r2.nd, by simp, fun b hb c hc => by rw [List.mem_singleton.mp hc]; rintro rfl; exact hDb.1 hb⟩
    · show (ρ2.ls ++ [D]).length = _
      rw [List.length_append, List.length_append, r2.ln]; rfl
    · have h1 : (ρ2.ls ++ [D])[n]? = some b := h1
      by_cases hn : n < ρ2.ls.length
      · rw [List.getElem?_append_left hn] at h1
        rw [List.getElem?_append_left (by rw [← r2.ln]; exact hn)] at h2
        exact (r2.ob n b o' h1 h2).mv mv rfl
      · have hl := r2.ln
        rw [List.getElem?_append_right (by omega)] at h1 h2
        have e0 : n - ρ2.ls.length = 0 := by
          cases q : n - ρ2.ls.length with
          | zero => rfl
          | succ j => rw [q] at h1; simp at h1
        rw [e0] at h1
        rw [← r2.ln, e0] at h2
        simp at h1 h2
        subst h1; subst h2
        exact ho _ mv
    · have hb : b ∈ ρ2.bl.tail := hb
      have := r2.bl b (List.mem_of_mem_tail hb)
      refine ⟨fun q => ?_, this.2⟩
      rcases List.mem_append.mp q with q | q
      · exact this.1 q
      · rw [List.mem_singleton.mp q] at hb
        exact hDo.2 hb
    · show (ρ2.ls ++ [D])[S.length]? = some D
      rw [← r2.ln]; simp
  · rcases List.mem_append.mp q with q | q
    · exact ho.1 q
    · exact ho.2 (by rw [List.mem_singleton.mp q]; exact a.mem)
  · show (ρ2.ls ++ [D])[n]? = some b
    rw [List.getElem?_append_left (List.getElem?_eq_some_iff.mp hn).1]
    exact hn
end
section
variable {K : PySem.W.Frag} {ρ ρ' : Lo} {H H' : Hp} {ks : List (Key × D)} {vs : List (Key × V)}
/-- pairs and their values in the heap -/
structure KR (K : PySem.W.Frag) (ρ : Lo) (H : Hp) (ks : List (Key × D)) (vs : List (Key × V)) : Prop where
  key : vs.map (·.1) = ks.map (·.1)
  val : Reps K ρ H (ks.map (·.2)) (vs.map (·.2))
theorem KR.cons {p : Key × D} {ks : List (Key × D)} {q : Key × V} {vs : List (Key × V)} (h1 : q.1 = p.1) (h2 : Rep K ρ H p.2 q.2) (h : KR K ρ H ks vs) : KR K ρ H (p :: ks) (q :: vs) :=
  ⟨by simp only [List.map_cons]; rw [h1, h.key], ⟨q.2, vs.map (·.2), rfl, h2, h.val⟩⟩
theorem KR.nil : KR K ρ H [] [] := ⟨rfl, rfl⟩
theorem KR.uncons {p : Key × D} {ks : List (Key × D)} {vs : List (Key × V)} (h : KR K ρ H (p :: ks) vs) : ∃ q t, vs = q :: t ∧ q.1 = p.1 ∧ Rep K ρ H p.2 q.2 ∧ KR K ρ H ks t := by
  cases vs with
  | nil => have := h.key; cases this
  | cons q t =>
    have e := List.cons.inj h.key
    obtain ⟨v, w, e2, h2, h3⟩ := h.val
    have e3 := List.cons.inj e2
    have e4 : q.2 = v := e3.1
    exact ⟨q, t, rfl, e.1, by rw [e4]; exact h2, ⟨e.2, by rw [e3.2]; exact h3⟩⟩
theorem KR.nil_of {vs : List (Key × V)} (h : KR K ρ H [] vs) : vs = [] := by
  have := h.key
  simpa using this
theorem KR.any (h : KR K ρ H ks vs) (k : Key) : vs.any (fun kv => decide (kv.1 = k)) = ks.any fun kv => decide (kv.1 = k) := by
  have e : ∀ {α : Type} (l : List (Key × α)), l.any (fun kv => decide (kv.1 = k)) = (l.map (·.1)).any fun x => decide (x = k) := fun l => by rw [List.any_map]; rfl
  rw [e, e, h.key]
theorem KR.len (h : KR K ρ H ks vs) : vs.length = ks.length := by
  have := congrArg List.length h.key
  simpa using this
theorem KR.mapPut {k : Key} {d : D} {v : V} (hd : Rep K ρ H d v) : ∀ {ks : List (Key × D)} {vs : List (Key × V)}, KR K ρ H ks vs → KR K ρ H (ks.map fun p => if p.1 = k then (k, d) else p) (vs.map fun kv => if kv.1 = k then (kv.1, v) else kv)
  | [], vs, h => by rw [h.nil_of]; exact .nil
  | p :: ks, vs, h => by
    obtain ⟨q, t, rfl, h1, h2, h3⟩ := h.uncons
    rw [List.map_cons, List.map_cons]
    by_cases c : p.1 = k
    · rw [if_pos c, if_pos (h1.trans c)]
      exact .cons (h1.trans c) hd (h3.mapPut hd)
    · rw [if_neg c, if_neg fun z => c (h1.symm.trans z)]
      exact .cons h1 h2 (h3.mapPut hd)
theorem KR.app {ks ks2 : List (Key × D)} {vs vs2 : List (Key × V)} (h : KR K ρ H ks vs) (h2 : KR K ρ H ks2 vs2) : KR K ρ H (ks ++ ks2) (vs ++ vs2) :=
  ⟨by simp [h.key, h2.key], by rw [List.map_append, List.map_append]; exact h.val.append h2.val⟩
theorem KR.put {k : Key} {d : D} {v : V} {ks : List (Key × D)} {vs : List (Key × V)} (h : KR K ρ H ks vs) (hd : Rep K ρ H d v) : KR K ρ H (Cr.putK ks k d) (L2.putK vs k v) := by
  unfold Cr.putK L2.putK
  rw [h.any]
  split
  · exact h.mapPut hd
  · exact h.app (.cons rfl hd .nil)
theorem KR.merge : ∀ {more : List (Key × D)} {mv : List (Key × V)} {ks : List (Key × D)} {vs : List (Key × V)}, KR K ρ H more mv → KR K ρ H ks vs → KR K ρ H (mergeD ks more) (mergeK vs mv)
  | [], mv, ks, vs, h, h2 => by rw [h.nil_of]; exact h2
  | p :: more, mv, ks, vs, h, h2 => by
    obtain ⟨q, t, rfl, a1, a2, a3⟩ := h.uncons
    show KR K ρ H (mergeD (Cr.putK ks p.1 p.2) more) (mergeK (L2.putK vs q.1 q.2) t)
    rw [a1]
    exact KR.merge a3 (h2.put a2)
theorem nd_putD {k : Key} {d : D} {ks : List (Key × D)} (h : (ks.map (·.1)).Nodup) : ((Cr.putK ks k d).map (·.1)).Nodup := by
  unfold Cr.putK
  split
  · have e : (ks.map fun p => if p.1 = k then (k, d) else p).map (·.1) = ks.map (·.1) := by
      rw [List.map_map]
      apply List.map_congr_left
      intro p _
      show (if p.1 = k then (k, d) else p).1 = p.1
      split
      · rename_i c; exact c.symm
      · rfl
    rw [e]; exact h
  · rename_i c
    rw [List.map_append, List.nodup_append]
    refine ⟨h, by simp, fun a ha b hb => ?_⟩
    have hb : b = k := by simpa using hb
    rintro rfl
    apply c
    obtain ⟨p, hp, rfl⟩ := List.mem_map.mp ha
    exact List.any_eq_true.mpr ⟨p, hp, by simp [hb]⟩
theorem nd_mergeD : ∀ {more ks : List (Key × D)}, (ks.map (·.1)).Nodup → ((mergeD ks more).map (·.1)).Nodup
  | [], ks, h => h
  | p :: more, ks, h => by
    show ((mergeD (Cr.putK ks p.1 p.2) more).map (·.1)).Nodup
    exact nd_mergeD (nd_putD h)
theorem KR.ext (e : Ext ρ H ρ' H') (h : KR K ρ H ks vs) : KR K ρ' H' ks vs := ⟨h.key, Reps.ext e _ _ h.val⟩
theorem KR.mv (e : Mv ρ H ρ' H') (h : KR K ρ H ks vs) : KR K ρ' H' ks vs := ⟨h.key, Reps.mv e _ _ h.val⟩
end
section
variable {X : Cx} {ca : CA} {W Wb : WX}
theorem exn_mv {K : PySem.W.Frag} {cb : Nat → Addr} {ρ ρ' : Lo} {H : Hp} {c : Nat} {fs : List (Str × D)} {cls : Value} {d : Option Addr} (e : Mv ρ H ρ' H) (h : Exn K cb ρ H c fs cls d) : Exn K cb ρ' H c fs cls d := by
  obtain ⟨h1, h2⟩ := h
  refine ⟨h1, h2.imp (fun q => q) fun ⟨dx, fs', q1, q2, q3, q4⟩ => ⟨dx, fs', q1, q2, q3, Reps.mv e _ _ q4⟩⟩
/-- what a comprehension's turns keep -/
structure Mid (k : Kx) (ρ1 : Lo) (H1 : Hp) (D0 : Addr) (f : Fr) (σ : L2.St) (d : D) (v : V) (xs : List D) (ρ2 : Lo) (S2 : Sto) (H2 : Hp) : Prop where
  ap : Apart k.K k.ca ρ1 H1 D0 ρ2 S2 H2
  fr : FRel k ρ2 H2 f σ
  it : Rep k.K ρ2 H2 d v
  st : stays d xs S2 = true
/-- an exception in a turn -/
theorem mid_ex {α : Type} {k : Kx} {ρ1 ρ2 ρ3 : Lo} {H1 H2 H3 : Hp} {D0 : Addr} {S2 S3 : Sto} {σ : L2.St} {c : Nat} {fs : List (Str × D)} {Q : VK} (a : Apart k.K k.ca ρ1 H1 D0 ρ2 S2 H2) (h : postE k W σ ρ1 H1 (.ex c fs S3) Q) (e : Ext ρ2 H2 ρ3 H3) (r : Rel k.K k.ca ρ3 S3 H3) {cls : Value} {dd : Option Addr}
    (x : Exn k.K k.ca ρ3 H3 c fs cls dd) : W cls dd σ H3 := h ρ3.unb H3 cls dd (a.next e r).ext r.unb (exn_mv .unb x)
theorem mid_next {k : Kx} (hxs : k.xs = []) {ρ1 ρ2 ρ3 : Lo} {H1 H2 H3 : Hp} {D0 : Addr} {S2 S3 : Sto} {f : Fr} {σ : L2.St} {d : D} {v : V} {xs : List D} (m : Mid k ρ1 H1 D0 f σ d v xs ρ2 S2 H2) (hD : H1 D0 = none) (e : Ext ρ2 H2 ρ3 H3) (r : Rel k.K k.ca ρ3 S3 H3) (st : stays d xs S3 = true) : Mid k ρ1 H1 D0 f σ d v xs ρ3 S3 H3 :=
  ⟨m.ap.next e r, m.fr.ext e, Rep.ext e _ _ m.it, st⟩
theorem mid_poke {k : Kx} (hxs : k.xs = []) {ρ1 ρ2 : Lo} {H1 H2 : Hp} {D0 : Addr} {S2 : Sto} {f : Fr} {σ : L2.St} {d : D} {v : V} {xs : List D} (m : Mid k ρ1 H1 D0 f σ d v xs ρ2 S2 H2) (hD : H1 D0 = none) (o : HO) : Mid k ρ1 H1 D0 f σ d v xs ρ2 S2 (upd H2 D0 o) :=
  ⟨m.ap.poke hD o, m.fr.mv hxs (.poke m.ap.mem), Rep.mv (.poke m.ap.mem) _ _ m.it, m.st⟩
theorem lcg_imp (hxs : ca.xs = []) (hxe : ca.xe = none) {nx al : Bool} {ts : List Nat} {tu : Bool} {g : TG} (hg : GOk (kx X ca) ts tu g) {mI : Fr → Sto → Out (D × List D)} {mT : Fr → Sto → Out Bool} {mE : Fr → Sto → Out D} {σ : L2.St} {H : Hp} {Q : VK} (hW : nx = false → ∀ cls d σ' H, W cls d σ H → Wb cls d σ' H)
    (h : tE (kx X ca) W (fun f S => (mI f S).bind fun p S1 => if p.2.length ≤ sizeLine then (lcL p.1 p.2 (turnG nx ts tu mT (fun f3 S3 => (mE f3 S3).bind fun y S4 => .ok (some y) S4) f) p.2 S1).bind fun ys S5 => mkL al ys S5 else .bad) σ H Q) :
    tLc (tI (kx X ca) W mI) g (fun σ H Q => ∃ ρ S s, At (kx X ca) ρ S s σ H ∧ postB (kx X ca) Wb σ ρ H (mT s S) Q) (tE (kx X ca) Wb mE) ts σ H Q := by
  obtain ⟨ρ, S, f, a, h⟩ := h
  dsimp only at h
  refine ⟨ρ, S, f, a, ?_⟩
  cases em : mI f S with
  | bad => rw [em] at h; exact h.elim
  | ex c fs S1 => rw [em] at h; exact h
  | ok p S1 =>
    rw [em, bind_ok] at h
    obtain ⟨d, xs⟩ := p
    dsimp only at h
    split at h
    case isFalse => exact h.elim
    rename_i hsz
    intro v ρ1 H1 J e1 r1 p1 st1 wk D0 hD
    dsimp only at p1 st1 wk
    obtain ⟨step, hstep⟩ : ∃ step, step = turnG nx ts tu mT (fun f3 S3 => (mE f3 S3).bind fun y S4 => .ok (some y) S4) f := ⟨_, rfl⟩
    rw [← hstep] at h
    refine ⟨fun i m H2 => m = xs.length - i ∧ i ≤ xs.length ∧ ∃ ρ2 S2 ys vs, Mid (kx X ca) ρ1 H1 D0 f σ d v xs ρ2 S2 H2 ∧ H2 D0 = some (.lst vs) ∧ Reps X.K ρ2 H2 ys vs ∧ ys.length ≤ i ∧ postE (kx X ca) W σ ρ1 H1 ((lcL d xs step (xs.drop i) S2).bind fun rs S5 => mkL al (ys ++ rs) S5) Q, ⟨xs.length, rfl, Nat.zero_le _, ρ1.blk D0, S1, [], [], ?_, upd_same, rfl, Nat.zero_le _, ?_⟩, ?_⟩
    · exact ⟨Apart.start r1 hD _, (a.fr.ext e1).mv hxs (.blk hD), Rep.mv (.blk hD) _ _ p1, st1⟩
    · exact post.mono h e1 fun _ _ z => z
    · rintro i m H2 ⟨rfl, hi2, ρ2, S2, ys, vs, M, hH, rs, hle, h2⟩
      have r2 : Rel X.K ca.ad ρ2 S2 H2 := M.ap.rel
      have wi := wk ρ2 S2 H2 r2 M.it M.st i
      by_cases hlt : i < xs.length
      · have hx : xs[i]? = some xs[i] := List.getElem?_eq_getElem hlt
        obtain ⟨go, yl⟩ := wi.1 _ hx
        rw [List.drop_eq_getElem_cons hlt] at h2
        refine .inr ⟨go, fun H' => ∃ ρ2 S2 ys vs, Mid (kx X ca) ρ1 H1 D0 f σ d v xs ρ2 S2 H' ∧ H' D0 = some (.lst vs) ∧ Reps X.K ρ2 H' ys vs ∧ ys.length ≤ i + 1 ∧ postE (kx X ca) W σ ρ1 H1 ((lcL d xs step (xs.drop (i + 1)) S2).bind fun rs S5 => mkL al (ys ++ rs) S5) Q, fun H' hn => ⟨xs.length - (i + 1), by omega, rfl, hlt, hn⟩, fun y H' hy => ?_⟩
        obtain ⟨rfl, py⟩ := yl y H' hy
        have hb : ∃ f1, bndT ts tu xs[i] (wipF f ts) = some f1 := by
          cases e : bndT ts tu xs[i] (wipF f ts) with
          | some f1 => exact ⟨f1, rfl⟩
          | none =>
            have e0 : step xs[i] S2 = .bad := by rw [hstep]; unfold turnG; rw [e]; cases nx <;> rfl
            rw [lcL, e0] at h2
            exact h2.elim
        obtain ⟨f1, hf1⟩ := hb
        have hst : step xs[i] S2 = nxW nx ((mT f1 S2).bind fun t S3 => if t = true then (mE f1 S3).bind fun y S4 => .ok (some y) S4 else .ok none S3) := by rw [hstep]; unfold turnG; rw [hf1]
        refine hg r2 hf1 (M.fr.wipeN (k := kx X ca) hxe ts) py fun σ1 fr1 hw => ⟨hw.trans (wipe_wipe σ ts), ρ2, S2, f1, ⟨r2, fr1⟩, ?_⟩
        cases et : mT f1 S2 with
        | bad =>
          rw [et] at hst
          rw [lcL, hst] at h2
          cases nx <;> exact h2.elim
        | ex c fs S3 =>
          rw [et] at hst
          cases nx with
          | true => rw [lcL, hst] at h2; exact h2.elim
          | false =>
            rw [lcL, hst] at h2
            have h2 : postE (kx X ca) W σ ρ1 H1 (.ex c fs S3) Q := h2
            exact fun ρ3 H3 cls dd e3 r3 x => hW rfl _ _ _ _ (mid_ex (α := D) M.ap h2 e3 r3 x)
        | ok t S3 =>
          rw [et, bind_ok] at hst
          intro b ρ3 H3 e3 r3 hb
          subst hb
          cases t with
          | false =>
            rw [if_neg (by decide)] at hst ⊢
            have hst : step xs[i] S2 = .ok none S3 := by rw [hst]; cases nx <;> rfl
            rcases lcL_turn h2 with ⟨c, fs, S', z, _⟩ | ⟨r, S', z, st3, h3⟩
            · rw [hst] at z; cases z
            · rw [hst] at z; cases z
              exact ⟨ρ3, S3, ys, vs, mid_next hxs M hD e3 r3 st3, M.ap.keep e3 hH, Reps.ext e3 _ _ rs, by omega, by simpa using h3⟩
          | true =>
            rw [if_pos rfl] at hst ⊢
            refine ⟨ρ3, S3, f1, ⟨r3, fr1.ext e3⟩, ?_⟩
            cases ee : mE f1 S3 with
            | bad =>
              rw [ee] at hst
              rw [lcL, hst] at h2
              cases nx <;> exact h2.elim
            | ex c fs S4 =>
              rw [ee] at hst
              cases nx with
              | true => rw [lcL, hst] at h2; exact h2.elim
              | false =>
                rw [lcL, hst] at h2
                have h2 : postE (kx X ca) W σ ρ1 H1 (.ex c fs S4) Q := h2
                exact fun ρ4 H4 cls dd e4 r4 x => hW rfl _ _ _ _ (mid_ex (α := D) M.ap h2 (e3.trans e4) r4 x)
            | ok z S4 =>
              rw [ee, bind_ok] at hst
              have hst : step xs[i] S2 = .ok (some z) S4 := by rw [hst]; cases nx <;> rfl
              intro w ρ4 H4 e4 r4 pw
              rcases lcL_turn h2 with ⟨c, fs, S', q, _⟩ | ⟨r, S', q, st3, h3⟩
              · rw [hst] at q; cases q
              · rw [hst] at q; cases q
                have e34 := e3.trans e4
                have M4 := mid_next hxs M hD e34 r4 st3
                have rs4 : Reps X.K ρ4 H4 (ys ++ [z]) (vs ++ [w]) := (Reps.ext e34 _ _ rs).append (.one pw)
                refine ⟨vs, M.ap.keep e34 hH, by rw [rs.length]; omega, ρ4, S4, ys ++ [z], vs ++ [w], mid_poke hxs M4 hD _, upd_same, Reps.mv (.poke M4.ap.mem) _ _ rs4, by rw [List.length_append, List.length_singleton]; omega, by simpa using h3⟩
      · have hi3 : i = xs.length := by omega
        subst hi3
        refine .inl ⟨wi.2 (Nat.le_refl _), ?_⟩
        rw [List.drop_length] at h2
        have h2 : postE (kx X ca) W σ ρ1 H1 (mkL al (ys ++ []) S2) Q := h2
        rw [List.append_nil] at h2
        unfold mkL at h2
        split at h2
        · cases al with
          | false =>
            rw [if_neg (by decide)] at h2
            exact h2 _ ρ2.unb H2 M.ap.ext r2.unb ⟨D0, vs, rfl, .inl ⟨M.ap.out r1 hD, .inl hH⟩, Reps.mv .unb _ _ rs⟩
          | true =>
            rw [if_pos rfl] at h2
            obtain ⟨ρ3, q1, q2, q3⟩ := M.ap.loc r1 hD (o := .lst ys) fun ρ' mv => ⟨vs, hH, Reps.mv mv _ _ rs⟩
            exact h2 _ ρ3 H2 q1 q2 q3
        · exact h2.elim
theorem dcg_imp (hxs : ca.xs = []) (hxe : ca.xe = none) {ts : List Nat} {tu : Bool} {g : TG} (hg : GOk (kx X ca) ts tu g) {mI : Fr → Sto → Out (D × List D)} {mT : Fr → Sto → Out Bool} {mK mV : Fr → Sto → Out D} {σ : L2.St} {H : Hp} {Q : VK}
    (h : tE (kx X ca) W (fun f S => (mI f S).bind fun p S1 => if p.2.length < sizeLine then (lcL p.1 p.2 (turnG true ts tu mT (fun f3 S3 => (mK f3 S3).bind fun a S4 => (mV f3 S4).bind fun b S5 => pairD a b S5) f) p.2 S1).bind fun ps S5 => newO (.dic (mergeD [] ps)) S5 else .bad) σ H Q) :
    tDc (tI (kx X ca) W mI) g (fun σ H Q => ∃ ρ S s, At (kx X ca) ρ S s σ H ∧ postB (kx X ca) noW σ ρ H (mT s S) Q) (tE (kx X ca) noW mK) (tE (kx X ca) noW mV) ts σ H Q := by
  obtain ⟨ρ, S, f, a, h⟩ := h
  dsimp only at h
  refine ⟨ρ, S, f, a, ?_⟩
  cases em : mI f S with
  | bad => rw [em] at h; exact h.elim
  | ex c fs S1 => rw [em] at h; exact h
  | ok p S1 =>
    rw [em, bind_ok] at h
    obtain ⟨d, xs⟩ := p
    dsimp only at h
    split at h
    case isFalse => exact h.elim
    rename_i hsz
    intro v ρ1 H1 J e1 r1 p1 st1 wk D0 hD
    dsimp only at p1 st1 wk
    obtain ⟨step, hstep⟩ : ∃ step, step = turnG true ts tu mT (fun f3 S3 => (mK f3 S3).bind fun a S4 => (mV f3 S4).bind fun b S5 => pairD a b S5) f := ⟨_, rfl⟩
    rw [← hstep] at h
    refine ⟨fun i m H2 => m = xs.length - i ∧ i ≤ xs.length ∧ ∃ ρ2 S2 ys vs, Mid (kx X ca) ρ1 H1 D0 f σ d v xs ρ2 S2 H2 ∧ H2 D0 = some (.dK vs) ∧ KR X.K ρ2 H2 ys vs ∧ ys.length ≤ i ∧ (ys.map (·.1)).Nodup ∧ postE (kx X ca) W σ ρ1 H1 ((lcL d xs step (xs.drop i) S2).bind fun ps S5 => newO (.dic (mergeD ys ps)) S5) Q, ⟨xs.length, rfl, Nat.zero_le _, ρ1.blk D0, S1, [], [], ?_, upd_same, .nil, Nat.zero_le _, List.nodup_nil, ?_⟩, ?_⟩
    · exact ⟨Apart.start r1 hD _, (a.fr.ext e1).mv hxs (.blk hD), Rep.mv (.blk hD) _ _ p1, st1⟩
    · exact post.mono h e1 fun _ _ z => z
    · rintro i m H2 ⟨rfl, hi2, ρ2, S2, ys, vs, M, hH, rs, hle, nd, h2⟩
      have r2 : Rel X.K ca.ad ρ2 S2 H2 := M.ap.rel
      have wi := wk ρ2 S2 H2 r2 M.it M.st i
      by_cases hlt : i < xs.length
      · have hx : xs[i]? = some xs[i] := List.getElem?_eq_getElem hlt
        obtain ⟨go, yl⟩ := wi.1 _ hx
        rw [List.drop_eq_getElem_cons hlt] at h2
        refine .inr ⟨go, fun H' => ∃ ρ2 S2 ys vs, Mid (kx X ca) ρ1 H1 D0 f σ d v xs ρ2 S2 H' ∧ H' D0 = some (.dK vs) ∧ KR X.K ρ2 H' ys vs ∧ ys.length ≤ i + 1 ∧ (ys.map (·.1)).Nodup ∧ postE (kx X ca) W σ ρ1 H1 ((lcL d xs step (xs.drop (i + 1)) S2).bind fun ps S5 => newO (.dic (mergeD ys ps)) S5) Q, fun H' hn => ⟨xs.length - (i + 1), by omega, rfl, hlt, hn⟩, fun y H' hy => ?_⟩
        obtain ⟨rfl, py⟩ := yl y H' hy
        have hb : ∃ f1, bndT ts tu xs[i] (wipF f ts) = some f1 := by
          cases e : bndT ts tu xs[i] (wipF f ts) with
          | some f1 => exact ⟨f1, rfl⟩
          | none =>
            have e0 : step xs[i] S2 = .bad := by rw [hstep]; unfold turnG; rw [e]; rfl
            rw [lcL, e0] at h2
            exact h2.elim
        obtain ⟨f1, hf1⟩ := hb
        have hst : step xs[i] S2 = Out.nox ((mT f1 S2).bind fun t S3 => if t = true then (mK f1 S3).bind fun a S4 => (mV f1 S4).bind fun b S5 => pairD a b S5 else .ok none S3) := by rw [hstep]; unfold turnG; rw [hf1]; rfl
        have nobad : ∀ {o : Out (Option (Key × D))}, step xs[i] S2 = o → o = .bad → False := fun {o} h1 h3 => by
          rw [lcL, h1, h3] at h2
          exact h2.elim
        refine hg r2 hf1 (M.fr.wipeN (k := kx X ca) hxe ts) py fun σ1 fr1 hw => ⟨hw.trans (wipe_wipe σ ts), ρ2, S2, f1, ⟨r2, fr1⟩, ?_⟩
        cases et : mT f1 S2 with
        | bad => rw [et] at hst; exact (nobad hst rfl).elim
        | ex c fs S3 => rw [et] at hst; exact (nobad hst rfl).elim
        | ok t S3 =>
          rw [et, bind_ok] at hst
          intro b ρ3 H3 e3 r3 hb
          subst hb
          cases t with
          | false =>
            rw [if_neg (by decide)] at hst ⊢
            have hst : step xs[i] S2 = .ok none S3 := by rw [hst]; rfl
            rcases lcL_turn h2 with ⟨c, fs, S', z, _⟩ | ⟨r, S', z, st3, h3⟩
            · rw [hst] at z; cases z
            · rw [hst] at z; cases z
              exact ⟨ρ3, S3, ys, vs, mid_next hxs M hD e3 r3 st3, M.ap.keep e3 hH, rs.ext e3, by omega, nd, by simpa using h3⟩
          | true =>
            rw [if_pos rfl] at hst ⊢
            refine ⟨ρ3, S3, f1, ⟨r3, fr1.ext e3⟩, ?_⟩
            cases ek : mK f1 S3 with
            | bad => rw [ek] at hst; exact (nobad hst rfl).elim
            | ex c fs S4 => rw [ek] at hst; exact (nobad hst rfl).elim
            | ok kd S4 =>
              rw [ek, bind_ok] at hst
              intro kv ρ4 H4 e4 r4 pk
              refine ⟨ρ4, S4, f1, ⟨r4, (fr1.ext e3).ext e4⟩, ?_⟩
              cases ev : mV f1 S4 with
              | bad => rw [ev] at hst; exact (nobad hst rfl).elim
              | ex c fs S5 => rw [ev] at hst; exact (nobad hst rfl).elim
              | ok vd S5 =>
                rw [ev, bind_ok] at hst
                intro w ρ5 H5 e5 r5 pw
                unfold pairD at hst
                cases eky : keyOf kd with
                | none => rw [eky] at hst; exact (nobad hst rfl).elim
                | some key =>
                  rw [eky] at hst
                  have hst : step xs[i] S2 = .ok (some (key, vd)) S5 := by rw [hst]; rfl
                  rcases lcL_turn h2 with ⟨c, fs, S', q, _⟩ | ⟨r, S', q, st3, h3⟩
                  · rw [hst] at q; cases q
                  · rw [hst] at q; cases q
                    have e35 := (e3.trans e4).trans e5
                    have M5 := mid_next hxs M hD e35 r5 st3
                    have ll : (Cr.putK ys key vd).length ≤ ys.length + 1 := by unfold Cr.putK; split <;> simp
                    refine ⟨vs, key, key_rep eky pk, M.ap.keep e35 hH, by rw [rs.len]; omega, ρ5, S5, Cr.putK ys key vd, L2.putK vs key w, mid_poke hxs M5 hD _, upd_same, ((rs.ext e35).put pw).mv (.poke M5.ap.mem), by omega, nd_putD nd, h3⟩
      · have hi3 : i = xs.length := by omega
        subst hi3
        refine .inl ⟨wi.2 (Nat.le_refl _), ?_⟩
        rw [List.drop_length] at h2
        have h2 : postE (kx X ca) W σ ρ1 H1 (newO (.dic ys) S2) Q := h2
        obtain ⟨ρ3, q1, q2, q3⟩ := M.ap.loc r1 hD (o := .dic ys) fun ρ' mv => ⟨vs, hH, rs.key, nd, Reps.mv mv _ _ rs.val⟩
        exact h2 _ ρ3 H2 q1 q2 q3
end
end Cr
set_option Elab.async false
set_option linter.all false
set_option maxHeartbeats 2000000
/-! Cr11: which text an expression of the core language stands for; its promise. -/
namespace Cr
open PySem L2 PyProof.Rows
/-- what all bodies of a program share: defs by number; written data; methods (def, class, name, parameters); classes that are called (name, class, __init__, parameters); fields of classes; own errors that are raised (name, class, their fields);
    which errors a name in an except clause catches -/
structure Gb where
  fns : List (Str × Nat)
  gls : List (Str × D)
  mts : List (Nat × Nat × Str × Nat) := []
  nws : List (Str × Nat × Nat × Nat) := []
  fls : List (Nat × Str) := []
  exc : List (Str × Nat × Option (List Str)) := []
  sub : List (Str × List Nat × List Nat) := []
  xfs : List (Nat × Str) := []
/-- a body: its names by slot, its scope; hot: an exception is handled here, xv: its name, xh: slots of its fields; blk: a comprehension's block -/
structure Cxt extends Gb where
  N : List Str
  sc : Scope
  hot : Bool := false
  blk : Bool := false
  xv : Option (Str × List Nat) := none
  xh : List (Str × Nat) := []
mutual
def dEq : D → D → Bool
  | .none, .none => true
  | .bool a, .bool b => a == b
  | .int a, .int b => decide (a = b)
  | .str a, .str b => decide (a = b)
  | .tuple a, .tuple b => dEqs a b
  | .list a, .list b => dEqs a b
  | _, _ => false
def dEqs : List D → List D → Bool
  | [], [] => true
  | x :: xs, y :: ys => dEq x y && dEqs xs ys
  | _, _ => false
end
mutual
theorem dEq_eq : ∀ (a b : D), dEq a b = true → a = b
  | .none, b, h => by cases b <;> first | rfl | (simp [dEq] at h; done)
  | .bool x, b, h => by cases b <;> simp_all [dEq]
  | .int x, b, h => by cases b <;> simp_all [dEq]
  | .str x, b, h => by cases b <;> simp_all [dEq]
  | .tuple x, b, h => by
    cases b with
    | tuple y => rw [dEq] at h; rw [dEqs_eq x y h]
    | _ => simp [dEq] at h
  | .list x, b, h => by
    cases b with
    | list y => rw [dEq] at h; rw [dEqs_eq x y h]
    | _ => simp [dEq] at h
  | .dict x, b, h => by simp [dEq] at h
theorem dEqs_eq : ∀ (a b : List D), dEqs a b = true → a = b
  | [], b, h => by cases b <;> first | rfl | (simp [dEqs] at h; done)
  | x :: xs, b, h => by
    cases b with
    | nil => simp [dEqs] at h
    | cons y ys =>
      rw [dEqs, Bool.and_eq_true] at h
      rw [dEq_eq x y h.1, dEqs_eq xs ys h.2]
end
def glcB (gls : List (Str × D)) (x : Str) (p : D) : Bool := match gls.lookup x with
  | some q => dEq q p
  | none => false
def visB (sc : Scope) (x : Str) : Bool := match sc.names.lookup x with
  | some .local => true
  | some .cell => true
  | some .free => true
  | _ => false
def glB (sc : Scope) (x : Str) : Bool := match sc.names.lookup x with
  | some .globalImplicit => true
  | _ => false
def conB : D → Const → Bool
  | .none, .none => true
  | .bool a, .bool b => a == b
  | .int a, .int b => decide (a = b)
  | .str a, .str b => decide (a = b)
  | _, _ => false
def biN : Bi → Str
  | .abs => "abs" | .int => "int" | .str => "str" | .len => "len" | .tuple => "tuple" | .list => "list" | .repr => "repr"
  | .max => "max" | .maxd => "max" | .min => "min" | .all => "all" | .any => "any" | .sorted => "sorted" | .dict => "dict" | .set => "set" | .ord => "ord"
def mtN : Mt → Str
  | .append => "append" | .pop0 => "pop" | .popAt => "pop" | .join => "join" | .replace => "replace" | .startswith => "startswith" | .split => "split" | .extend => "extend" | .insert => "insert" | .index => "index" | .get1 => "get" | .get2 => "get"
/-- what attributeBase leaves alone -/
def abB : Expr → Bool
  | .Call .. => false
  | _ => true
/-- a comprehension's own name may be stored in its block -/
def ownB (scope sc : Scope) (x : Str) : Bool := match (relS scope sc).names.lookup x with
  | some .local => true
  | some .cell => decide (scope.names.lookup x = some .cell)
  | _ => false
/-- how many arguments a method takes -/
def mthB : Mt → Nat → Bool
  | .append, 1 => true
  | .pop0, 0 => true
  | .popAt, 1 => true
  | .join, 1 => true
  | .startswith, 1 => true
  | _, _ => false
def namesOf : List Expr → Option (List Str)
  | [] => some []
  | .Name x _ :: r => (namesOf r).map (x :: ·)
  | _ => none
/-- the names of a comprehension's target -/
def tgN (tu : Bool) : Expr → Option (List Str)
  | .Name x _ => if tu = true then none else some [x]
  | .Tuple es _ _ => if tu = true then namesOf es else none
  | _ => none
/-- a comprehension's target -/
def chkT (C : Cxt) (scope : Scope) (ts : List Nat) (tu : Bool) (tg : Expr) : Bool := match tgN tu tg with
  | some ns => decide (ns.length = ts.length) && blkC C.N C.sc scope (ns.zip ts) && ns.all (ownB scope C.sc)
  | none => false
/-- whether an exception's classes are known to be caught by a name -/
def subB (C : Gb) (x : Str) (cs ds : List Nat) : Bool := match C.sub.lookup x with
  | some q => decide (q = (cs, ds))
  | none => false
/-- isinstance(e, x), e the exception that is handled: the same answer for all classes that may be -/
def xisB (C : Cxt) (e x : Str) (b : Bool) : Bool := match C.xv, C.sub.lookup x with
  | some (n, cs), some q => decide (n = e) && !C.xh.isEmpty && cs.all fun c => if b then q.1.contains c else q.2.contains c
  | _, _ => false
/-- the block of a comprehension -/
def Cxt.inner (C : Cxt) (scope : Scope) : Cxt := { C with sc := relS scope C.sc, blk := true }
/-- a name -/
def varB (C : Cxt) (i : Nat) : Expr → Bool
  | .Name x _ => decide (C.N[i]? = some x) && visB C.sc x && !(x == ("__debug__" : Str)) && !(x == ("__classdict__" : Str))
  | .Attribute (.Name x _) f _ => C.hot && (match C.xv with
    | some (n, cs) => decide (n = x) && visB C.sc x && !(x == ("__debug__" : Str)) && !(x == ("__classdict__" : Str)) && decide (C.xh.lookup f = some i) && cs.all fun c => C.xfs.contains (c, f)
    | none => false)
  | _ => false
/-- a written datum -/
def conE (C : Cxt) (p : D) : Expr → Bool
  | .Constant c _ _ => conB p c
  | .Name x _ => glB C.sc x && !(x == ("__debug__" : Str)) && glcB C.gls x p
  | .Call (.Name x _) [.Name e _, .Name c _] [] _ => match p with
    | .bool b => C.hot && decide (x = "isinstance") && glB C.sc x && glB C.sc c && visB C.sc e && !(e == ("__debug__" : Str)) && !(e == ("__classdict__" : Str)) && !(c == ("__debug__" : Str)) && xisB C e c b
    | _ => false
  | _ => false
/-- what a comprehension walks: a range's arguments, or one thing -/
def itArgs (sc : Scope) (rg : Bool) (e : Expr) : Option (List Expr) := if rg = true then (match e with
  | .Call (.Name nm _) args [] _ => if (decide (nm = "range") && glB sc "range" && (decide (args.length = 1) || decide (args.length = 2))) = true then some args else none
  | _ => none) else some [e]
mutual
def chkE (C : Cxt) : CE → Expr → Bool
  | .var i, e => varB C i e
  | .con p, e => conE C p e
  | .glb _, _ => false
  | .bop op a b, e => match e with
    | .BinOp l o r _ => decide (op = o) && chkE C a l && chkE C b r
    | _ => false
  | .cmp op a b, e => match e with
    | .Compare l [o] [r] _ => decide (op = o) && !behindInMarks o r && chkE C a l && chkE C b r
    | _ => false
  | .chn o1 o2 a b c, e => match e with
    | .Compare l [p1, p2] [m, r] _ => decide (o1 = p1) && decide (o2 = p2) && !lastMarks [p1, p2] [m, r] && chkE C a l && chkE C b m && chkE C c r
    | _ => false
  | .and a b, e => match e with
    | .BoolOp .And (x :: y :: rest) pos => chkE C a x && (match rest with
      | [] => chkE C b y
      | z :: t => chkE C b (.BoolOp .And (y :: z :: t) pos))
    | _ => false
  | .or a b, e => match e with
    | .BoolOp .Or (x :: y :: rest) pos => chkE C a x && (match rest with
      | [] => chkE C b y
      | z :: t => chkE C b (.BoolOp .Or (y :: z :: t) pos))
    | _ => false
  | .not a, e => match e with
    | .UnaryOp .Not x _ => chkE C a x
    | _ => false
  | .neg a, e => match e with
    | .UnaryOp .USub x _ => chkE C a x
    | _ => false
  | .ite c a b, e => match e with
    | .IfExp t x y _ => chkE C c t && chkE C a x && chkE C b y
    | _ => false
  | .tup xs, e => match e with
    | .Tuple es _ _ => chkEs C xs es
    | _ => false
  | .lst _ xs, e => match e with
    | .List es _ => chkEs C xs es
    | _ => false
  | .dsp xs, e => match e with
    | .Dict ks vs _ => (!C.hot || ks.isEmpty) && decide (ks.length ≤ 15) && decide (ks.length = vs.length) && chkP C xs ks vs
    | _ => false
  | .lc _ tg it ifs elt, e => match e with
    | .ListComp e [⟨.Name x _, iter, fs, 0⟩] scope _ => !C.hot && decide (ifs.length ≤ 1) && decide (C.N[tg]? = some x) && blkC C.N C.sc scope [(x, tg)] && ownB scope C.sc x && chkE C it iter &&
      chkEs (C.inner scope) ifs fs && chkE (C.inner scope) elt e
    | _ => false
  | .lr _ tg rg ifs elt, e => match e with
    | .ListComp e [⟨.Name x _, .Call (.Name nm _) args [] _, fs, 0⟩] scope _ => !C.hot && decide (ifs.length ≤ 1) && decide (C.N[tg]? = some x) && blkC C.N C.sc scope [(x, tg)] && ownB scope C.sc x && decide (nm = "range") && glB C.sc "range" &&
      (decide (rg.length = 1) || decide (rg.length = 2)) && chkEs C rg args && chkEs (C.inner scope) ifs fs && chkE (C.inner scope) elt e
    | _ => false
  | .idx a b, e => match e with
    | .Subscript x y _ => chkE C a x && chkE C b y
    | _ => false
  | .sli a lo hi, e => match e with
    | .Subscript x (.Slice l h none _) _ => chkE C a x && chkO C lo l && chkO C hi h
    | _ => false
  | .call f xs, e => match e with
    | .Call (.Name x _) args [] _ => !C.hot && decide (C.fns[f]? = some (x, xs.length)) && decide (x ≠ Str.empty) && glB C.sc x && !(x == ("__debug__" : Str)) && chkEs C xs args
    | _ => false
  | .blt b xs, e => match e with
    | .Call (.Name x _) args [] _ => !C.hot && decide (x = biN b) && glB C.sc x && !args.isEmpty && chkEs C xs args
    | _ => false
  | .mth m o xs, e => match e with
    | .Call (.Attribute v nm apos) args [] cpos => decide (nm = mtN m) && abB v && (apos.endLine == cpos.line) && chkE C o v && mthB m xs.length && chkEs C xs args
    | _ => false
  | .isi a t, e => match e with
    | .Call (.Name x _) [v, .Name ty _] [] _ => decide (x = "isinstance") && glB C.sc x && decide (ty = Str.ofString t) && glB C.sc ty && chkE C a v && (t == "tuple" || t == "list" || t == "str" || t == "int" || t == "bool")
    | _ => false
  | .mxd a k, e => match e with
    | .Call (.Name x _) [e] [⟨some d, .Constant (.int j) _ _, _⟩] _ => !C.hot && decide (x = "max") && decide (d = "default") && decide (k = j) && glB C.sc x && chkE C a e
    | _ => false
  | .fld cs a f, e => match e with
    | .Attribute v nm _ => decide (f = nm) && abB v && chkE C a v && cs.all fun c => C.fls.contains (c, f)
    | _ => false
  | .mcl nm tb o xs, e => match e with
    | .Call (.Attribute v m apos) args [] cpos => !C.hot && decide (nm = m) && abB v && (apos.endLine == cpos.line) && decide (args.length < 30) && chkE C o v && chkEs C xs args && tb.all fun q => C.mts.contains (q.2, q.1, nm, xs.length + 1)
    | _ => false
  | .new c g xs, e => match e with
    | .Call (.Name x _) args [] _ => !C.hot && C.nws.contains (x, c, g, xs.length + 1) && glB C.sc x && !(x == ("__debug__" : Str)) && chkEs C xs args
    | _ => false
  | .lcg nx _ rg ts tu its ifs elt, e => match e with
    | .ListComp e [⟨tg, iter, fs, 0⟩] scope _ => !C.hot && (nx || !C.blk) && decide (ifs.length ≤ 1) && chkT C scope ts tu tg && (match itArgs C.sc rg iter with
      | some args => chkEs C its args
      | none => false) && chkEs (C.inner scope) ifs fs && chkE (C.inner scope) elt e
    | _ => false
  | .dcg rg ts tu its ifs k v, e => match e with
    | .DictComp e1 e2 [⟨tg, iter, fs, 0⟩] scope _ => !C.hot && decide (ifs.length ≤ 1) && chkT C scope ts tu tg && (match itArgs C.sc rg iter with
      | some args => chkEs C its args
      | none => false) && chkEs (C.inner scope) ifs fs && chkE (C.inner scope) k e1 && chkE (C.inner scope) v e2
    | _ => false
def chkEs (C : Cxt) : List CE → List Expr → Bool
  | [], [] => true
  | a :: r, e :: es => chkE C a e && chkEs C r es
  | _, _ => false
def chkO (C : Cxt) : Option CE → Option Expr → Bool
  | none, none => true
  | some a, some e => chkE C a e
  | _, _ => false
def chkP (C : Cxt) : List CE → List (Option Expr) → List Expr → Bool
  | [], [], [] => true
  | a :: b :: r, some k :: ks, v :: vs => chkE C a k && chkE C b v && chkP C r ks vs
  | _, _, _ => false
end
/-- the built-in names -/
def bNames : List Str := ["abs", "int", "str", "len", "tuple", "list", "repr", "max", "min", "all", "any", "sorted", "range", "isinstance", "bool", "dict", "set", "ord"]
/-- a field of an instance of the class at C -/
def FldOk (K : PySem.W.Frag) (C : Addr) (f : Str) : Prop := Cls K C ∧ NoAttr K C f
/-- an own error's class: made by its own __init__ (fields), or without one -/
def IniOk (P : Program) (w : World) (K : PySem.W.Frag) (mg : Str → Option Value) (base : Heap) (C : Addr) : Option (List Str) → Prop
  | none => False
  | some fl => OexC K C ∧ ∃ (fI : Addr) (fd : FuncData) (ps : List Str), PySem.W.findIn K (.ref C) "__init__" = some (some (.ref fI)) ∧ PySem.W.typeIn K (.ref fI) = some (.type "function") ∧ Binds K fd ps [] ∧ ps.length = fl.length + 1 ∧
      FnOk P w K mg base CX0 1 fI fd ps (fun vs H Q _ => ∃ a ws, vs = .ref a :: ws ∧ ws.length = fl.length ∧ H a = some (exo a C none) ∧ ∀ d, H d = none → d ≠ a → Q .non (upd (upd H d (exd d (fl.zip ws).reverse)) a (exo a C (some d))))
structure ErrOk (P : Program) (w : World) (K : PySem.W.Frag) (mg : Str → Option Value) (base : Heap) (C : Addr) (x : Str) (fl : Option (List Str)) : Prop where
  gl : mg x = some (.ref C)
  kp : PySem.W.keepIn K (.ref C) = true
  su : PySem.W.subIn K (.ref C) (.type "BaseException") = some true
  ty : PySem.W.typeIn K (.ref C) = some (.type "type")
  ini : IniOk P w K mg base C fl
/-- a name of an except clause: what it catches, what it does not -/
def CatOk (K : PySem.W.Frag) (mg : Str → Option Value) (ca : Nat → Addr) (x : Str) (cs ds : List Nat) : Prop :=
  ∃ C, mg x = some (.ref C) ∧ (∀ c ∈ cs, ExcC K (ca c) ∧ PySem.W.exmOne K (.ref (ca c)) (.ref C) = some true ∧ PySem.W.kitOne K (.ref (ca c)) (.ref C) = some true) ∧
    ∀ c ∈ ds, ExcC K (ca c) ∧ PySem.W.exmOne K (.ref (ca c)) (.ref C) = some false ∧ PySem.W.kitOne K (.ref (ca c)) (.ref C) = some false
/-- an except suite: the exception that is handled is pinned -/
def HotX (C : Cxt) (ca : CA) (X : Cx) : Prop := ∃ (a : Addr) (oe : Obj) (c : Nat) (d : Option Addr) (pn : List (Addr × Obj)) (Y : Cx), X = Y.suite a ((a, oe) :: pn) ∧ Zc (.ref (ca.ad c)) d oe ∧ (∃ vs, oe.data = .fields vs) ∧ (C.xv = none → ca.xe = none) ∧
  ∀ n cs, C.xv = some (n, cs) → c ∈ cs ∧ (∃ j, C.N[j]? = some n ∧ ca.xe = some (j, a)) ∧ ∀ f i, C.xh.lookup f = some i → ∃ dx, d = some dx ∧ (i, dx, f) ∈ ca.xs
/-- a body (or a block of it) in which expressions are run -/
structure FitE (C : Cxt) (ca : CA) (n : Nat) (R : Nat → List D → Sto → Out D) (X : Cx) (W : WX) : Prop where
  N : X.N = C.N
  nb : ca.nb = C.N.length
  xs : C.hot = false → ca.xs = []
  xe : C.hot = false → ca.xe = none
  nd : X.N.Nodup
  sc : X.env.scope = C.sc
  calm : C.hot = false → X.calm = true
  own : C.hot = false → C.blk = false → Own X
  units : X.A.units + 100 < cLine
  tk : Takes X W
  room : C.hot = false → RoomX n X.A
  gf : ∀ (f : Nat) (x : Str) (np : Nat), C.fns[f]? = some (x, np) → x ≠ Str.empty → GF X.prog X.w X.K X.mg X.base ca.ad n x np (R f)
  gm : ∀ (f c : Nat) (nm : Str) (np : Nat), (f, c, nm, np) ∈ C.mts → GM X.prog X.w X.K X.mg X.base ca.ad n c nm np (R f)
  gn : ∀ (x : Str) (c f np : Nat), (x, c, f, np) ∈ C.nws → GN X.prog X.w X.K X.mg X.base ca.ad n x c np (R f)
  fl : ∀ (c : Nat) (f : Str), (c, f) ∈ C.fls → FldOk X.K (ca.ad c) f
  er : ∀ (x : Str) (c : Nat) (fl : Option (List Str)), (x, c, fl) ∈ C.exc → ErrOk X.prog X.w X.K X.mg X.base (ca.ad c) x fl
  ct : ∀ (x : Str) (cs ds : List Nat), C.sub.lookup x = some (cs, ds) → CatOk X.K X.mg ca.ad x cs ds
  xf : ∀ (c : Nat) (f : Str), (c, f) ∈ C.xfs → XfC X.K (ca.ad c) ∧ PySem.W.findIn X.K (.ref (ca.ad c)) f = some none
  bi : ∀ x ∈ bNames, X.mg x = none
  gd : ∀ (x : Str) (p : D), C.gls.lookup x = some p → ∃ v u, X.mg x = some u ∧ RelV v u ∧ ∀ ρ H, Rep X.K ρ H p v
  hx : C.hot = true → HotX C ca X
theorem takes_no (X : Cx) (xe : Value → Shared → Prop) : Takes { X with xe := xe } noW := fun u s' ⟨_, _, _, _, _, _, _, _, _, _, _, _, _, _, _, _, w⟩ => w.elim
theorem FitE.blk {C : Cxt} {ca : CA} {n : Nat} {R : Nat → List D → Sto → Out D} {X : Cx} {W : WX} (f : FitE C ca n R X W) (hh : C.hot = false) (s : Shared) (H : Hp) (scope : Scope) (cl : List (Str × Addr)) (c : Addr) (fp : List Addr) :
    FitE (C.inner scope) ca n R (X.blk s H scope (compEnvC scope cl c X.env) fp) noW where
  N := f.N
  nb := f.nb
  xs := f.xs
  xe := f.xe
  nd := f.nd
  sc := by show relS scope X.env.scope = relS scope C.sc; rw [f.sc]
  calm := f.calm
  own := fun _ z => nomatch z
  units := f.units
  tk := fun u s' ⟨_, _, _, _, _, _, _, _, _, _, _, _, _, _, _, _, w⟩ => w.elim
  room := f.room
  gf := f.gf
  gm := f.gm
  gn := f.gn
  fl := f.fl
  er := f.er
  ct := f.ct
  xf := f.xf
  bi := f.bi
  gd := f.gd
  hx := fun z => by rw [show (C.inner scope).hot = C.hot from rfl, hh] at z; cases z
theorem FitE.blkX {C : Cxt} {ca : CA} {n : Nat} {R : Nat → List D → Sto → Out D} {X : Cx} {W W' : WX} (f : FitE C ca n R X W) (hh : C.hot = false) (s : Shared) (H : Hp) (scope : Scope) (cl : List (Str × Addr)) (c : Addr) (fp : List Addr) (xe : Value → Shared → Prop) (tk : Takes (blkX X s H scope (compEnvC scope cl c X.env) fp xe) W') :
    FitE (C.inner scope) ca n R (blkX X s H scope (compEnvC scope cl c X.env) fp xe) W' where
  N := f.N
  nb := f.nb
  xs := f.xs
  xe := f.xe
  nd := f.nd
  sc := by show relS scope X.env.scope = relS scope C.sc; rw [f.sc]
  calm := f.calm
  own := fun _ z => nomatch z
  units := f.units
  tk := tk
  room := f.room
  gf := f.gf
  gm := f.gm
  gn := f.gn
  fl := f.fl
  er := f.er
  ct := f.ct
  xf := f.xf
  bi := f.bi
  gd := f.gd
  hx := fun z => by rw [show (C.inner scope).hot = C.hot from rfl, hh] at z; cases z
theorem FitE.slot {C : Cxt} {ca : CA} {n : Nat} {R : Nat → List D → Sto → Out D} {X : Cx} {W : WX} (f : FitE C ca n R X W) {i : Nat} {x : Str} (h : C.N[i]? = some x) : i < ca.nb := by
  rw [f.nb]
  exact (List.getElem?_eq_some_iff.mp h).1
/-- a name that is not the exception's -/
def xvB (C : Cxt) (x : Str) : Bool := match C.xv with
  | some (n, _) => !(n == x)
  | none => true
theorem FitE.put {C : Cxt} {ca : CA} {n : Nat} {R : Nat → List D → Sto → Out D} {X : Cx} {W : WX} (f : FitE C ca n R X W) {i : Nat} {x : Str} (h : C.N[i]? = some x) (hx : xvB C x = true) : ∀ p, ca.xe = some p → p.1 ≠ i := by
  intro p hp
  cases hh : C.hot with
  | false => rw [f.xe hh] at hp; cases hp
  | true =>
    obtain ⟨a, oe, c, d, pn, Y, _, _, _, h0, h1⟩ := f.hx hh
    cases hv : C.xv with
    | none => rw [h0 hv] at hp; cases hp
    | some q =>
      obtain ⟨m, cs⟩ := q
      obtain ⟨_, ⟨j, j1, j2⟩, _⟩ := h1 m cs hv
      rw [j2] at hp
      cases hp
      rintro rfl
      rw [j1] at h
      cases h
      unfold xvB at hx
      rw [hv] at hx
      simp at hx
theorem vis_of {sc : Scope} {x : Str} (h : visB sc x = true) : Vis sc x := by
  unfold visB at h
  unfold Vis
  split at h
  · rename_i e; exact .inl e
  · rename_i e; exact .inr (.inl e)
  · rename_i e; exact .inr (.inr e)
  · cases h
theorem gl_of {X : Cx} {sc : Scope} {x : Str} (hs : X.env.scope = sc) (h : glB sc x = true) : Gl X x := by
  unfold glB at h
  unfold Gl Env.kindOf
  rw [hs]
  split at h
  · rename_i e; exact e
  · cases h
def noStar : Expr → Bool
  | .Starred .. => false
  | _ => true
theorem chk_ns {C : Cxt} : ∀ {c : CE} {e : Expr}, chkE C c e = true → noStar e = true := by
  intro c e h
  cases e <;> first
    | rfl
    | (cases c <;> exact absurd (show false = true from h) Bool.false_ne_true)
theorem star_cons {e : Expr} {es : List Expr} {env : Env} (h : noStar e = true) : starEach (e :: es) env = (false, eval e env) :: starEach es env := by
  cases e <;> first
    | (cases h; done)
    | (simp only [starEach])
theorem star_any {C : Cxt} {env : Env} {pos : Pos} : ∀ {xs : List CE} {es : List Expr}, chkEs C xs es = true → (backTo pos (starEach es env)).any (·.1) = false
  | [], [], _ => rfl
  | [], _ :: _, h => by simp [chkEs] at h
  | _ :: _, [], h => by simp [chkEs] at h
  | a :: r, e :: es, h => by
    simp only [chkEs, Bool.and_eq_true] at h
    rw [star_cons (chk_ns h.1)]
    show (false || (backTo pos (starEach es env)).any (·.1)) = false
    rw [star_any h.2]
    rfl
theorem star_all {C : Cxt} {env : Env} {pos : Pos} {xs : List CE} {es : List Expr} (h : chkEs C xs es = true) : (backTo pos (starEach es env)).all (fun x => !x.1) = true := by
  have := star_any (env := env) (pos := pos) h
  rw [List.all_eq_true]
  intro y hy
  rw [List.any_eq_false] at this
  simpa using this y hy
theorem chkEs_len {C : Cxt} : ∀ {xs : List CE} {es : List Expr}, chkEs C xs es = true → es.length = xs.length
  | [], [], _ => rfl
  | [], _ :: _, h => by simp [chkEs] at h
  | _ :: _, [], h => by simp [chkEs] at h
  | a :: r, e :: es, h => by
    simp only [chkEs, Bool.and_eq_true] at h
    simp [chkEs_len h.2]
theorem evEs_len {R : Nat → List D → Sto → Out D} : ∀ {xs : List CE} {σ : Fr} {S S' : Sto} {ds : List D}, evEs R xs σ S = .ok ds S' → ds.length = xs.length
  | [], _, _, _, _, h => by simp only [evEs] at h; cases h; rfl
  | a :: r, σ, S, S', ds, h => by
    simp only [evEs] at h
    cases e : evE R a σ S with
    | bad => rw [e] at h; cases h
    | ex c fs S1 => rw [e] at h; cases h
    | ok x S1 =>
      rw [e, bind_ok] at h
      cases e2 : evEs R r σ S1 with
      | bad => rw [e2] at h; cases h
      | ex c fs S2 => rw [e2] at h; cases h
      | ok ys S2 =>
        rw [e2, bind_ok] at h
        cases h
        simp [evEs_len e2]
end Cr
set_option Elab.async false
set_option linter.all false
set_option maxHeartbeats 4000000
set_option maxRecDepth 10000
/-! Cr12: the promise of an expression. -/
namespace Cr
open PySem L2 PyProof.Rows
section
variable {X : Cx} {ca : CA} {W : WX} {R : Nat → List D → Sto → Out D}
/-! ### small steps -/
theorem tT_val {e : Expr} {m : Fr → Sto → Out D} (h : PE X e (tE (kx X ca) W m)) (he : ∀ whole, isTrue e X.env whole = (do let v ← whole; standAt e.pos; holding [v] (truthy v))) : PT X e (tT (kx X ca) W m) := by
  refine PT.imp (pt_val h he) fun σ H Q q => ?_
  obtain ⟨ρ, S, s, a, q⟩ := q
  refine ⟨ρ, S, s, a, ?_⟩
  cases em : m s S with
  | bad => rw [em] at q; exact q
  | ex c fs S1 => rw [em] at q; exact q
  | ok d S1 =>
    rw [em, bind_ok] at q
    intro v ρ1 H1 e1 r1 p1
    cases d with
    | bool b =>
      obtain rfl : v = _ := p1
      exact ⟨b, rfl, q b ρ1 H1 e1 r1 rfl⟩
    | _ => exact q.elim
/-- a test, then the rest -/
theorem tT_step {γ δ : Type} {RepC : Lo → Hp → γ → δ → Prop} {k : Kx} {σ : L2.St} {ρ : Lo} {H : Hp} {S : Sto} {s : Fr} {m : Fr → Sto → Out D} {f g : Sto → Out γ} {Q : δ → Hp → Prop} (a : At k ρ S s σ H)
    (h : post k RepC W σ ρ H ((m s S).bind fun d S1 => onB d S1 f g) Q) :
    tT k W m σ H fun b H1 => ∃ ρ1 S1, At k ρ1 S1 s σ H1 ∧ Ext ρ H ρ1 H1 ∧ post k RepC W σ ρ1 H1 (if b = true then f S1 else g S1) Q := by
  refine ⟨ρ, S, s, a, ?_⟩
  cases em : m s S with
  | bad => rw [em] at h; exact h
  | ex c fs S1 => rw [em] at h; exact h
  | ok d S1 =>
    rw [em, bind_ok] at h
    rw [bind_ok]
    cases d with
    | bool b =>
      intro v ρ1 H1 e1 r1 p1
      cases p1
      refine ⟨ρ1, S1, a.ext e1 r1, e1, ?_⟩
      cases b with
      | true => exact h.mono e1 fun _ _ z => z
      | false => exact h.mono e1 fun _ _ z => z
    | _ => exact h.elim
theorem s_var {C : Cxt} {n : Nat} {i : Nat} {x : Str} {p : Pos} (f : FitE C ca n R X W) (h : C.N[i]? = some x) (hv : visB C.sc x = true) (h1 : (x == ("__debug__" : Str)) = false) (h2 : (x == ("__classdict__" : Str)) = false) : PE X (.Name x p) (tE (kx X ca) W (evE R (.var i))) := by
  refine PE.imp (pe_var (by rw [f.N]; exact h) (by rw [f.sc]; exact vis_of hv) h1 h2) fun σ H Q q => ?_
  obtain ⟨ρ, S, s, a, q⟩ := q
  rw [evE] at q
  split at q
  · rename_i d e
    obtain ⟨v, hv, pv⟩ := a.fr.at_ i d (f.slot h) e
    exact ⟨v, hv, q v ρ H .refl a.rel pv⟩
  · exact q.elim
theorem s_con {p : D} {c : Const} {j : Nat} {pos : Pos} (h : conB p c = true) : PE X (.Constant c j pos) (tE (kx X ca) W (evE R (.con p))) := by
  have fin : ∀ {v : V} {σ : L2.St} {H : Hp} {Q : VK}, (∀ ρ H, Rep X.K ρ H p v) → tE (kx X ca) W (evE R (.con p)) σ H Q → Q v H := fun {v σ H Q} hp q => by
    obtain ⟨ρ, S, s, a, q⟩ := q
    rw [evE] at q
    exact q v ρ H .refl a.rel (hp ρ H)
  cases p with
  | none => cases c <;> first | (cases h; done) | exact PE.imp pe_non fun σ H Q q => fin (fun _ _ => rfl) q
  | bool b =>
    cases c <;> first | (cases h; done) | skip
    obtain rfl := beq_iff_eq.mp (show (b == _) = true from h)
    exact PE.imp pe_bl fun σ H Q q => fin (fun _ _ => rfl) q
  | int b =>
    cases c <;> first | (cases h; done) | skip
    obtain rfl := of_decide_eq_true (show decide (b = _) = true from h)
    exact PE.imp pe_int fun σ H Q q => fin (fun _ _ => rfl) q
  | str b =>
    cases c <;> first | (cases h; done) | skip
    obtain rfl := of_decide_eq_true (show decide (b = _) = true from h)
    exact PE.imp pe_str fun σ H Q q => fin (fun _ _ => rfl) q
  | list b => cases c <;> cases h
  | tuple b => cases c <;> cases h
  | dict b => cases c <;> cases h
theorem s_glb {C : Cxt} {n : Nat} {p : D} {x : Str} {pos : Pos} (f : FitE C ca n R X W) (hg : glB C.sc x = true) (hd : (x == ("__debug__" : Str)) = false) (h : glcB C.gls x p = true) : PE X (.Name x pos) (tE (kx X ca) W (evE R (.con p))) := by
  unfold glcB at h
  split at h
  · rename_i q e
    obtain rfl := dEq_eq _ _ h
    obtain ⟨v, u, h1, h2, h3⟩ := f.gd x _ e
    refine PE.imp (pe_glob (gl_of f.sc hg) h1 h2 hd) fun σ H Q q => ?_
    obtain ⟨ρ, S, s, a, q⟩ := q
    rw [evE] at q
    exact q v ρ H .refl a.rel (h3 ρ H)
  · cases h
theorem s_bop {a b : CE} {l r : Expr} {op : Operator} {pos : Pos} (ha : PE X l (tE (kx X ca) W (evE R a))) (hb : PE X r (tE (kx X ca) W (evE R b))) : PE X (.BinOp l op r pos) (tE (kx X ca) W (evE R (.bop op a b))) := by
  refine PE.imp (pe_op (bin_ok (ca := ca) op) ha hb) fun σ H Q q => ?_
  obtain ⟨ρ, S, s, at_, q⟩ := q
  rw [evE] at q
  obtain ⟨ρ', S', s', a', q'⟩ := tE_step at_ q
  refine ⟨ρ', S', s', a', q'.imp fun x H1 ⟨d, ρ1, S1, a1, e1, p1, q1⟩ => ?_⟩
  obtain ⟨ρ2, S2, s2, a2, q2⟩ := tE_step a1 q1
  refine ⟨ρ2, S2, s2, a2, q2.imp fun y H2 ⟨d2, ρ3, S3, a3, e3, p3, q3⟩ => ?_⟩
  exact ⟨ρ3, S3, d, d2, a3.rel, Rep.ext e3 _ _ p1, p3, q3.to0 (bin_nx _ _ _ _)⟩
theorem s_cmp0 {a b : CE} {op : CmpOp} {σ : L2.St} {H : Hp} {Q : VK} (q : tE (kx X ca) W (evE R (.cmp op a b)) σ H Q) : tOp (rB (kx X ca) (cmpD op)) (tE (kx X ca) W (evE R a)) (tE (kx X ca) W (evE R b)) σ H Q := by
  obtain ⟨ρ, S, s, at_, q⟩ := q
  rw [evE] at q
  obtain ⟨ρ', S', s', a', q'⟩ := tE_step at_ q
  refine ⟨ρ', S', s', a', q'.imp fun x H1 ⟨d, ρ1, S1, a1, e1, p1, q1⟩ => ?_⟩
  obtain ⟨ρ2, S2, s2, a2, q2⟩ := tE_step a1 q1
  refine ⟨ρ2, S2, s2, a2, q2.imp fun y H2 ⟨d2, ρ3, S3, a3, e3, p3, q3⟩ => ?_⟩
  exact ⟨ρ3, S3, d, d2, a3.rel, Rep.ext e3 _ _ p1, p3, q3.to0 (cmp_nx _ _ _ _)⟩
theorem s_cmp {a b : CE} {l r : Expr} {op : CmpOp} {pos : Pos} (hu : X.A.units + 100 < cLine) (ha : PE X l (tE (kx X ca) W (evE R a))) (hb : PE X r (tE (kx X ca) W (evE R b))) (hm : behindInMarks op r = false) : PE X (.Compare l [op] [r] pos) (tE (kx X ca) W (evE R (.cmp op a b))) :=
  PE.imp (pe_cmpR (cmp_ok (ca := ca) hu op) ha hb hm) fun σ H Q q => s_cmp0 q
/-- a test's run by its value's run -/
theorem tT_of {k : Kx} {m : Fr → Sto → Out D} {σ : L2.St} {H : Hp} {Q : Bool → Hp → Prop} (h : tT k W m σ H Q) : tE k W m σ H fun x H1 => ∃ b, x = .bl b ∧ Q b H1 := by
  obtain ⟨ρ, S, s, a, q⟩ := h
  refine ⟨ρ, S, s, a, ?_⟩
  cases em : m s S with
  | bad => rw [em] at q; exact q
  | ex c fs S1 => rw [em] at q; exact q
  | ok d S1 =>
    rw [em, bind_ok] at q
    intro v ρ1 H1 e1 r1 p1
    cases d with
    | bool b =>
      obtain rfl : v = _ := p1
      exact ⟨b, rfl, q b ρ1 H1 e1 r1 rfl⟩
    | _ => exact q.elim
theorem t_cmp {a b : CE} {l r : Expr} {op : CmpOp} {pos : Pos} (hu : X.A.units + 100 < cLine) (ha : PE X l (tE (kx X ca) W (evE R a))) (hb : PE X r (tE (kx X ca) W (evE R b))) (hm : behindInMarks op r = false) : PT X (.Compare l [op] [r] pos) (tT (kx X ca) W (evE R (.cmp op a b))) :=
  PT.imp (pt_cmpR (cmp_ok (ca := ca) hu op) ha hb hm) fun σ H Q q => s_cmp0 (tT_of q)
theorem s_chn0 {a b c : CE} {o1 o2 : CmpOp} {σ : L2.St} {H : Hp} {Q : VK} (q : tE (kx X ca) W (evE R (.chn o1 o2 a b c)) σ H Q) : tChain (rB (kx X ca) (cmpD o1)) (rB (kx X ca) (cmpD o2)) (tE (kx X ca) W (evE R a)) (tE (kx X ca) W (evE R b)) (tE (kx X ca) W (evE R c)) σ H Q := by
  obtain ⟨ρ, S, s, at_, q⟩ := q
  rw [evE] at q
  obtain ⟨ρ', S', s', a', q'⟩ := tE_step at_ q
  refine ⟨ρ', S', s', a', q'.imp fun x H1 ⟨d, ρ1, S1, a1, e1, p1, q1⟩ => ?_⟩
  obtain ⟨ρ2, S2, s2, a2, q2⟩ := tE_step a1 q1
  refine ⟨ρ2, S2, s2, a2, q2.imp fun y H2 ⟨d2, ρ3, S3, a3, e3, p3, q3⟩ => ?_⟩
  refine ⟨ρ3, S3, d, d2, a3.rel, Rep.ext e3 _ _ p1, p3, ?_⟩
  cases eo : cmpD o1 d d2 S3 with
  | bad => rw [eo] at q3; exact q3.elim
  | ex k fs S4 => exact absurd eo (cmp_nx _ _ _ _ _ _ _)
  | ok t S4 =>
    rw [eo, bind_ok] at q3
    intro v ρ4 H4 e4 r4 p4
    cases t with
    | bool b =>
      obtain rfl : v = _ := p4
      refine ⟨b, rfl, ?_⟩
      cases b with
      | true =>
        rw [if_pos rfl]
        have q3 : postE (kx X ca) W σ ρ3 H2 ((evE R c s S4).bind fun z S5 => cmpD o2 d2 z S5) Q := q3
        obtain ⟨ρ5, S5, s5, a5, q5⟩ := tE_step (a3.ext e4 r4) (q3.mono e4 fun _ _ z => z)
        refine ⟨ρ5, S5, s5, a5, q5.imp fun w H5 ⟨d6, ρ6, S6, a6, e6, p6, q6⟩ => ?_⟩
        exact ⟨ρ6, S6, d2, d6, a6.rel, Rep.ext (e4.trans e6) _ _ p3, p6, q6.to0 (cmp_nx _ _ _ _)⟩
      | false =>
        rw [if_neg (by decide)]
        exact q3 (.bl false) ρ4 H4 e4 r4 rfl
    | _ => exact q3.elim
theorem s_chn {a b c : CE} {l m r : Expr} {o1 o2 : CmpOp} {pos : Pos} (hu : X.A.units + 100 < cLine) (ha : PE X l (tE (kx X ca) W (evE R a))) (hb : PE X m (tE (kx X ca) W (evE R b))) (hc : PE X r (tE (kx X ca) W (evE R c))) (hm : lastMarks [o1, o2] [m, r] = false) :
    PE X (.Compare l [o1, o2] [m, r] pos) (tE (kx X ca) W (evE R (.chn o1 o2 a b c))) := PE.imp (pe_chain (cmp_ok (ca := ca) hu o1) (cmp_ok (ca := ca) hu o2) ha hb hc hm) fun σ H Q q => s_chn0 q
theorem t_chn {a b c : CE} {l m r : Expr} {o1 o2 : CmpOp} {pos : Pos} (hu : X.A.units + 100 < cLine) (ha : PE X l (tE (kx X ca) W (evE R a))) (hb : PE X m (tE (kx X ca) W (evE R b))) (hc : PE X r (tE (kx X ca) W (evE R c))) (hm : lastMarks [o1, o2] [m, r] = false) :
    PT X (.Compare l [o1, o2] [m, r] pos) (tT (kx X ca) W (evE R (.chn o1 o2 a b c))) := PT.imp (pt_chain (cmp_ok (ca := ca) hu o1) (cmp_ok (ca := ca) hu o2) ha hb hc hm) fun σ H Q q => s_chn0 (tT_of q)
theorem s_and {a b : CE} {x y : Expr} {rest : List Expr} {pos : Pos} (ha : PE X x (tE (kx X ca) W (evE R a))) (hb : PE X (.BoolOp .And (y :: rest) pos) (tE (kx X ca) W (evE R b))) : PE X (.BoolOp .And (x :: y :: rest) pos) (tE (kx X ca) W (evE R (.and a b))) := by
  refine PE.imp (pe_and ha hb) fun σ H Q q => ?_
  obtain ⟨ρ, S, s, at_, q⟩ := q
  rw [evE] at q
  obtain ⟨ρ', S', s', a', q'⟩ := tE_step at_ q
  refine ⟨ρ', S', s', a', q'.imp fun v H1 ⟨d, ρ1, S1, a1, e1, p1, q1⟩ => ?_⟩
  cases d with
  | bool t =>
    obtain rfl : v = _ := p1
    cases t with
    | true => exact ⟨true, rfl, ρ1, S1, s, a1, q1⟩
    | false => exact ⟨false, rfl, q1 _ ρ1 H1 .refl a1.rel rfl⟩
  | _ => exact q1.elim
theorem s_or {a b : CE} {x y : Expr} {rest : List Expr} {pos : Pos} (ha : PE X x (tE (kx X ca) W (evE R a))) (hb : PE X (.BoolOp .Or (y :: rest) pos) (tE (kx X ca) W (evE R b))) : PE X (.BoolOp .Or (x :: y :: rest) pos) (tE (kx X ca) W (evE R (.or a b))) := by
  refine PE.imp (pe_or ha hb) fun σ H Q q => ?_
  obtain ⟨ρ, S, s, at_, q⟩ := q
  rw [evE] at q
  obtain ⟨ρ', S', s', a', q'⟩ := tE_step at_ q
  refine ⟨ρ', S', s', a', q'.imp fun v H1 ⟨d, ρ1, S1, a1, e1, p1, q1⟩ => ?_⟩
  cases d with
  | bool t =>
    obtain rfl : v = _ := p1
    cases t with
    | true => exact ⟨true, rfl, q1 _ ρ1 H1 .refl a1.rel rfl⟩
    | false => exact ⟨false, rfl, ρ1, S1, s, a1, q1⟩
  | _ => exact q1.elim
theorem pw_pt {op : BoolOp} {vs : List Expr} {pos : Pos} {t : TT} (h : PT X (.BoolOp op vs pos) t) : PW X (.BoolOp op vs pos) t := by
  refine ⟨fun whole pins s σ H Q I q => ?_⟩
  have := h.run pins s σ H Q I q
  rw [arm_isTrue_BoolOp] at this ⊢
  exact this
/-- a run that is a match on a truth, as one on its test -/
theorem bool_bind {o : Out D} {f g : Sto → Out D} : (o.bind fun d S1 => onB d S1 f g).bind asB = o.bind fun d S1 => onB d S1 (fun S => (f S).bind asB) (fun S => (g S).bind asB) := by
  cases o with
  | bad => rfl
  | ex c fs S => rfl
  | ok d S =>
    cases d with
    | bool b => cases b <;> rfl
    | _ => rfl
theorem t_and {a b : CE} {x y : Expr} {rest : List Expr} {pos : Pos} (ha : PT X x (tT (kx X ca) W (evE R a))) (hb : PW X (.BoolOp .And (y :: rest) pos) (tT (kx X ca) W (evE R b))) : PT X (.BoolOp .And (x :: y :: rest) pos) (tT (kx X ca) W (evE R (.and a b))) := by
  refine PT.imp (pw_and ha hb).pt fun σ H Q q => ?_
  obtain ⟨ρ, S, s, at_, q⟩ := q
  rw [evE] at q
  rw [bool_bind] at q
  obtain ⟨ρ', S', s', a', q'⟩ := tT_step at_ q
  refine ⟨ρ', S', s', a', q'.imp fun t H1 ⟨ρ1, S1, a1, e1, q1⟩ => ?_⟩
  cases t with
  | true => exact ⟨ρ1, S1, s, a1, q1⟩
  | false => exact q1 false ρ1 H1 .refl a1.rel rfl
theorem t_or {a b : CE} {x y : Expr} {rest : List Expr} {pos : Pos} (ha : PT X x (tT (kx X ca) W (evE R a))) (hb : PW X (.BoolOp .Or (y :: rest) pos) (tT (kx X ca) W (evE R b))) : PT X (.BoolOp .Or (x :: y :: rest) pos) (tT (kx X ca) W (evE R (.or a b))) := by
  refine PT.imp (pw_or ha hb).pt fun σ H Q q => ?_
  obtain ⟨ρ, S, s, at_, q⟩ := q
  rw [evE] at q
  rw [bool_bind] at q
  obtain ⟨ρ', S', s', a', q'⟩ := tT_step at_ q
  refine ⟨ρ', S', s', a', q'.imp fun t H1 ⟨ρ1, S1, a1, e1, q1⟩ => ?_⟩
  cases t with
  | true => exact q1 true ρ1 H1 .refl a1.rel rfl
  | false => exact ⟨ρ1, S1, s, a1, q1⟩
theorem s_not {a : CE} {x : Expr} {pos : Pos} (ha : PE X x (tE (kx X ca) W (evE R a))) : PE X (.UnaryOp .Not x pos) (tE (kx X ca) W (evE R (.not a))) := by
  refine PE.imp (pe_not ha) fun σ H Q q => ?_
  obtain ⟨ρ, S, s, at_, q⟩ := q
  rw [evE] at q
  obtain ⟨ρ', S', s', a', q'⟩ := tE_step at_ q
  refine ⟨ρ', S', s', a', q'.imp fun v H1 ⟨d, ρ1, S1, a1, e1, p1, q1⟩ => ?_⟩
  cases d with
  | bool t =>
    obtain rfl : v = _ := p1
    exact ⟨t, rfl, q1 _ ρ1 H1 .refl a1.rel rfl⟩
  | _ => exact q1.elim
theorem t_not {a : CE} {x : Expr} {pos : Pos} (ha : PT X x (tT (kx X ca) W (evE R a))) : PT X (.UnaryOp .Not x pos) (tT (kx X ca) W (evE R (.not a))) := by
  refine PT.imp (pt_not ha) fun σ H Q q => ?_
  obtain ⟨ρ, S, s, at_, q⟩ := q
  rw [evE] at q
  refine ⟨ρ, S, s, at_, ?_⟩
  cases em : evE R a s S with
  | bad => rw [em] at q; exact q
  | ex c fs S1 => rw [em] at q; exact q
  | ok d S1 =>
    rw [em, bind_ok] at q
    rw [bind_ok]
    cases d with
    | bool b =>
      intro v ρ1 H1 e1 r1 p1
      cases p1
      exact q _ ρ1 H1 e1 r1 rfl
    | _ => exact q.elim
theorem s_neg {a : CE} {x : Expr} {pos : Pos} (ha : PE X x (tE (kx X ca) W (evE R a))) : PE X (.UnaryOp .USub x pos) (tE (kx X ca) W (evE R (.neg a))) := by
  refine PE.imp (pe_un un_neg ha) fun σ H Q q => ?_
  obtain ⟨ρ, S, s, at_, q⟩ := q
  rw [evE] at q
  obtain ⟨ρ', S', s', a', q'⟩ := tE_step at_ q
  refine ⟨ρ', S', s', a', q'.imp fun v H1 ⟨d, ρ1, S1, a1, e1, p1, q1⟩ => ?_⟩
  cases d with
  | int t =>
    obtain rfl : v = _ := p1
    exact ⟨t, rfl, q1 _ ρ1 H1 .refl a1.rel rfl⟩
  | _ => exact q1.elim
theorem s_ite {c a b : CE} {t x y : Expr} {pos : Pos} (hc : PT X t (tT (kx X ca) W (evE R c))) (ha : PE X x (tE (kx X ca) W (evE R a))) (hb : PE X y (tE (kx X ca) W (evE R b))) : PE X (.IfExp t x y pos) (tE (kx X ca) W (evE R (.ite c a b))) := by
  refine PE.imp (pe_ifExp hc ha hb) fun σ H Q q => ?_
  obtain ⟨ρ, S, s, at_, q⟩ := q
  rw [evE] at q
  obtain ⟨ρ', S', s', a', q'⟩ := tT_step (f := fun S1 => evE R a s S1) (g := fun S1 => evE R b s S1) at_ q
  refine ⟨ρ', S', s', a', q'.imp fun v H1 ⟨ρ1, S1, a1, e1, q1⟩ => ?_⟩
  cases v with
  | true => exact ⟨ρ1, S1, s, a1, q1⟩
  | false => exact ⟨ρ1, S1, s, a1, q1⟩
theorem t_ite {c a b : CE} {t x y : Expr} {pos : Pos} (hc : PT X t (tT (kx X ca) W (evE R c))) (ha : PT X x (tT (kx X ca) W (evE R a))) (hb : PT X y (tT (kx X ca) W (evE R b))) : PT X (.IfExp t x y pos) (tT (kx X ca) W (evE R (.ite c a b))) := by
  refine ⟨fun pins s σ H Q I q => ?_⟩
  obtain ⟨ρ, S, f, at_, q⟩ := q
  rw [evE] at q
  rw [bool_bind] at q
  have q' := tT_step at_ q
  refine isTrue_IfExp (thn (hc.run pins s σ H _ I q') fun d s1 ⟨H1, I1, ρ1, S1, a1, e1, q1⟩ => ?_)
  cases d with
  | true => exact ha.run pins s1 σ H1 Q I1 ⟨ρ1, S1, f, a1, q1⟩
  | false => exact hb.run pins s1 σ H1 Q I1 ⟨ρ1, S1, f, a1, q1⟩
/-! ### the exception that is handled -/
/-- its name -/
theorem s_xname {C : Cxt} {n : Nat} {x : Str} {cs : List Nat} {p : Pos} (f : FitE C ca n R X W) (hh : C.hot = true) (hxv : C.xv = some (x, cs)) (hv : visB C.sc x = true) (h1 : (x == ("__debug__" : Str)) = false) (h2 : (x == ("__classdict__" : Str)) = false) :
    ∃ (a : Addr) (oe : Obj) (c : Nat) (d : Option Addr) (pn : List (Addr × Obj)) (Y : Cx), X = Y.suite a ((a, oe) :: pn) ∧ Zc (.ref (ca.ad c)) d oe ∧ (∃ vs, oe.data = .fields vs) ∧ c ∈ cs ∧ (∀ g i, C.xh.lookup g = some i → ∃ dx, d = some dx ∧ (i, dx, g) ∈ ca.xs) ∧
      PE X (.Name x p) (fun σ H Q => (∃ ρ S s, At (kx X ca) ρ S s σ H) ∧ Q (.ref a) H) := by
  obtain ⟨a, oe, c, d, pn, Y, e1, e2, e3, _, e4⟩ := f.hx hh
  obtain ⟨g1, ⟨j, g2, g3⟩, g4⟩ := e4 _ _ hxv
  refine ⟨a, oe, c, d, pn, Y, e1, e2, e3, g1, g4, ?_⟩
  refine PE.imp (pe_var (i := j) (by rw [f.N]; exact g2) (by rw [f.sc]; exact vis_of hv) h1 h2) fun σ H Q q => ?_
  obtain ⟨⟨ρ, S, s, a'⟩, q⟩ := q
  exact ⟨.ref a, a'.fr.ex (j, a) g3, q⟩
/-- a field of it -/
theorem s_xfld {C : Cxt} {n : Nat} {i : Nat} {x g : Str} {cs : List Nat} {p pos : Pos} (f : FitE C ca n R X W) (hh : C.hot = true) (hxv : C.xv = some (x, cs)) (hv : visB C.sc x = true) (h1 : (x == ("__debug__" : Str)) = false) (h2 : (x == ("__classdict__" : Str)) = false)
    (hl : C.xh.lookup g = some i) (hc : ∀ c ∈ cs, (c, g) ∈ C.xfs) : PE X (.Attribute (.Name x p) g pos) (tE (kx X ca) W (evE R (.var i))) := by
  obtain ⟨a, oe, c, d, pn, Y, rfl, e2, e3, e4, e5, hp⟩ := s_xname (p := p) f hh hxv hv h1 h2
  obtain ⟨dx, rfl, e6⟩ := e5 _ _ hl
  obtain ⟨x1, x2⟩ := f.xf c g (hc c e4)
  refine PE.imp (pe_xf (C := ca.ad c) x1 x2 e2 e3 hp (by rfl)) fun σ H Q q => ?_
  obtain ⟨ρ, S, s, at_, q⟩ := q
  refine ⟨⟨ρ, S, s, at_⟩, rfl, rfl, ?_⟩
  obtain ⟨y1, y2, fs, y3, y4⟩ := at_.fr.hid _ e6
  rw [evE] at q
  split at q
  · rename_i dd e
    obtain ⟨v, z1, z2⟩ := y4 dd e
    exact ⟨dx, fs, v, rfl, y3, z1, q v ρ H .refl at_.rel z2⟩
  · exact q.elim
/-- isinstance of it -/
theorem call_xis {a D : Addr} {d : Option Addr} {oe : Obj} {pn : List (Addr × Obj)} {Y : Cx} (C : ExcC Y.K D) (hz : Zc (.ref D) d oe) (hf : ∃ vs, oe.data = .fields vs) (k : Kx) (hd : ∀ {σ : L2.St} {H : Hp}, (∃ ρ S s, At k ρ S s σ H) → ∀ dx, d = some dx → ∃ fs, H dx = some (.xd fs)) :
    ∀ (pins : List (Addr × Obj)) (s : Shared) (σ : L2.St) (H : Hp) (us : List Value) (Q : VK) (c : Value) (b : Bool), Inv (Y.suite a ((a, oe) :: pn)) pins σ H s → (∃ ρ S s, At k ρ S s σ H) → PySem.W.kitOne Y.K (.ref D) c = some b → Q (.bl b) H →
      wpAny (model Y.prog Y.w) (Y.suite a ((a, oe) :: pn)).A (call (.builtin "isinstance") [.ref a, c]) (EP (Y.suite a ((a, oe) :: pn)) pins σ Q) (Y.suite a ((a, oe) :: pn)).xe s := by
  intro pins s σ H us Q c b I hat hk q
  obtain ⟨hget, _⟩ := I.pin (a, oe) (List.mem_append.mpr (.inl List.mem_cons_self))
  obtain ⟨vs, hv⟩ := hf
  have J : ∃ od, PySem.W.InstAt s.heap a oe D od := by
    cases d with
    | none =>
      refine ⟨none, ?_⟩
      obtain ⟨oc, od, oda, osl⟩ := oe
      obtain ⟨h1, h2⟩ := hz
      dsimp only at h1 h2 hv
      subst h1 h2 hv
      exact ⟨hget, rfl, rfl, trivial⟩
    | some dx =>
      obtain ⟨fs, hx⟩ := hd hat dx rfl
      have hx : ObjOk Y.prog Y.w H s.heap dx (.xd fs) := I.hok dx _ hx
      obtain ⟨mA, hns, _⟩ := hx
      obtain ⟨o, _, _, ho, _⟩ := hns
      refine ⟨some o, hget, hz.1, by unfold PySem.W.notCls; rw [hv] <;> rfl, by rw [hz.2]; exact ho⟩
  obtain ⟨od, J⟩ := J
  have hcl : (PySem.W.clsIn Y.K D).isSome = true := by
    obtain ⟨cd, hc, _⟩ := PySem.W.any_some C.hd
    rw [hc]; rfl
  exact PySem.W.kia_one (PySem.W.kitx_exc hcl C.hg C.hk C.hs C.ha C.hn C.ht C.hm) I.kIn J hk (fun z => nomatch z) fun tk => ⟨.bl b, H, I.kept (t' := tk) fun _ _ z => z, rfl, q⟩
end
end Cr
set_option Elab.async false
set_option linter.all false
set_option maxHeartbeats 4000000
set_option maxRecDepth 10000
/-! Cr13: displays, subscripts, calls. -/
namespace Cr
open PySem L2 PyProof.Rows
section
variable {X : Cx} {ca : CA} {W : WX} {R : Nat → List D → Sto → Out D}
theorem sa_nil : PA X [] (tA (kx X ca) W (evEs R [])) := by
  refine PA.imp pa_nil fun σ H Q q => ?_
  obtain ⟨ρ, S, s, a, q⟩ := q
  rw [evEs] at q
  exact q [] ρ H .refl a.rel rfl
theorem sa_cons {a : CE} {r : List CE} {e : Expr} {es : List Expr} (ha : PE X e (tE (kx X ca) W (evE R a))) (hr : PA X es (tA (kx X ca) W (evEs R r))) (hs : starEach (e :: es) X.env = (false, eval e X.env) :: starEach es X.env) : PA X (e :: es) (tA (kx X ca) W (evEs R (a :: r))) := by
  refine PA.imp (pa_cons ha hr hs) fun σ H Q q => ?_
  obtain ⟨ρ, S, s, at_, q⟩ := q
  rw [evEs] at q
  obtain ⟨ρ', S', s', a', q'⟩ := tE_step at_ q
  refine ⟨ρ', S', s', a', q'.imp fun x H1 ⟨d, ρ1, S1, a1, e1, p1, q1⟩ => ?_⟩
  obtain ⟨ρ2, S2, s2, a2, q2⟩ := tA_step a1 q1
  refine ⟨ρ2, S2, s2, a2, q2.imp fun ys H2 ⟨ds, ρ3, S3, a3, e3, p3, q3⟩ => ?_⟩
  exact q3 (x :: ys) ρ3 H2 .refl a3.rel ⟨x, ys, rfl, Rep.ext e3 _ _ p1, p3⟩
theorem s_tup {xs : List CE} {es : List Expr} {j : Nat} {pos : Pos} (h : PA X es (tA (kx X ca) W (evEs R xs))) : PE X (.Tuple es j pos) (tE (kx X ca) W (evE R (.tup xs))) := by
  refine PE.imp (pe_tup h) fun σ H Q q => ?_
  obtain ⟨ρ, S, s, at_, q⟩ := q
  rw [evE] at q
  obtain ⟨ρ', S', s', a', q'⟩ := tA_step at_ q
  refine ⟨ρ', S', s', a', q'.imp fun vs H1 ⟨ds, ρ1, S1, a1, e1, p1, q1⟩ => ?_⟩
  split at q1
  · rename_i hz
    exact ⟨by rw [p1.length]; exact hz, fun p hp => q1 _ ρ1 _ (.new _ hp) (a1.rel.new _ hp) (rep_newT a1.rel hp p1)⟩
  · exact q1.elim
theorem mkL_fin {al : Bool} {σ : L2.St} {ρ : Lo} {H : Hp} {ds : List D} {vs : List V} {S : Sto} {Q : VK} (r : Rel X.K ca.ad ρ S H) (p : Reps X.K ρ H ds vs) (q : postE (kx X ca) W σ ρ H (mkL al ds S) Q) : vs.length ≤ sizeLine ∧ ∀ p, H p = none → Q (.ref p) (upd H p (.lst vs)) := by
  unfold mkL at q
  split at q
  · rename_i hz
    refine ⟨by rw [p.length]; exact hz, fun a ha => ?_⟩
    cases al with
    | false =>
      rw [if_neg (by decide)] at q
      exact q _ ρ _ (.new _ ha) (r.new _ ha) (rep_newL r ha p)
    | true =>
      rw [if_pos rfl] at q
      exact q _ _ _ (.alloc _ ha) (r.allocL ha p) r.locNew
  · exact q.elim
theorem s_lst {al : Bool} {xs : List CE} {es : List Expr} {pos : Pos} (h : PA X es (tA (kx X ca) W (evEs R xs))) : PE X (.List es pos) (tE (kx X ca) W (evE R (.lst al xs))) := by
  refine PE.imp (pe_lst h) fun σ H Q q => ?_
  obtain ⟨ρ, S, s, at_, q⟩ := q
  rw [evE] at q
  obtain ⟨ρ', S', s', a', q'⟩ := tA_step at_ q
  refine ⟨ρ', S', s', a', q'.imp fun vs H1 ⟨ds, ρ1, S1, a1, e1, p1, q1⟩ => ?_⟩
  exact mkL_fin a1.rel p1 q1
theorem s_idx {a b : CE} {x y : Expr} {pos : Pos} (hu : X.A.units + 100 < cLine) (ha : PE X x (tE (kx X ca) W (evE R a))) (hb : PE X y (tE (kx X ca) W (evE R b))) (hs : PlainIx y) : PE X (.Subscript x y pos) (tE (kx X ca) W (evE R (.idx a b))) := by
  refine PE.imp (pe_ix (idx_ok (ca := ca) hu) ha hb hs) fun σ H Q q => ?_
  obtain ⟨ρ, S, s, at_, q⟩ := q
  rw [evE] at q
  obtain ⟨ρ', S', s', a', q'⟩ := tE_step at_ q
  refine ⟨ρ', S', s', a', q'.imp fun x H1 ⟨d, ρ1, S1, a1, e1, p1, q1⟩ => ?_⟩
  obtain ⟨ρ2, S2, s2, a2, q2⟩ := tE_step a1 q1
  refine ⟨ρ2, S2, s2, a2, q2.imp fun y H2 ⟨d2, ρ3, S3, a3, e3, p3, q3⟩ => ?_⟩
  exact ⟨ρ3, S3, d, d2, a3.rel, Rep.ext e3 _ _ p1, p3, q3.to0 (idx_nx _ _ _)⟩
/-- an optional part of a slice -/
def tO (k : Kx) (W : WX) (m : Fr → Sto → Out (Option Int)) : TO := fun σ H Q => ∃ ρ S s, At k ρ S s σ H ∧ post k (fun _ _ (a b : Option Int) => a = b) W σ ρ H (m s S) Q
theorem PO.imp {X : Cx} {e : Option Expr} {t t' : TO} (h : PO X e t) (w : ∀ σ H Q, t' σ H Q → t σ H Q) : PO X e t' := ⟨fun pins s σ H Q I q => h.run pins s σ H Q I (w σ H Q q)⟩
theorem so_none : PO X none (tO (kx X ca) W fun s S => (evO R none s S).bind prtD) := by
  refine PO.imp po_none fun σ H Q q => ?_
  obtain ⟨ρ, S, s, a, q⟩ := q
  dsimp only at q
  rw [evO, bind_ok] at q
  exact q none ρ H .refl a.rel rfl
theorem so_some {a : CE} {e : Expr} (h : PE X e (tE (kx X ca) W (evE R a))) : PO X (some e) (tO (kx X ca) W fun s S => (evO R (some a) s S).bind prtD) := by
  refine PO.imp (po_some h) fun σ H Q q => ?_
  obtain ⟨ρ, S, s, at_, q⟩ := q
  dsimp only at q
  rw [evO] at q
  refine ⟨ρ, S, s, at_, ?_⟩
  cases em : evE R a s S with
  | bad => rw [em] at q; exact q
  | ex c fs S1 => rw [em] at q; exact q
  | ok d S1 =>
    rw [em, bind_ok, bind_ok] at q
    intro v ρ1 H1 e1 r1 p1
    cases d with
    | int i =>
      obtain rfl : v = _ := p1
      exact ⟨i, rfl, q (some i) ρ1 H1 e1 r1 rfl⟩
    | _ => exact q.elim
theorem tO_step {k : Kx} {σ : L2.St} {ρ : Lo} {H : Hp} {S : Sto} {s : Fr} {γ δ : Type} {RepC : Lo → Hp → γ → δ → Prop} {m : Fr → Sto → Out (Option Int)} {f : Option Int → Sto → Out γ} {Q : δ → Hp → Prop} (a : At k ρ S s σ H) (h : post k RepC W σ ρ H ((m s S).bind f) Q) :
    tO k W m σ H fun x H1 => ∃ ρ1 S1, At k ρ1 S1 s σ H1 ∧ Ext ρ H ρ1 H1 ∧ post k RepC W σ ρ1 H1 (f x S1) Q :=
  ⟨ρ, S, s, a, (post.bind h).imp fun x H1 ⟨d, ρ1, S1, e, r, p, q⟩ => by
    subst p
    exact ⟨ρ1, S1, a.ext e r, e, q⟩⟩
theorem s_sli {a : CE} {lo hi : Option CE} {x : Expr} {l h : Option Expr} {p2 pos : Pos} (ha : PE X x (tE (kx X ca) W (evE R a))) (hl : PO X l (tO (kx X ca) W fun s S => (evO R lo s S).bind prtD)) (hh : PO X h (tO (kx X ca) W fun s S => (evO R hi s S).bind prtD)) :
    PE X (.Subscript x (.Slice l h none p2) pos) (tE (kx X ca) W (evE R (.sli a lo hi))) := by
  refine PE.imp (pe_slice (sli_ok (ca := ca)) ha hl hh) fun σ H Q q => ?_
  obtain ⟨ρ, S, s, at_, q⟩ := q
  rw [evE] at q
  obtain ⟨ρ', S', s', a', q'⟩ := tE_step at_ q
  refine ⟨ρ', S', s', a', q'.imp fun x H1 ⟨d, ρ1, S1, a1, e1, p1, q1⟩ => ?_⟩
  obtain ⟨ρ2, S2, s2, a2, q2⟩ := tO_step (m := fun s S => (evO R lo s S).bind prtD) a1 q1
  refine ⟨ρ2, S2, s2, a2, q2.imp fun l H2 ⟨ρ3, S3, a3, e3, q3⟩ => ?_⟩
  obtain ⟨ρ4, S4, s4, a4, q4⟩ := tO_step (m := fun s S => (evO R hi s S).bind prtD) a3 q3
  refine ⟨ρ4, S4, s4, a4, q4.imp fun h H3 ⟨ρ5, S5, a5, e5, q5⟩ => ?_⟩
  exact ⟨ρ5, S5, d, a5.rel, Rep.ext (e3.trans e5) _ _ p1, q5.to0 (sli_nx _ _ _ _)⟩
theorem s_call {C : Cxt} {n f : Nat} {x : Str} {xs : List CE} {es : List Expr} {p pos : Pos} (ft : FitE C ca n R X W) (hh : C.hot = false) (hf : C.fns[f]? = some (x, xs.length)) (hx : x ≠ Str.empty) (hg : glB C.sc x = true) (hd : (x == ("__debug__" : Str)) = false)
    (ha : PA X es (tA (kx X ca) W (evEs R xs))) (hc : chkEs C xs es = true) : PE X (.Call (.Name x p) es [] pos) (tE (kx X ca) W (evE R (.call f xs))) := by
  have G := ft.gf f x xs.length hf hx
  cases es with
  | nil =>
    have e0 : xs = [] := List.length_eq_zero_iff.mp (chkEs_len hc).symm
    subst e0
    refine PE.imp (pe_callF0 (p := p) (pos := pos) G (ft.room hh) ft.tk (gl_of ft.sc hg) hd) fun σ H Q q => ?_
    obtain ⟨ρ, S, s, a, q⟩ := q
    rw [evE, evEs, bind_ok] at q
    exact ⟨ρ, S, s, a, q⟩
  | cons e es =>
    cases xs with
    | nil => simp [chkEs] at hc
    | cons a r =>
      have hc' := hc
      simp only [chkEs, Bool.and_eq_true] at hc'
      refine PE.imp (pe_callF (p := p) (pos := pos) G (ft.room hh) ft.tk (gl_of ft.sc hg) hd ha (fun s S ds S' h => evEs_len h) (star_cons (chk_ns hc'.1)) (star_any hc'.2)) fun σ H Q q => ?_
      obtain ⟨ρ, S, s, at_, q⟩ := q
      rw [evE] at q
      exact ⟨ρ, S, s, at_, q⟩
theorem boots (b : Bi) : bootBuiltins (biN b) = some (biV b) := by cases b <;> decide +kernel
theorem bi_in (b : Bi) : biN b ∈ bNames := by cases b <;> decide +kernel
theorem bi_ok1 (b : Bi) : biN b ≠ "__name__" ∧ (biN b == ("__debug__" : Str)) = false := by cases b <;> decide +kernel
theorem s_blt {C : Cxt} {n : Nat} {b : Bi} {xs : List CE} {es : List Expr} {p pos : Pos} (ft : FitE C ca n R X W) (hh : C.hot = false) (hg : glB C.sc (biN b) = true) (he : es.isEmpty = false)
    (ha : PA X es (tA (kx X ca) W (evEs R xs))) (hc : chkEs C xs es = true) : PE X (.Call (.Name (biN b) p) es [] pos) (tE (kx X ca) W (evE R (.blt b xs))) := by
  cases es with
  | nil => cases he
  | cons e es =>
    cases xs with
    | nil => simp [chkEs] at hc
    | cons a r =>
      have hc' := hc
      simp only [chkEs, Bool.and_eq_true] at hc'
      have hR := blt_ok (ca := ca) (ft.calm hh) (ft.room hh).gd ft.units b
      have fin : ∀ σ H Q, tE (kx X ca) W (evE R (.blt b (a :: r))) σ H Q → tCB (rA (kx X ca) (bltD b)) (tA (kx X ca) W (evEs R (a :: r))) σ H Q := fun σ H Q q => by
        obtain ⟨ρ, S, s, at_, q⟩ := q
        rw [evE] at q
        obtain ⟨ρ', S', s', a', q'⟩ := tA_step at_ q
        exact ⟨ρ', S', s', a', q'.imp fun vs H1 ⟨ds, ρ1, S1, a1, e1, p1, q1⟩ => ⟨ρ1, S1, ds, a1.rel, p1, q1.to0 (blt_nx _ _ _)⟩⟩
      have hm := ft.bi _ (bi_in b)
      have bo := boots b
      have st := star_cons (env := X.env) (es := es) (chk_ns hc'.1)
      have pl := star_any (env := X.env) (pos := pos) hc'.2
      have g := gl_of ft.sc hg
      have k := bi_ok1 b
      cases b <;> first
        | exact PE.imp (pe_callB hR g hm bo ha k.1 k.2 st pl) fin
        | exact PE.imp (pe_callTy hR g hm bo ha k.1 k.2 st pl) fin
theorem ab_of {e : Expr} {x : Str} {env : Env} (h : abB e = true) : attributeBase e x env (eval e env) = eval e env := by
  cases e <;> first
    | (cases h; done)
    | rfl
/-! ### fields, methods, new instances -/
theorem s_fld {C : Cxt} {n : Nat} {cs : List Nat} {a : CE} {f : Str} {v : Expr} {pos : Pos} (ft : FitE C ca n R X W) (hb : abB v = true) (ha : PE X v (tE (kx X ca) W (evE R a))) (hc : ∀ c ∈ cs, (c, f) ∈ C.fls) : PE X (.Attribute v f pos) (tE (kx X ca) W (evE R (.fld cs a f))) := by
  refine PE.imp (pe_fld ha (ab_of hb)) fun σ H Q q => ?_
  obtain ⟨ρ, S, s, at_, q⟩ := q
  rw [evE] at q
  obtain ⟨ρ', S', s', a', q'⟩ := tE_step at_ q
  refine ⟨ρ', S', s', a', q'.imp fun x H1 ⟨d, ρ1, S1, a1, e1, p1, q1⟩ => ?_⟩
  unfold fldD at q1
  split at q1
  · rename_i p hp
    split at q1
    · rename_i hcs
      split at q1
      · rename_i w hw
        obtain ⟨m, b, _, _, rfl, _, dx, fs', h1, h2, h3⟩ := insOf_rep a1.rel hp p1
        obtain ⟨v', k1, k2⟩ := lookup_reps h2 h3 hw
        obtain ⟨g1, g2⟩ := ft.fl p.1 f (hc _ (List.contains_iff_mem.mp hcs))
        exact ⟨b, _, dx, fs', v', rfl, h1, g1, g2, k1, q1 v' ρ1 H1 .refl a1.rel k2⟩
      · exact q1.elim
    · exact q1.elim
  · exact q1.elim
theorem meth_eq {o : Expr} {m : Str} {apos pos : Pos} {args : List Expr} {env : Env} (hb : attributeBase o m env (eval o env) = eval o env) (hf : methodCallForm (args.length + ([] : List Keyword).length) (backTo pos (starEach args env)) (backToKw pos (keywordEach [] env)) = true) (hl : (apos.endLine == pos.line) = true) :
    eval (.Call (.Attribute o m apos) args [] pos) env = (do
      let ov ← eval o env
      standAt apos.atName
      let (f, first) ← holding [ov] (getMethod ov m (do return (← importBound o env).getD true))
      callWith pos f first (backTo pos (starEach args env)) (backToKw pos (keywordEach [] env))) := by
  rw [arm_eval_Call, hb]
  unfold methodCall
  rw [hf]
  have hp : methodCallPos true o env apos pos = pure pos := by unfold methodCallPos; simp [hl]
  rw [hp]
  rfl
theorem meth_form {C : Cxt} {args : List Expr} {xs : List CE} {pos : Pos} {env : Env} (hn : args.length < 30) (h : chkEs C xs args = true) : methodCallForm (args.length + ([] : List Keyword).length) (backTo pos (starEach args env)) (backToKw pos (keywordEach [] env)) = true := by
  unfold methodCallForm
  rw [star_all h]
  show (true && true && decide (args.length + 0 + 0 < 30)) = true
  simpa using hn
theorem s_mcl {C : Cxt} {n : Nat} {nm : Str} {tb : List (Nat × Nat)} {o : CE} {xs : List CE} {v : Expr} {es : List Expr} {apos cpos : Pos} (ft : FitE C ca n R X W) (hh : C.hot = false) (hb : abB v = true) (hl : (apos.endLine == cpos.line) = true) (hn : es.length < 30) (ho : PE X v (tE (kx X ca) W (evE R o)))
    (ha : PA X es (tA (kx X ca) W (evEs R xs))) (hc : chkEs C xs es = true) (ht : ∀ q ∈ tb, (q.2, q.1, nm, xs.length + 1) ∈ C.mts) : PE X (.Call (.Attribute v nm apos) es [] cpos) (tE (kx X ca) W (evE R (.mcl nm tb o xs))) := by
  have eq := meth_eq (m := nm) (ab_of hb) (meth_form (pos := cpos) (env := X.env) hn hc) hl
  cases es with
  | nil =>
    have e0 : xs = [] := List.length_eq_zero_iff.mp (chkEs_len hc).symm
    subst e0
    refine PE.imp (pe_methF0 (R := R) (tb := tb) (fun q hq => ft.gm _ _ _ _ (ht q hq)) (ft.room hh) ft.tk ho eq) fun σ H Q q => ?_
    obtain ⟨ρ, S, s, a, q⟩ := q
    rw [evE] at q
    simp only [evEs, bind_ok] at q
    exact ⟨ρ, S, s, a, q⟩
  | cons e es =>
    cases xs with
    | nil => exact absurd (show false = true from hc) Bool.false_ne_true
    | cons a r =>
      have hc' : chkE C a e = true ∧ chkEs C r es = true := Bool.and_eq_true_iff.mp hc
      refine PE.imp (pe_methF (R := R) (tb := tb) (fun q hq => ft.gm _ _ _ _ (ht q hq)) (ft.room hh) ft.tk ho ha (fun s S ds S' h => evEs_len h) (star_cons (chk_ns hc'.1)) (star_any hc'.2) eq) fun σ H Q q => ?_
      obtain ⟨ρ, S, s, at_, q⟩ := q
      rw [evE] at q
      exact ⟨ρ, S, s, at_, q⟩
theorem s_new {C : Cxt} {n c g : Nat} {x : Str} {xs : List CE} {es : List Expr} {p pos : Pos} (ft : FitE C ca n R X W) (hh : C.hot = false) (hn : (x, c, g, xs.length + 1) ∈ C.nws) (hg : glB C.sc x = true) (hd : (x == ("__debug__" : Str)) = false)
    (ha : PA X es (tA (kx X ca) W (evEs R xs))) (hc : chkEs C xs es = true) : PE X (.Call (.Name x p) es [] pos) (tE (kx X ca) W (evE R (.new c g xs))) := by
  have G := ft.gn _ _ _ _ hn
  cases es with
  | nil =>
    have e0 : xs = [] := List.length_eq_zero_iff.mp (chkEs_len hc).symm
    subst e0
    refine PE.imp (pe_newF0 (p := p) (pos := pos) G (ft.room hh) ft.tk (gl_of ft.sc hg) hd) fun σ H Q q => ?_
    obtain ⟨ρ, S, s, a, q⟩ := q
    rw [evE, evEs, bind_ok] at q
    exact ⟨ρ, S, s, a, q⟩
  | cons e es =>
    cases xs with
    | nil => exact absurd (show false = true from hc) Bool.false_ne_true
    | cons a r =>
      have hc' : chkE C a e = true ∧ chkEs C r es = true := Bool.and_eq_true_iff.mp hc
      refine PE.imp (pe_newF (p := p) (pos := pos) G (ft.room hh) ft.tk (gl_of ft.sc hg) hd ha (fun s S ds S' h => evEs_len h) (star_cons (chk_ns hc'.1)) (star_any hc'.2)) fun σ H Q q => ?_
      obtain ⟨ρ, S, s, at_, q⟩ := q
      rw [evE] at q
      exact ⟨ρ, S, s, at_, q⟩
end
end Cr
set_option Elab.async false
set_option linter.all false
set_option maxHeartbeats 4000000
set_option maxRecDepth 10000
/-! Cr14: methods, isinstance, dict displays, comprehensions; all expressions. -/
namespace Cr
open PySem L2 PyProof.Rows
section
variable {X : Cx} {ca : CA} {W : WX} {R : Nat → List D → Sto → Out D} {ρ : Lo} {S : Sto} {H : Hp}
theorem ty_list (r : Rel X.K ca.ad ρ S H) {d : D} {v : V} (h : (lstAt d S).isSome = true) (p : Rep X.K ρ H d v) : tyV X.K "list" v H := by
  obtain ⟨q, hq⟩ := Option.isSome_iff_exists.mp h
  obtain ⟨_, _, b, rfl, _, vs, h1, _⟩ := lstAt_rep r hq p
  exact .inl ⟨rfl, _, .inl (.inl h1)⟩
theorem ty_strB {d : D} {v : V} {ρ : Lo} {H : Hp} (h : strB d = true) (p : Rep X.K ρ H d v) : tyV X.K "str" v H := by
  cases d with
  | str x => obtain rfl : v = _ := p; exact rfl
  | _ => cases h
theorem s_mth1 {m : Mt} {T id : String} {o : CE} {a : CE} {v e : Expr} {nm : Str} {apos cpos : Pos} (hn : nm = mtN m) (pa : PlainAttrs T) (hT : ∀ {ρ S H d v}, Rel X.K ca.ad ρ S H → recvB m d S = true → Rep X.K ρ H d v → tyV X.K T v H) (slot : Slot T (mtN m) id) (hty : typeOf (.builtin id) = pure (.type "method_descriptor")) (hr : MtR X id (rM (kx X ca) (mthD m)))
    (ho : PE X v (tE (kx X ca) W (evE R o))) (ha : PA X [e] (tA (kx X ca) W (evEs R [a]))) (hb : abB v = true) (hl : (apos.endLine == cpos.line) = true) (hs : noStar e = true) :
    PE X (.Call (.Attribute v nm apos) [e] [] cpos) (tE (kx X ca) W (evE R (.mth m o [a]))) := by
  subst hn
  refine PE.imp (pe_bm pa slot hty hr ho ha (ab_of hb) (by rw [star_cons hs]; rfl) hl (star_cons hs) rfl) fun σ H Q q => ?_
  obtain ⟨ρ, S, s, at_, q⟩ := q
  rw [evE] at q
  obtain ⟨ρ', S', s', a', q'⟩ := tE_step at_ q
  refine ⟨ρ', S', s', a', q'.imp fun x H1 ⟨d, ρ1, S1, a1, e1, p1, q1⟩ => ?_⟩
  split at q1
  · rename_i hc
    refine ⟨hT a1.rel hc p1, ?_⟩
    obtain ⟨ρ2, S2, s2, a2, q2⟩ := tA_step a1 q1
    refine ⟨ρ2, S2, s2, a2, q2.imp fun ys H2 ⟨ds, ρ3, S3, a3, e3, p3, q3⟩ => ?_⟩
    exact ⟨ρ3, S3, d, ds, a3.rel, Rep.ext e3 _ _ p1, p3, q3.to0 (mth_nx _ _ _ _)⟩
  · exact q1.elim
theorem s_mth0 {m : Mt} {T id : String} {o : CE} {v : Expr} {nm : Str} {apos cpos : Pos} (hn : nm = mtN m) (pa : PlainAttrs T) (hT : ∀ {ρ S H d v}, Rel X.K ca.ad ρ S H → recvB m d S = true → Rep X.K ρ H d v → tyV X.K T v H) (slot : Slot T (mtN m) id) (hty : typeOf (.builtin id) = pure (.type "method_descriptor")) (hr : MtR X id (rM (kx X ca) (mthD m)))
    (ho : PE X v (tE (kx X ca) W (evE R o))) (hb : abB v = true) (hl : (apos.endLine == cpos.line) = true) :
    PE X (.Call (.Attribute v nm apos) [] [] cpos) (tE (kx X ca) W (evE R (.mth m o []))) := by
  subst hn
  refine PE.imp (pe_bm0 pa slot hty hr ho (ab_of hb) hl) fun σ H Q q => ?_
  obtain ⟨ρ, S, s, at_, q⟩ := q
  rw [evE] at q
  obtain ⟨ρ', S', s', a', q'⟩ := tE_step at_ q
  refine ⟨ρ', S', s', a', q'.imp fun x H1 ⟨d, ρ1, S1, a1, e1, p1, q1⟩ => ?_⟩
  split at q1
  · rename_i hc
    refine ⟨hT a1.rel hc p1, ?_⟩
    rw [evEs, bind_ok] at q1
    exact ⟨ρ1, S1, d, [], a1.rel, p1, rfl, q1.to0 (mth_nx _ _ _ _)⟩
  · exact q1.elim
/-! ### isinstance -/
theorem ty_of (r : Rel X.K ca.ad ρ S H) {d : D} {v : V} {n : String} (p : Rep X.K ρ H d v) (h : tyN (lv S d) = some n) : TyX X.K H v (.type n) := by
  have hl : ∀ {a : Addr} {vs : List V}, RL X.K H a vs → TyX X.K H (.ref a) (.type "list") := fun {a vs} q => by
    rcases q with (q | ⟨o, q⟩) | ⟨its, m, q, _⟩
    · exact .base (.lst q)
    · exact .base (.frz q)
    · exact .kList q rfl
  cases e : lv S d with
  | list xs =>
    rw [e] at h
    cases h
    obtain ⟨a, vs, rfl, h1, _⟩ := lv_list r p e
    exact hl h1
  | tuple xs =>
    have e' := lv_of e (fun _ z => nomatch z)
    subst e'
    cases h
    obtain ⟨a, vs, rfl, h1, _⟩ := p
    rcases h1 with ⟨_, q | ⟨o, q⟩⟩ | ⟨o, its, m, q1, q2, _⟩
    · exact .base (.tup q)
    · exact .fTuple q
    · exact .kTuple q1 q2
  | none =>
    have e' := lv_of e (fun _ z => nomatch z)
    subst e'
    cases h
    rw [show v = _ from p]
    exact .base .non
  | bool b =>
    have e' := lv_of e (fun _ z => nomatch z)
    subst e'
    cases h
    rw [show v = _ from p]
    exact .base (.bl b)
  | int b =>
    have e' := lv_of e (fun _ z => nomatch z)
    subst e'
    cases h
    rw [show v = _ from p]
    exact .base (.int b)
  | str b =>
    have e' := lv_of e (fun _ z => nomatch z)
    subst e'
    cases h
    rw [show v = _ from p]
    exact .base (.str b)
  | dict b => rw [e] at h; cases h
theorem s_isi {C : Cxt} {n : Nat} {a : CE} {t : String} {v : Expr} {ty : Str} {p p2 pos : Pos} (ft : FitE C ca n R X W) (hg : glB C.sc "isinstance" = true) (hg2 : glB C.sc ty = true) (hty : bootBuiltins ty = some (.type t)) (hin : ty ∈ bNames) (h1 : ty ≠ "__name__") (h2 : (ty == ("__debug__" : Str)) = false)
    (ha : PE X v (tE (kx X ca) W (evE R a))) (hv : noStar v = true) : PE X (.Call (.Name "isinstance" p) [v, .Name ty p2] [] pos) (tE (kx X ca) W (evE R (.isi a t))) := by
  have pb : PE X (.Name ty p2) (tC (.ty t)) := pe_bltn (gl_of ft.sc hg2) (ft.bi _ hin) hty rfl h1 h2
  have pa := pa_cons ha (pa_cons pb pa_nil rfl) (star_cons hv)
  refine PE.imp (pe_callB call_isi (gl_of ft.sc hg) (ft.bi _ (by decide +kernel)) (by decide +kernel) pa (by decide) (by decide) (star_cons hv) rfl) fun σ H Q q => ?_
  obtain ⟨ρ, S, s, at_, q⟩ := q
  rw [evE] at q
  obtain ⟨ρ', S', s', a', q'⟩ := tE_step at_ q
  refine ⟨ρ', S', s', a', q'.imp fun x H1 ⟨d, ρ1, S1, a1, e1, p1, q1⟩ => ?_⟩
  unfold isiD at q1
  split at q1
  · rename_i b hb
    obtain ⟨nm, n1, n2⟩ := Option.bind_eq_some_iff.mp hb
    exact ⟨x, .ty t, .type nm, .type t, b, rfl, by constructor, ty_of a1.rel p1 n1, kit_ty n2, q1 _ ρ1 H1 .refl a1.rel rfl⟩
  · exact q1.elim
/-! ### max with a default -/
theorem reads_ints {h : Heap} : ∀ {vs : List Value} {ns : List Int}, IntsAre vs ns → ReadsAll h vs (ns.map PyData.int) []
  | _, _, .nil => .nil
  | _, _, .cons n t r => .cons (as := []) (bs := []) (.int n t) (reads_ints r)
theorem depth_ints : ∀ ns : List Int, PyData.depthAll (ns.map PyData.int) = 0
  | [] => by rw [List.map_nil, PyData.depthAll]
  | n :: r => by rw [List.map_cons, PyData.depthAll, PyData.depth, depth_ints r]; rfl
def rMxd (K : PySem.W.Frag) (k : Int) : List V → List V → Hp → VK → Prop := fun vs zs H Q => ∃ (a : Addr) (ns : List Int), vs = [V.ref a] ∧ zs = [.int k] ∧ SqL K H a (ns.map V.int) ∧ match ns with
  | [] => Q (.int k) H
  | n :: r => Q (.int (r.foldl max n)) H
theorem cr_mxd (hc : X.calm = true) (hu : X.A.units + 100 < cLine) (k : Int) : CallRK X (.builtin "max") ["default"] (rMxd X.K k) := by
  intro pins s σ H vs zs us ws Q I rv rz h
  obtain ⟨a, ns, rfl, rfl, hs, q⟩ := h
  obtain rfl := Vals.ref1 rv
  obtain ⟨w1, rfl, t, rfl⟩ := vals1 rz
  obtain ⟨its, rvs, hl, _⟩ := I.list hs
  have hr : ReadsAll s.heap its.toArray.toList (ns.map PyData.int) [] := by
    rw [List.toList_toArray]
    exact reads_ints rvs.ints
  have al : PySem.W.AlikeAll (ns.map PyData.int) := by
    constructor
    · intro x hx y hy
      obtain ⟨i, _, rfl⟩ := List.mem_map.mp hx
      obtain ⟨j, _, rfl⟩ := List.mem_map.mp hy
      rfl
    · intro x hx
      obtain ⟨i, _, rfl⟩ := List.mem_map.mp hx
      exact fun z => nomatch z
  refine PySem.W.max_list_default (I.ok.hd hc) hl.isList hr al (by rw [depth_ints]; omega) (fun e h' tk hk => ?_) fun y ys i v h' tk bs e hi rd hk => ?_
  · have : ns = [] := List.map_eq_nil_iff.mp e
    subst this
    exact ⟨.int k, H, I.kept hk, ⟨t, rfl⟩, q⟩
  · cases ns with
    | nil => cases e
    | cons n r =>
      obtain ⟨e1, e2⟩ := List.cons.inj e
      subst e1
      subst e2
      rw [PySem.W.maxD_ints] at rd
      cases rd with
      | int _ t' => exact ⟨.int (r.foldl max n), H, I.kept hk, ⟨t', rfl⟩, q⟩
theorem s_mxd {C : Cxt} {n : Nat} {a : CE} {k : Int} {e : Expr} {p p2 p3 pos : Pos} {j : Nat} (ft : FitE C ca n R X W) (hh : C.hot = false) (hg : glB C.sc "max" = true) (ha : PA X [e] (tA (kx X ca) W (evEs R [a]))) (hs : noStar e = true) :
    PE X (.Call (.Name "max" p) [e] [⟨some "default", .Constant (.int k) j p2, p3⟩] pos) (tE (kx X ca) W (evE R (.mxd a k))) := by
  refine PE.imp (pe_callBK (ks := ["default"]) (cr_mxd (ft.calm hh) ft.units k) (gl_of ft.sc hg) (ft.bi _ (by decide +kernel)) (boots .max) ha (pk_cons pe_int pk_nil) (by decide +kernel) (by decide +kernel) (by rw [star_cons hs]; rfl) (by rw [star_cons hs]; rfl) rfl rfl rfl) fun σ H Q q => ?_
  obtain ⟨ρ, S, s, at_, q⟩ := q
  rw [evE] at q
  refine ⟨ρ, S, s, at_, ?_⟩
  simp only [evEs]
  cases em : evE R a s S with
  | bad => rw [em] at q; exact q.elim
  | ex c fs S1 => rw [em] at q; exact q
  | ok d S1 =>
    rw [em, bind_ok] at q
    rw [bind_ok, bind_ok]
    intro vs ρ1 H1 e1 r1 p1
    obtain ⟨v, w, rfl, p1, rfl⟩ := p1
    unfold mxD at q
    split at q
    · rename_i xs hl
      obtain ⟨b, ws, rfl, l1, l2⟩ := lv_list r1 p1 hl
      split at q
      · rename_i hi
        obtain rfl := ints_of hi l2
        exact ⟨b, [], rfl, rfl, l1.sq, q (.int k) ρ1 H1 e1 r1 rfl⟩
      · rename_i n r hi
        obtain rfl := ints_of hi l2
        exact ⟨b, n :: r, rfl, rfl, l1.sq, q _ ρ1 H1 e1 r1 rfl⟩
      · exact q.elim
    · exact q.elim
end
end Cr
set_option Elab.async false
set_option linter.all false
set_option maxHeartbeats 4000000
set_option maxRecDepth 10000
/-! Cr15: dict displays. -/
namespace Cr
open PySem L2 PyProof.Rows
section
variable {K : PySem.W.Frag} {ca : Nat → Addr} {ρ ρ' : Lo} {H H' : Hp} {S : Sto}
/-- out of a blocked address' time -/
theorem Ext.unb {p : Addr} {o : HO} (hp : H p = none) (e : Ext (ρ.blk p) (upd H p o) ρ' H') : Ext ρ H ρ'.unb H' := by
  obtain ⟨τ, rfl, h⟩ := e.pre
  refine ⟨⟨τ, rfl, fun a ha => ?_⟩, fun a u ha hu => e.old a u ha (by rw [upd_ne (ne_of_none hu hp)]; exact hu), fun a ha => e.som a ?_⟩
  · have h2 := h a ha
    by_cases q : a = p
    · rw [q]; exact hp
    · rw [upd_ne q] at h2; exact h2
  · by_cases q : a = p
    · rw [q, upd_same]; exact fun z => nomatch z
    · rw [upd_ne q]; exact ha
/-- written pairs -/
def flatP : List (V × V) → List V
  | [] => []
  | (a, b) :: r => a :: b :: flatP r
theorem pairs_rep : ∀ {ds : List D} {ks : List (Key × D)} {ps : List (V × V)}, pairsOf ds = some ks → Reps K ρ H ds (flatP ps) → ∃ vs : List (Key × V), ps = vs.map (fun kv => (kV kv.1, kv.2)) ∧ KR K ρ H ks vs
  | [], ks, ps, e, h => by
    cases e
    cases ps with
    | nil => exact ⟨[], rfl, .nil⟩
    | cons p r => cases (show flatP (p :: r) = [] from h)
  | [d], ks, ps, e, h => by cases e
  | k :: d :: r, ks, ps, e, h => by
    obtain ⟨key, k1, k2⟩ := Option.bind_eq_some_iff.mp (show (keyOf k).bind _ = some ks from e)
    obtain ⟨t, t1, rfl⟩ := Option.map_eq_some_iff.mp k2
    obtain ⟨v, w, e1, h1, v2, w2, e2, h2, h3⟩ := h
    cases ps with
    | nil => cases e1
    | cons p ps =>
      obtain ⟨a, b⟩ := p
      have e1 : a :: b :: flatP ps = v :: w := e1
      have f1 := List.cons.inj e1
      have f2 := List.cons.inj (f1.2.trans e2)
      rw [← f1.1] at h1
      rw [← f2.1] at h2
      rw [← f2.2] at h3
      obtain ⟨vs, rfl, q⟩ := pairs_rep t1 h3
      refine ⟨(key, b) :: vs, ?_, .cons rfl h2 q⟩
      have ek : a = kV key := by
        cases k with
        | int i => cases k1; exact h1
        | str x => cases k1; exact h1
        | _ => cases k1
      rw [ek]; rfl
end
section
variable {X : Cx} {ca : CA} {W : WX} {R : Nat → List D → Sto → Out D} {ρ : Lo} {S : Sto} {H : Hp}
def trsOf (k : Kx) (W : WX) (R : Nat → List D → Sto → Out D) : List CE → List (TE × TE)
  | a :: b :: r => (tE k W (evE R a), tE k W (evE R b)) :: trsOf k W R r
  | _ => []
theorem pairs_run {k : Kx} {σ : L2.St} {s : Fr} {C : Cxt} : ∀ {xs : List CE} {ks : List (Option Expr)} {vs : List Expr} {ρ : Lo} {S : Sto} {H : Hp} {Q : List (V × V) → Hp → Prop}, chkP C xs ks vs = true → At k ρ S s σ H → postA k W σ ρ H (evEs R xs s S) (fun ws H => ∀ ps, flatP ps = ws → Q ps H) → tPairs (trsOf k W R xs) σ H Q
  | [], ks, vs, ρ, S, H, Q, hc, a, h => by
    rw [evEs] at h
    exact h [] ρ H .refl a.rel rfl [] rfl
  | [x], ks, vs, ρ, S, H, Q, hc, a, h => by
    cases ks with
    | nil => simp [chkP] at hc
    | cons k' ks' => cases k' <;> cases vs <;> simp [chkP] at hc
  | x :: y :: r, ks, vs, ρ, S, H, Q, hc, a, h => by
    have hc' : ∃ ks' vs', chkP C r ks' vs' = true := by
      cases ks with
      | nil => simp [chkP] at hc
      | cons k' ks' =>
        cases k' with
        | none => simp [chkP] at hc
        | some k' =>
          cases vs with
          | nil => simp [chkP] at hc
          | cons v' vs' =>
            simp only [chkP, Bool.and_eq_true] at hc
            exact ⟨ks', vs', hc.2⟩
    obtain ⟨ks', vs', hc'⟩ := hc'
    rw [evEs] at h
    obtain ⟨ρ', S', s', a', q'⟩ := tE_step a h
    refine ⟨ρ', S', s', a', q'.imp fun v H1 ⟨d, ρ1, S1, a1, e1, p1, q1⟩ => ?_⟩
    rw [evEs] at q1
    have e : ((evE R y s S1).bind fun x S2 => (evEs R r s S2).bind fun xs S3 => Out.ok (x :: xs) S3).bind (fun xs S2 => Out.ok (d :: xs) S2) = (evE R y s S1).bind fun x S2 => (evEs R r s S2).bind fun xs S3 => Out.ok (d :: x :: xs) S3 := by
      cases evE R y s S1 with
      | bad => rfl
      | ex c fs S2 => rfl
      | ok x S2 =>
        rw [bind_ok, bind_ok]
        cases evEs R r s S2 <;> rfl
    rw [e] at q1
    obtain ⟨ρ2, S2, s2, a2, q2⟩ := tE_step a1 q1
    refine ⟨ρ2, S2, s2, a2, q2.imp fun w H2 ⟨d2, ρ3, S3, a3, e3, p3, q3⟩ => ?_⟩
    refine pairs_run (Q := fun ps H3 => Q ((v, w) :: ps) H3) hc' a3 ?_
    cases er : evEs R r s S3 with
    | bad => rw [er] at q3; exact q3
    | ex c fs S4 => rw [er] at q3; exact q3
    | ok ds S4 =>
      rw [er, bind_ok] at q3
      intro vs ρ4 H4 e4 r4 p4 ps hps
      exact q3 (v :: w :: vs) ρ4 H4 e4 r4 ⟨v, w :: vs, rfl, Rep.ext (e3.trans e4) _ _ p1, w, vs, rfl, Rep.ext e4 _ _ p3, p4⟩ _ (by rw [← hps]; rfl)
theorem s_dsp {C : Cxt} {xs : List CE} {ks : List (Option Expr)} {vs : List Expr} {pos : Pos} (h : PPs X pos ks vs (trsOf (kx X ca) W R xs)) (hc : chkP C xs ks vs = true) (hall : ks.all (·.isSome) = true) (hl : ks.length = vs.length) (hxs : ca.xs = []) (h0 : ks ≠ []) (h15 : ks.length ≤ 15) :
    PE X (.Dict ks vs pos) (tE (kx X ca) W (evE R (.dsp xs))) := by
  refine PE.imp (pe_disp h hall hl h0 h15) fun σ H Q q => ?_
  obtain ⟨ρ, S, s, at_, q⟩ := q
  rw [evE] at q
  intro p hp
  have a2 : At (kx X ca) (ρ.blk p) S s σ (upd H p (.dK [])) := ⟨at_.rel.blk hp, at_.fr.mv hxs (.blk hp)⟩
  refine pairs_run hc a2 ?_
  cases em : evEs R xs s S with
  | bad => rw [em] at q; exact q
  | ex c fs S1 =>
    rw [em] at q
    intro ρ1 H1 cls d e1 r1 ⟨x1, x2⟩
    refine q ρ1.unb H1 cls d (e1.unb hp) r1.unb ⟨x1, ?_⟩
    rcases x2 with x2 | ⟨dx, fs', x2, x3, x4, x5⟩
    · exact .inl x2
    · exact .inr ⟨dx, fs', x2, x3, x4, Reps.mv .unb _ _ x5⟩
  | ok ds S1 =>
    rw [em, bind_ok] at q
    intro ws ρ1 H1 e1 r1 p1 ps hps
    have hb : ρ1.bl = p :: ρ.bl := by
      obtain ⟨τ, hτ, _⟩ := e1.pre
      rw [hτ]; rfl
    have hpb : p ∈ ρ1.bl := by rw [hb]; exact List.mem_cons_self
    have hp1 : H1 p = some (.dK []) := e1.old p _ (at_.rel.notin hp).1 upd_same
    refine ⟨hp1, ?_⟩
    unfold mkD at q
    split at q
    · rename_i kd hk
      split at q
      · rename_i hz
        obtain ⟨kv, k1, k2⟩ := pairs_rep hk (by rw [hps]; exact p1)
        refine ⟨kv, k1, by rw [k2.len]; exact hz, ?_⟩
        have k3 := KR.merge k2 (KR.nil (K := X.K) (ρ := ρ1) (H := H1))
        have e2 := e1.unb hp
        have hub : ρ1.unb.bl = ρ.bl := by
          show ρ1.bl.tail = _
          rw [hb]; rfl
        obtain ⟨τ, hτ, g1⟩ := e2.pre
        have hτ : ρ1.ls = ρ.ls ++ τ := congrArg Lo.ls hτ
        have mv : Mv ρ1 H1 (ρ1.unb.add p) (upd H1 p (.dK (mergeK [] kv))) := ⟨fun b u ho hr => ?_, fun n b hn => ?_⟩
        · refine q _ (ρ1.unb.add p) _ ⟨⟨τ ++ [p], ?_, fun b hb => ?_⟩, fun b o g2 g3 => ?_, fun b g2 => ?_⟩ ⟨?_, ?_, fun n b o g2 g3 => ?_, fun b g2 => ?_⟩ (show Rep X.K (ρ1.unb.add p) _ (Cr.loc S1.length) (.ref p) from ⟨S1.length, p, rfl, ?_, rfl⟩)
          · show (⟨ρ1.ls ++ [p], ρ1.unb.bl⟩ : Lo) = _
            rw [hτ, hub, List.append_assoc]
          · rcases List.mem_append.mp hb with q | q
            · exact g1 b q
            · rw [List.mem_singleton.mp q]; exact hp
          · rw [upd_ne (ne_of_none g3 hp)]; exact e2.old b o g2 g3
          · by_cases z : b = p
            · rw [z, upd_same]; exact fun z => nomatch z
            · rw [upd_ne z]; exact e2.som b g2
          · show (ρ1.ls ++ [p]).Nodup
            rw [List.nodup_append]
            exact ⟨r1.nd, by simp, fun b hb' c hc => by rw [List.mem_singleton.mp hc]; rintro rfl; exact (r1.bl _ hpb).1 hb'⟩
          · show (ρ1.ls ++ [p]).length = _
            simp [r1.ln]
          · have g2 : (ρ1.ls ++ [p])[n]? = some b := g2
            by_cases hn : n < ρ1.ls.length
            · rw [List.getElem?_append_left hn] at g2
              rw [List.getElem?_append_left (by rw [← r1.ln]; exact hn)] at g3
              exact (r1.ob n b o g2 g3).mv mv (upd_ne fun z => (r1.bl p hpb).1 (z ▸ List.mem_of_getElem? g2))
            · have hl := r1.ln
              rw [List.getElem?_append_right (by omega)] at g2 g3
              have e0 : n - ρ1.ls.length = 0 := by
                cases q : n - ρ1.ls.length with
                | zero => rfl
                | succ j => rw [q] at g2; simp at g2
              rw [e0] at g2
              rw [← r1.ln, e0] at g3
              simp at g2 g3
              subst g2; subst g3
              exact ⟨_, upd_same, k3.key, nd_mergeD List.nodup_nil, Reps.mv mv _ _ k3.val⟩
          · have g2 : b ∈ ρ.bl := by rw [← hub]; exact g2
            have hb2 := r1.bl b (by rw [hb]; exact List.mem_cons_of_mem _ g2)
            have hbp : b ≠ p := fun z => (at_.rel.bl b g2).2 (by rw [z]; exact hp)
            refine ⟨fun q => ?_, by rw [upd_ne hbp]; exact hb2.2⟩
            rcases List.mem_append.mp q with q | q
            · exact hb2.1 q
            · exact hbp (List.mem_singleton.mp q)
          · show (ρ1.ls ++ [p])[S1.length]? = some p
            rw [← r1.ln]
            simp
        · have hbp : b ≠ p := fun z => ho.2 (by rw [z]; exact hpb)
          refine ⟨⟨fun q => ?_, fun q => ho.2 (List.mem_of_mem_tail q)⟩, ?_⟩
          · rcases List.mem_append.mp q with q | q
            · exact ho.1 q
            · exact hbp (List.mem_singleton.mp q)
          · rcases hr with hr | ⟨z, hr⟩
            · exact .inl (by rw [upd_ne hbp]; exact hr)
            · exact .inr ⟨z, by rw [upd_ne hbp]; exact hr⟩
        · show (ρ1.ls ++ [p])[n]? = some b
          rw [List.getElem?_append_left (List.getElem?_eq_some_iff.mp hn).1]
          exact hn
      · exact q.elim
    · exact q.elim
theorem s_dsp0 {pos : Pos} : PE X (.Dict [] [] pos) (tE (kx X ca) W (evE R (.dsp []))) := by
  refine PE.imp pe_dnewK fun σ H Q q => ?_
  obtain ⟨ρ, S, s, at_, q⟩ := q
  rw [evE, evEs, bind_ok] at q
  exact fun p hp => q _ (ρ.add p) _ (.alloc _ hp) (at_.rel.alloc hp ⟨[], upd_same, rfl, List.nodup_nil, rfl⟩) at_.rel.locNew
end
end Cr
set_option Elab.async false
set_option linter.all false
set_option maxHeartbeats 4000000
set_option maxRecDepth 10000
/-! CrE: the target of a comprehension. -/
namespace Cr
open PySem L2 PyProof.Rows
def gNs : List Nat → TGs
  | [] => gNil
  | i :: is => gCons (gName i) (gNs is)
theorem gNs_runT {T : List Nat} {k : Kx} (hxe : k.xe = none) {ρ : Lo} {H : Hp} : ∀ {is : List Nat} {ds : List D} {vs : List V} {s s1 : Fr} {σ : L2.St} {Q : L2.St → Hp → Prop}, (∀ i ∈ is, i ∈ T ∧ i < k.nb) → setAll is ds s = some s1 → Reps k.K ρ H ds vs → FRel k ρ H s σ → (∀ σ1, FRel k ρ H s1 σ1 → wipe σ1 T = wipe σ T → Q σ1 H) → gNs is vs σ H Q
  | [], [], vs, s, s1, σ, Q, hT, e, r, f, q => by cases e; cases r; exact ⟨rfl, q σ f rfl⟩
  | [], _ :: _, vs, s, s1, σ, Q, hT, e, r, f, q => by cases e
  | i :: is, [], vs, s, s1, σ, Q, hT, e, r, f, q => by cases e
  | i :: is, d :: ds, vs, s, s1, σ, Q, hT, e, r, f, q => by
    obtain ⟨v, w, rfl, h1, h2⟩ := r
    refine ⟨v, w, rfl, gNs_runT hxe (s := s.set i (some d)) (fun j hj => hT j (List.mem_cons_of_mem _ hj)) e h2 (f.put (hT i List.mem_cons_self).2 (fun p hp => by rw [hxe] at hp; cases hp) h1) fun σ1 f1 w1 => q σ1 f1 ?_⟩
    rw [w1, wipe_set (hT i List.mem_cons_self).1]
theorem setAll_len : ∀ {is : List Nat} {xs : List D} {s s1 : Fr}, setAll is xs s = some s1 → xs.length = is.length := by
  intro is
  induction is with
  | nil => intro xs s s1 e; cases xs with | nil => rfl | cons _ _ => cases e
  | cons i is ih => intro xs s s1 e; cases xs with | nil => cases e | cons x xs => simp [ih (s := s.set i (some x)) e]
def gT (K : PySem.W.Frag) (ts : List Nat) (tu : Bool) : TG := if tu = true then gTup K ts.length (gNs ts) else fun v σ H Q => gNs ts [v] σ H Q
theorem gT_ok {k : Kx} (hxe : k.xe = none) {ts : List Nat} {tu : Bool} (hb : ∀ i ∈ ts, i < k.nb) : GOk k ts tu (gT k.K ts tu) := by
  intro ρ S H d v s s1 σ Q r e f p q
  unfold bndT at e
  unfold gT
  split at e
  · rename_i ht
    rw [if_pos ht]
    split at e
    · rename_i xs
      obtain ⟨b, vs, rfl, t1, t2⟩ := p
      exact ⟨b, vs, rfl, t1.sq, by rw [t2.length]; exact setAll_len e, gNs_runT hxe (fun i hi => ⟨hi, hb i hi⟩) e t2 f q⟩
    · cases e
  · rename_i ht
    rw [if_neg ht]
    exact gNs_runT hxe (fun i hi => ⟨hi, hb i hi⟩) e ⟨v, [], rfl, p, rfl⟩ f q
section
variable {X' : Cx} {C : Cxt} {scope : Scope}
theorem tg_name (hN : X'.N = C.N) (nd : X'.N.Nodup) (hsc : X'.env.scope = relS scope C.sc) (hfn : ∀ x, scope.names.lookup x = some .cell → X'.fn x = true) {i : Nat} {x : Str} {p : Pos} (hi : C.N[i]? = some x) (ho : ownB scope C.sc x = true) : PG X' (.Name x p) (gName i) := by
  unfold ownB at ho
  refine pg_name nd (by rw [hN]; exact hi) ?_ ?_
  · show Loc X'.env.scope x
    rw [hsc]
    split at ho
    · rename_i q; exact .inl q
    · rename_i q; exact .inr q
    · cases ho
  · split at ho
    · rename_i q
      exact .inr (by rw [hsc]; exact q)
    · exact .inl (hfn x (of_decide_eq_true ho))
    · cases ho
theorem tg_names (hN : X'.N = C.N) (nd : X'.N.Nodup) (hsc : X'.env.scope = relS scope C.sc) (hfn : ∀ x, scope.names.lookup x = some .cell → X'.fn x = true) : ∀ {es : List Expr} {ns : List Str} {ts : List Nat}, namesOf es = some ns → ns.length = ts.length → (∀ p ∈ ns.zip ts, C.N[p.2]? = some p.1) → ns.all (ownB scope C.sc) = true →
    PGs X' es (gNs ts) ∧ (assignEach es X'.env).length = ts.length ∧ (assignEach es X'.env).findIdx? (·.1) = none
  | [], ns, ts, e, hl, hix, ho => by
    cases e
    cases ts with
    | nil => exact ⟨pgs_nil, rfl, rfl⟩
    | cons _ _ => cases hl
  | e0 :: es, ns, ts, e, hl, hix, ho => by
    cases e0 with
    | Name x p =>
      obtain ⟨ns', e', rfl⟩ := Option.map_eq_some_iff.mp (show (namesOf es).map (x :: ·) = some ns from e)
      cases ts with
      | nil => cases hl
      | cons i is =>
        rw [List.all_cons, Bool.and_eq_true] at ho
        obtain ⟨h1, h2, h3⟩ := tg_names hN nd hsc hfn (es := es) e' (Nat.succ.inj hl) (fun p hp => hix p (by rw [List.zip_cons_cons]; exact List.mem_cons_of_mem _ hp)) ho.2
        refine ⟨pgs_cons (tg_name hN nd hsc hfn (hix (x, i) (by rw [List.zip_cons_cons]; exact List.mem_cons_self)) ho.1) h1, ?_, ?_⟩
        · show (assignEach es X'.env).length + 1 = _
          rw [h2]; rfl
        · show List.findIdx? _ ((false, _) :: assignEach es X'.env) = none
          rw [List.findIdx?_cons, h3]
          rfl
    | _ => cases e
theorem tg_all (hc : X'.calm = true) (hN : X'.N = C.N) (nd : X'.N.Nodup) (hsc : X'.env.scope = relS scope C.sc) (hfn : ∀ x, scope.names.lookup x = some .cell → X'.fn x = true) {ts : List Nat} {tu : Bool} {tg : Expr} {ns : List Str} (e : tgN tu tg = some ns) (hl : ns.length = ts.length) (hix : ∀ p ∈ ns.zip ts, C.N[p.2]? = some p.1) (ho : ns.all (ownB scope C.sc) = true) :
    PG X' tg (gT X'.K ts tu) := by
  unfold tgN at e
  split at e
  · split at e
    · cases e
    · rename_i x p ht
      cases e
      match ts, hl with
      | [i], _ =>
        have h := tg_name (X' := X') (p := p) hN nd hsc hfn (i := i) (x := x) (hix (x, i) List.mem_cons_self) (by simpa using ho)
        unfold gT
        rw [if_neg ht]
        refine ⟨fun pins s σ H v u Q I r q => h.run pins s σ H v u Q I r ?_⟩
        obtain ⟨v', r', e1, q1⟩ := q
        obtain ⟨rfl, rfl⟩ := List.cons.inj e1
        exact q1.2
  · split at e
    · rename_i es k p ht
      obtain ⟨h1, h2, h3⟩ := tg_names (X' := X') hN nd hsc hfn e hl hix ho
      unfold gT
      rw [if_pos ht]
      exact pg_tup hc h1 h2 h3
    · cases e
  · cases e
end
/-- what a target's check tells -/
theorem chkT_of {C : Cxt} {scope : Scope} {ts : List Nat} {tu : Bool} {tg : Expr} (h : chkT C scope ts tu tg = true) : ∃ ns, tgN tu tg = some ns ∧ ns.length = ts.length ∧ blkC C.N C.sc scope (ns.zip ts) = true ∧ (ns.zip ts).map (·.2) = ts ∧ (∀ p ∈ ns.zip ts, C.N[p.2]? = some p.1) ∧ ns.all (ownB scope C.sc) = true := by
  unfold chkT at h
  split at h
  · rename_i ns hn
    simp only [Bool.and_eq_true, decide_eq_true_eq] at h
    obtain ⟨⟨h1, h2⟩, h3⟩ := h
    exact ⟨ns, hn, h1, h2, List.map_snd_zip (by omega), (blkOk_by h2).ix, h3⟩
  · cases h
theorem chkT_lt {C : Cxt} {ns : List Str} {ts : List Nat} (hl : ns.length = ts.length) (hix : ∀ p ∈ ns.zip ts, C.N[p.2]? = some p.1) : ∀ i ∈ ts, i < C.N.length := by
  intro i hi
  rw [← List.map_snd_zip (l₁ := ns) (l₂ := ts) (by omega)] at hi
  obtain ⟨p, hp, rfl⟩ := List.mem_map.mp hi
  exact (List.getElem?_eq_some_iff.mp (hix p hp)).1
end Cr
set_option Elab.async false
set_option linter.all false
set_option maxHeartbeats 8000000
set_option maxRecDepth 10000
/-! Cr16: expressions are sound. -/
namespace Cr
open PySem L2 PyProof.Rows
section
variable {ca : CA} {R : Nat → List D → Sto → Out D} {n : Nat}
theorem plainIx {e : Expr} (h : ∀ l h p, e ≠ .Slice l h none p) : PlainIx e := by
  intro o i
  cases e <;> first
    | rfl
    | skip
  rename_i l hh st p
  cases st with
  | none => exact absurd rfl (h l hh p)
  | some st => rfl
theorem chk_noSlice {C : Cxt} {c : CE} {e : Expr} (h : chkE C c e = true) : ∀ l h p, e ≠ .Slice l h none p := by
  rintro l hh p rfl
  cases c <;> exact absurd (show false = true from h) Bool.false_ne_true
theorem chk_noSet {C : Cxt} {c : CE} {e : Expr} (h : chkE C c e = true) (env : Env) (v : Value) : foldedSetIterable e env v = pure v := by
  cases e <;> first
    | rfl
    | (cases c <;> exact absurd (show false = true from h) Bool.false_ne_true)
theorem lc_tests {X : Cx} {C : Cxt} {W : WX} {ifs : List CE} {fs : List Expr} (hl : ifs.length ≤ 1) (hc : chkEs C ifs fs = true) (ih : ∀ c e, ifs = [c] → chkE C c e = true → PT X e (tT (kx X ca) W (evE R c))) :
    PTs X fs (fun σ H Q => ∃ ρ S s, At (kx X ca) ρ S s σ H ∧ postB (kx X ca) W σ ρ H (evT R ifs s S) Q) := by
  cases ifs with
  | nil =>
    cases fs with
    | cons _ _ => simp [chkEs] at hc
    | nil =>
      refine ⟨fun pins s σ H Q I q => pts_nil.run pins s σ H Q I ?_⟩
      obtain ⟨ρ, S, f, a, q⟩ := q
      rw [evT] at q
      exact q true ρ H .refl a.rel rfl
  | cons c r =>
    cases r with
    | cons _ _ => simp at hl
    | nil =>
      cases fs with
      | nil => simp [chkEs] at hc
      | cons e es =>
        cases es with
        | cons _ _ => simp [chkEs] at hc
        | nil =>
          simp only [chkEs, Bool.and_true] at hc
          refine ⟨fun pins s σ H Q I q => (pts_one (ih c e rfl hc)).run pins s σ H Q I ?_⟩
          obtain ⟨ρ, S, f, a, q⟩ := q
          rw [evT] at q
          refine ⟨ρ, S, f, a, ?_⟩
          cases em : evE R c f S with
          | bad => rw [em] at q; exact q
          | ex c fs S1 => rw [em] at q; exact q
          | ok d S1 =>
            rw [em, bind_ok] at q
            cases d with
            | bool b =>
              intro v ρ1 H1 e1 r1 p1
              cases p1
              cases b with
              | true =>
                rw [onB_true, evT] at q
                exact q true ρ1 H1 e1 r1 rfl
              | false =>
                rw [onB_false] at q
                exact q false ρ1 H1 e1 r1 rfl
            | _ => exact q.elim
theorem chkP_some {C : Cxt} : ∀ {xs : List CE} {ks : List (Option Expr)} {vs : List Expr}, chkP C xs ks vs = true → ks.all (·.isSome) = true
  | xs, [], vs, h => rfl
  | [], none :: ks, vs, h => by simp [chkP] at h
  | [], some k :: ks, vs, h => by simp [chkP] at h
  | [x], k :: ks, vs, h => by cases k <;> cases vs <;> simp [chkP] at h
  | x :: y :: r, none :: ks, vs, h => by cases vs <;> simp [chkP] at h
  | x :: y :: r, some k :: ks, [], h => by simp [chkP] at h
  | x :: y :: r, some k :: ks, v :: vs, h => by
    simp only [chkP, Bool.and_eq_true] at h
    simp [chkP_some h.2]
theorem pi_rg {X : Cx} {C : Cxt} {W : WX} {rg : List CE} {es : List Expr} {tg : Expr} {p pos : Pos} (f : FitE C ca n R X W) (hg : glB C.sc "range" = true) (hl : rg.length = 1 ∨ rg.length = 2) (hc : chkEs C rg es = true) (ha : PA X es (tA (kx X ca) W (evEs R rg))) :
    PI X tg (.Call (.Name "range" p) es [] pos) (tI (kx X ca) W fun s S => (evEs R rg s S).bind fun x S1 => rangeD x S1) := by
  have g := gl_of f.sc hg
  have m := f.bi "range" (by decide +kernel)
  have le := chkEs_len hc
  match es, le, ha, hc with
  | [], le, ha, hc => rw [← le] at hl; simp at hl
  | [a], le, ha, hc =>
    cases rg with
    | nil => cases le
    | cons c r =>
      simp only [chkEs, Bool.and_eq_true] at hc
      exact pi_rng1 g m ha (star_cons (chk_ns hc.1)) fun s S ds S' h => (evEs_len h).trans le.symm
  | [a, b], le, ha, hc =>
    match rg, hc, le with
    | [c, d], hc, le =>
      simp only [chkEs, Bool.and_eq_true] at hc
      have s2 := star_cons (env := X.env) (es := []) (chk_ns hc.2.1)
      exact pi_rng2 g m ha (by rw [star_cons (chk_ns hc.1), s2]; rfl) s2 fun s S ds S' h => (evEs_len h).trans le.symm
  | a :: b :: c :: r, le, ha, hc => rw [← le] at hl; simp at hl
theorem s_mth {X : Cx} {C : Cxt} {W : WX} {m : Mt} {o : CE} {xs : List CE} {es : List Expr} {v : Expr} {nm : Str} {apos cpos : Pos} (f : FitE C ca n R X W) (hn : nm = mtN m) (hb : abB v = true) (hl : (apos.endLine == cpos.line) = true) (ho : PE X v (tE (kx X ca) W (evE R o)))
    (hm : mthB m xs.length = true) (ha : PA X es (tA (kx X ca) W (evEs R xs))) (hc : chkEs C xs es = true) : PE X (.Call (.Attribute v nm apos) es [] cpos) (tE (kx X ca) W (evE R (.mth m o xs))) := by
  have le := chkEs_len hc
  cases m with
  | append =>
    match xs, hm, es, le, ha, hc with
    | [a], _, [e], _, ha, hc => exact s_mth1 hn PySem.F.plainAttrs_list (fun r h p => ty_list r h p) PySem.F.slot_list_append PySem.F.type_list_append (append_ok (ca := ca)) ho ha hb hl (chk_ns (Bool.and_eq_true_iff.mp hc).1)
  | pop0 =>
    match xs, hm, es, le, ha, hc with
    | [], _, [], _, ha, hc => exact s_mth0 hn PySem.F.plainAttrs_list (fun r h p => ty_list r h p) PySem.F.slot_list_pop PySem.F.type_list_pop (pop0_ok (ca := ca)) ho hb hl
  | popAt =>
    match xs, hm, es, le, ha, hc with
    | [a], _, [e], _, ha, hc => exact s_mth1 hn PySem.F.plainAttrs_list (fun r h p => ty_list r h p) PySem.F.slot_list_pop PySem.F.type_list_pop (popAt_ok (ca := ca)) ho ha hb hl (chk_ns (Bool.and_eq_true_iff.mp hc).1)
  | join =>
    match xs, hm, es, le, ha, hc with
    | [a], _, [e], _, ha, hc => exact s_mth1 hn PySem.F.plainAttrs_str (fun r h p => ty_strB h p) PySem.F.slot_str_join PySem.F.type_str_join (join_ok (ca := ca)) ho ha hb hl (chk_ns (Bool.and_eq_true_iff.mp hc).1)
  | startswith =>
    match xs, hm, es, le, ha, hc with
    | [a], _, [e], _, ha, hc => exact s_mth1 hn PySem.F.plainAttrs_str (fun r h p => ty_strB h p) PySem.F.slot_str_startswith PySem.F.type_str_startswith (sw_ok (ca := ca)) ho ha hb hl (chk_ns (Bool.and_eq_true_iff.mp hc).1)
  | _ => exact absurd hm Bool.false_ne_true
theorem it_rg (ev : Out (List D)) : (ev.bind fun x S1 => iterD true x S1) = ev.bind fun x S1 => rangeD x S1 := rfl
theorem it_one {it : CE} (s : Fr) (S : Sto) : ((evEs R [it] s S).bind fun x S1 => iterD false x S1) = (evE R it s S).bind fun x S1 => walked x S1 := by
  rw [evEs]
  cases evE R it s S with
  | bad => rfl
  | ex c fs S1 => rfl
  | ok d S1 => rw [bind_ok, evEs, bind_ok, bind_ok, bind_ok]; rfl
/-- what a comprehension walks -/
theorem pi_it {X : Cx} {C : Cxt} {W : WX} {rg : Bool} {its : List CE} {iter tg : Expr} {args : List Expr} (f : FitE C ca n R X W) (h : itArgs C.sc rg iter = some args) (hc : chkEs C its args = true) (ha : PA X args (tA (kx X ca) W (evEs R its)))
    (h1 : ∀ c e, its = [c] → chkE C c e = true → PE X e (tE (kx X ca) W (evE R c))) : PI X tg iter (tI (kx X ca) W fun s S => (evEs R its s S).bind fun x S1 => iterD rg x S1) ∧ ∀ env v, foldedSetIterable iter env v = pure v := by
  unfold itArgs at h
  split at h
  · rename_i hr
    subst hr
    split at h
    · split at h
      · rename_i q
        cases h
        simp only [Bool.and_eq_true, Bool.or_eq_true, decide_eq_true_eq] at q
        obtain ⟨⟨rfl, q2⟩, q3⟩ := q
        exact ⟨pi_rg f q2 (by rw [← chkEs_len hc]; exact q3) hc ha, fun _ _ => rfl⟩
      · cases h
    · cases h
  · rename_i hr
    obtain rfl : rg = false := by simpa using hr
    cases h
    match its, hc, ha, h1 with
    | [it], hc, ha, h1 =>
      have hc1 := (Bool.and_eq_true_iff.mp hc).1
      have p := pi_walked (tg := tg) (h1 it iter rfl hc1)
      rw [show (fun s S => (evEs R [it] s S).bind fun x S1 => iterD false x S1) = fun s S => (evE R it s S).bind fun x S1 => walked x S1 from funext fun s => funext fun S => it_one s S]
      exact ⟨p, fun env v => chk_noSet hc1 env v⟩
    | [], hc, _, _ => exact absurd hc Bool.false_ne_true
    | _ :: _ :: _, hc, _, _ => exact absurd (Bool.and_eq_true_iff.mp hc).2 Bool.false_ne_true
theorem s_xis {X : Cx} {C : Cxt} {W : WX} {e c : Str} {b : Bool} {p p1 p2 pos : Pos} (f : FitE C ca n R X W) (hh : C.hot = true) (hg : glB C.sc "isinstance" = true) (hg2 : glB C.sc c = true) (hv : visB C.sc e = true) (h1 : (e == ("__debug__" : Str)) = false) (h2 : (e == ("__classdict__" : Str)) = false) (h3 : (c == ("__debug__" : Str)) = false)
    (hx : xisB C e c b = true) : PE X (.Call (.Name "isinstance" p) [.Name e p1, .Name c p2] [] pos) (tE (kx X ca) W (evE R (.con (.bool b)))) := by
  unfold xisB at hx
  split at hx
  · rename_i nm cs q hxv hsub
    simp only [Bool.and_eq_true, decide_eq_true_eq, List.all_eq_true, Bool.not_eq_true', Bool.not_eq_eq_eq_not] at hx
    obtain ⟨⟨rfl, hne⟩, hall⟩ := hx
    obtain ⟨Cc, m1, m2, m3⟩ := f.ct c q.1 q.2 hsub
    obtain ⟨a, oe, c', d, pn, Y, rfl, e2, e3, e4, e5, hp⟩ := s_xname (p := p1) f hh hxv hv h1 h2
    have gi := gl_of f.sc hg
    have g2 := gl_of f.sc hg2
    have bi := f.bi "isinstance" (by decide +kernel)
    have K1 : ExcC Y.K (ca.ad c') ∧ PySem.W.kitOne Y.K (.ref (ca.ad c')) (.ref Cc) = some b := by
      have := hall c' e4
      cases b with
      | true =>
        rw [if_pos rfl] at this
        obtain ⟨x1, x2, x3⟩ := m2 c' (List.contains_iff_mem.mp this)
        exact ⟨x1, x3⟩
      | false =>
        rw [if_neg (by decide)] at this
        obtain ⟨x1, x2, x3⟩ := m3 c' (List.contains_iff_mem.mp this)
        exact ⟨x1, x3⟩
    have pc : PE (Y.suite a ((a, oe) :: pn)) (.Name c p2) (tC (.ref Cc)) := pe_glob g2 m1 rfl h3
    have pa := pa_cons hp (pa_cons pc pa_nil rfl) rfl
    refine ⟨fun pins s σ H Q I h => ?_⟩
    refine wpAny_Call_Name_kw (ld_blt (u := .builtin "isinstance") I gi bi (by decide +kernel) ?_ (by decide) (by decide))
    refine PyProof.Rows.callWith_builtin1 (thn (pa.run pos pins s σ H (fun vs H1 => vs = [.ref a, .ref Cc] ∧ Q (.bl b) H1 ∧ ∃ ρ S s, At (kx (Y.suite a ((a, oe) :: pn)) ca) ρ S s σ H1) I ?_) fun us s1 ⟨vs, H1, I1, r1, q1, q2, at1⟩ => ?_) rfl rfl
    · obtain ⟨ρ, S, st, at_, q⟩ := h
      rw [evE] at q
      exact ⟨⟨ρ, S, st, at_⟩, rfl, q _ ρ H .refl at_.rel rfl, ρ, S, st, at_⟩
    · subst q1
      obtain ⟨u1, u2, rfl, r1, r2⟩ := vals2 r1
      cases (show u1 = Value.ref a from r1)
      cases (show u2 = Value.ref Cc from r2)
      refine call_xis K1.1 e2 e3 (kx (Y.suite a ((a, oe) :: pn)) ca) (fun {σ H} hat dx hd => ?_) pins s1 σ H1 [] Q (.ref Cc) b I1 at1 K1.2 q2
      obtain ⟨ρ, S, st, at_⟩ := hat
      cases hxh : C.xh with
      | nil => rw [hxh] at hne; cases hne
      | cons y r =>
        obtain ⟨g, i⟩ := y
        obtain ⟨dx', rfl, hm⟩ := e5 g i (by rw [hxh]; simp [List.lookup])
        cases hd
        obtain ⟨_, _, fs, hfs, _⟩ := at_.fr.hid _ hm
        exact ⟨fs, hfs⟩
  · cases hx
theorem lc_name {X : Cx} {C : Cxt} {W : WX} {tg : Nat} {x : Str} {scope : Scope} {p : Pos} (f : FitE C ca n R X W) (hN : C.N[tg]? = some x) (ho : ownB scope C.sc x = true) (s : Shared) (H : Hp) (D : Addr) (cl : List (Str × Addr)) (fp : List Addr) :
    PG (X.blk s H scope (compEnvC scope cl D X.env) fp) (.Name x p) (gName tg) :=
  tg_name (X' := X.blk s H scope (compEnvC scope cl D X.env) fp) (C := C) (scope := scope) f.N f.nd (by rw [← f.sc]; rfl) (fun y hy => by show (scope.names.lookup y == some NameKind.cell) = true; rw [hy]; rfl) hN ho
/-- a comprehension without exceptions -/
theorem s_lcT {X : Cx} {C : Cxt} {W : WX} {al : Bool} {ts : List Nat} {tu : Bool} {tg iter e' : Expr} {fs : List Expr} {scope : Scope} {pos : Pos} {mI : Fr → Sto → Out (D × List D)} {mT : Fr → Sto → Out Bool} {mE : Fr → Sto → Out D} (f : FitE C ca n R X W) (hh : C.hot = false) (h : chkT C scope ts tu tg = true) (hi : PI X tg iter (tI (kx X ca) W mI))
    (ht : ∀ (s : Shared) (H : Hp) (D : Addr) (cl : List (Str × Addr)) (fp : List Addr), PTs (X.blk s H scope (compEnvC scope cl D X.env) fp) fs (fun σ H Q => ∃ ρ S s, At (kx X ca) ρ S s σ H ∧ postB (kx X ca) noW σ ρ H (mT s S) Q))
    (he : ∀ (s : Shared) (H : Hp) (D : Addr) (cl : List (Str × Addr)) (fp : List Addr), PE (X.blk s H scope (compEnvC scope cl D X.env) fp) e' (tE (kx X ca) noW mE)) (hs : ∀ v, foldedSetIterable iter X.env v = pure v) :
    PE X (.ListComp e' [⟨tg, iter, fs, 0⟩] scope pos) (tE (kx X ca) W fun f S => (mI f S).bind fun p S1 => if p.2.length ≤ sizeLine then (lcL p.1 p.2 (turnG true ts tu mT (fun f3 S3 => (mE f3 S3).bind fun y S4 => .ok (some y) S4) f) p.2 S1).bind fun ys S5 => mkL al ys S5 else .bad) := by
  obtain ⟨ns, n1, n2, n3, n4, n5, n6⟩ := chkT_of h
  have ok := blkOk_by n3
  rw [← f.N, ← f.sc] at ok
  have hg : ∀ (s : Shared) (H : Hp) (D : Addr) (cl : List (Str × Addr)) (fp : List Addr), PG (X.blk s H scope (compEnvC scope cl D X.env) fp) tg (gT X.K ts tu) := fun s H D cl fp => tg_all (X' := X.blk s H scope (compEnvC scope cl D X.env) fp) (C := C) (scope := scope) (f.calm hh) f.N f.nd (by rw [← f.sc]; rfl) (fun y hy => by show (scope.names.lookup y == some NameKind.cell) = true; rw [hy]; rfl) n1 n2 n5 n6
  have gk : GOk (kx X ca) ts tu (gT X.K ts tu) := gT_ok (k := kx X ca) (f.xe hh) fun i hi => by show i < ca.nb; rw [f.nb]; exact chkT_lt n2 n5 i hi
  have := pe_lc (pos := pos) (f.calm hh) f.nd hi ok hg ht he hs
  rw [n4] at this
  exact PE.imp this fun σ H Q q => lcg_imp (nx := true) (al := al) (f.xs hh) (f.xe hh) gk (fun z => nomatch z) q
/-- one whose block lets exceptions out -/
theorem s_lcX {X : Cx} {C : Cxt} {W : WX} {al : Bool} {ts : List Nat} {tu : Bool} {tg iter e' : Expr} {fs : List Expr} {scope : Scope} {pos : Pos} {mI : Fr → Sto → Out (D × List D)} {mT : Fr → Sto → Out Bool} {mE : Fr → Sto → Out D} (f : FitE C ca n R X W) (hh : C.hot = false) (hb : C.blk = false) (h : chkT C scope ts tu tg = true) (hi : PI X tg iter (tI (kx X ca) W mI))
    (ht : ∀ (s : Shared) (H : Hp) (D : Addr) (cl : List (Str × Addr)) (fp : List Addr) (xe : Value → Shared → Prop) (W' : WX), Takes (blkX X s H scope (compEnvC scope cl D X.env) fp xe) W' → PTs (blkX X s H scope (compEnvC scope cl D X.env) fp xe) fs (fun σ H Q => ∃ ρ S s, At (kx X ca) ρ S s σ H ∧ postB (kx X ca) W' σ ρ H (mT s S) Q))
    (he : ∀ (s : Shared) (H : Hp) (D : Addr) (cl : List (Str × Addr)) (fp : List Addr) (xe : Value → Shared → Prop) (W' : WX), Takes (blkX X s H scope (compEnvC scope cl D X.env) fp xe) W' → PE (blkX X s H scope (compEnvC scope cl D X.env) fp xe) e' (tE (kx X ca) W' mE)) (hs : ∀ v, foldedSetIterable iter X.env v = pure v) :
    PE X (.ListComp e' [⟨tg, iter, fs, 0⟩] scope pos) (tE (kx X ca) W fun f S => (mI f S).bind fun p S1 => if p.2.length ≤ sizeLine then (lcL p.1 p.2 (turnG false ts tu mT (fun f3 S3 => (mE f3 S3).bind fun y S4 => .ok (some y) S4) f) p.2 S1).bind fun ys S5 => mkL al ys S5 else .bad) := by
  obtain ⟨ns, n1, n2, n3, n4, n5, n6⟩ := chkT_of h
  have ok := blkOk_by n3
  rw [← f.N, ← f.sc] at ok
  have hg : ∀ (s : Shared) (H : Hp) (D : Addr) (cl : List (Str × Addr)) (fp : List Addr) (xe : Value → Shared → Prop), PG (blkX X s H scope (compEnvC scope cl D X.env) fp xe) tg (gT X.K ts tu) := fun s H D cl fp xe => tg_all (X' := blkX X s H scope (compEnvC scope cl D X.env) fp xe) (C := C) (scope := scope) (f.calm hh) f.N f.nd (by rw [← f.sc]; rfl) (fun y hy => by show (scope.names.lookup y == some NameKind.cell) = true; rw [hy]; rfl) n1 n2 n5 n6
  have gk : GOk (kx X ca) ts tu (gT X.K ts tu) := gT_ok (k := kx X ca) (f.xe hh) fun i hi => by show i < ca.nb; rw [f.nb]; exact chkT_lt n2 n5 i hi
  have := pe_lcx (pos := pos) (tt := fun W' σ H Q => ∃ ρ S s, At (kx X ca) ρ S s σ H ∧ postB (kx X ca) W' σ ρ H (mT s S) Q) (te := fun W' => tE (kx X ca) W' mE) (f.calm hh) f.nd (f.own hh hb) f.tk hi ok hg ht he hs
  rw [n4] at this
  exact PE.imp this fun σ H Q q => lcg_imp (nx := false) (al := al) (Wb := wOut W σ) (f.xs hh) (f.xe hh) gk (fun _ cls d σ' H z => z) q
/-- a dict's -/
theorem s_dcT {X : Cx} {C : Cxt} {W : WX} {ts : List Nat} {tu : Bool} {tg iter e1 e2 : Expr} {fs : List Expr} {scope : Scope} {pos : Pos} {mI : Fr → Sto → Out (D × List D)} {mT : Fr → Sto → Out Bool} {mK mV : Fr → Sto → Out D} (f : FitE C ca n R X W) (hh : C.hot = false) (h : chkT C scope ts tu tg = true) (hi : PI X tg iter (tI (kx X ca) W mI))
    (ht : ∀ (s : Shared) (H : Hp) (D : Addr) (cl : List (Str × Addr)) (fp : List Addr), PTs (X.blk s H scope (compEnvC scope cl D X.env) fp) fs (fun σ H Q => ∃ ρ S s, At (kx X ca) ρ S s σ H ∧ postB (kx X ca) noW σ ρ H (mT s S) Q))
    (hk : ∀ (s : Shared) (H : Hp) (D : Addr) (cl : List (Str × Addr)) (fp : List Addr), PE (X.blk s H scope (compEnvC scope cl D X.env) fp) e1 (tE (kx X ca) noW mK))
    (hv : ∀ (s : Shared) (H : Hp) (D : Addr) (cl : List (Str × Addr)) (fp : List Addr), PE (X.blk s H scope (compEnvC scope cl D X.env) fp) e2 (tE (kx X ca) noW mV)) (hs : ∀ v, foldedSetIterable iter X.env v = pure v) :
    PE X (.DictComp e1 e2 [⟨tg, iter, fs, 0⟩] scope pos) (tE (kx X ca) W fun f S => (mI f S).bind fun p S1 => if p.2.length < sizeLine then (lcL p.1 p.2 (turnG true ts tu mT (fun f3 S3 => (mK f3 S3).bind fun a S4 => (mV f3 S4).bind fun b S5 => pairD a b S5) f) p.2 S1).bind fun ps S5 => newO (.dic (mergeD [] ps)) S5 else .bad) := by
  obtain ⟨ns, n1, n2, n3, n4, n5, n6⟩ := chkT_of h
  have ok := blkOk_by n3
  rw [← f.N, ← f.sc] at ok
  have hg : ∀ (s : Shared) (H : Hp) (D : Addr) (cl : List (Str × Addr)) (fp : List Addr), PG (X.blk s H scope (compEnvC scope cl D X.env) fp) tg (gT X.K ts tu) := fun s H D cl fp => tg_all (X' := X.blk s H scope (compEnvC scope cl D X.env) fp) (C := C) (scope := scope) (f.calm hh) f.N f.nd (by rw [← f.sc]; rfl) (fun y hy => by show (scope.names.lookup y == some NameKind.cell) = true; rw [hy]; rfl) n1 n2 n5 n6
  have gk : GOk (kx X ca) ts tu (gT X.K ts tu) := gT_ok (k := kx X ca) (f.xe hh) fun i hi => by show i < ca.nb; rw [f.nb]; exact chkT_lt n2 n5 i hi
  have := pe_dc (pos := pos) (f.calm hh) f.nd hi ok hg ht hk hv hs
  rw [n4] at this
  exact PE.imp this fun σ H Q q => dcg_imp (f.xs hh) (f.xe hh) gk q
mutual
theorem sndE : ∀ (c : CE) {C : Cxt} {e : Expr} {X : Cx} {W : WX}, chkE C c e = true → FitE C ca n R X W → PE X e (tE (kx X ca) W (evE R c)) ∧ PT X e (tT (kx X ca) W (evE R c))
  | .var i, C, e, X, W, h, f => by
    unfold chkE varB at h
    split at h <;> try contradiction
    · simp only [Bool.and_eq_true, decide_eq_true_eq, Bool.not_eq_true', Bool.not_eq_eq_eq_not] at h
      have := fun p => s_var (p := p) f h.1.1.1 h.1.1.2 h.1.2 h.2
      exact ⟨this _, tT_val (this _) fun _ => rfl⟩
    · rw [Bool.and_eq_true] at h
      obtain ⟨hh, h⟩ := h
      split at h
      · rename_i nm cs hxv
        simp only [Bool.and_eq_true, decide_eq_true_eq, Bool.not_eq_true', Bool.not_eq_eq_eq_not, List.all_eq_true] at h
        obtain ⟨⟨⟨⟨⟨rfl, h1⟩, h2⟩, h3⟩, h4⟩, h5⟩ := h
        have := fun p p2 => s_xfld (p := p) (pos := p2) f hh hxv h1 h2 h3 h4 fun c hc => List.contains_iff_mem.mp (h5 c hc)
        exact ⟨this _ _, tT_val (this _ _) fun _ => rfl⟩
      · cases h
  | .con d, C, e, X, W, h, f => by
    unfold chkE conE at h
    split at h <;> try contradiction
    · exact ⟨s_con h, tT_val (s_con h) fun _ => rfl⟩
    · simp only [Bool.and_eq_true, Bool.not_eq_true', Bool.not_eq_eq_eq_not] at h
      have t := fun p => s_glb (pos := p) f h.1.1 h.1.2 h.2
      exact ⟨t _, tT_val (t _) fun _ => rfl⟩
    · split at h <;> try contradiction
      simp only [Bool.and_eq_true, decide_eq_true_eq, Bool.not_eq_true', Bool.not_eq_eq_eq_not] at h
      obtain ⟨⟨⟨⟨⟨⟨⟨⟨h1, rfl⟩, h3⟩, h4⟩, h5⟩, h6⟩, h7⟩, h8⟩, h9⟩ := h
      have t := fun p p1 p2 p3 => s_xis (p := p) (p1 := p1) (p2 := p2) (pos := p3) f h1 h3 h4 h5 h6 h7 h8 h9
      exact ⟨t _ _ _ _, tT_val (t _ _ _ _) fun _ => rfl⟩
  | .glb g, C, e, X, W, h, f => absurd (show false = true from h) Bool.false_ne_true
  | .bop op a b, C, e, X, W, h, f => by
    unfold chkE at h
    split at h <;> try contradiction
    simp only [Bool.and_eq_true, decide_eq_true_eq] at h
    obtain ⟨⟨rfl, h1⟩, h2⟩ := h
    have t := fun p => s_bop (pos := p) (op := op) (sndE a h1 f).1 (sndE b h2 f).1
    exact ⟨t _, tT_val (t _) fun _ => rfl⟩
  | .cmp op a b, C, e, X, W, h, f => by
    unfold chkE at h
    split at h <;> try contradiction
    simp only [Bool.and_eq_true, decide_eq_true_eq, Bool.not_eq_true', Bool.not_eq_eq_eq_not] at h
    obtain ⟨⟨⟨rfl, h0⟩, h1⟩, h2⟩ := h
    exact ⟨s_cmp f.units (sndE a h1 f).1 (sndE b h2 f).1 h0, t_cmp f.units (sndE a h1 f).1 (sndE b h2 f).1 h0⟩
  | .chn o1 o2 a b c, C, e, X, W, h, f => by
    unfold chkE at h
    split at h <;> try contradiction
    simp only [Bool.and_eq_true, decide_eq_true_eq, Bool.not_eq_true', Bool.not_eq_eq_eq_not] at h
    obtain ⟨⟨⟨⟨⟨rfl, rfl⟩, h0⟩, h1⟩, h2⟩, h3⟩ := h
    exact ⟨s_chn f.units (sndE a h1 f).1 (sndE b h2 f).1 (sndE c h3 f).1 h0, t_chn f.units (sndE a h1 f).1 (sndE b h2 f).1 (sndE c h3 f).1 h0⟩
  | .and a b, C, e, X, W, h, f => by
    unfold chkE at h
    split at h <;> try contradiction
    rename_i x y rest pos
    rw [Bool.and_eq_true] at h
    have ha := sndE a h.1 f
    have hb : PE X (.BoolOp .And (y :: rest) pos) (tE (kx X ca) W (evE R b)) ∧ PW X (.BoolOp .And (y :: rest) pos) (tT (kx X ca) W (evE R b)) := by
      cases rest with
      | nil =>
        have hb := sndE b h.2 f
        exact ⟨pe_one hb.1, pw_and1 hb.2⟩
      | cons z t =>
        have hb := sndE b h.2 f
        exact ⟨hb.1, pw_pt hb.2⟩
    exact ⟨s_and ha.1 hb.1, t_and ha.2 hb.2⟩
  | .or a b, C, e, X, W, h, f => by
    unfold chkE at h
    split at h <;> try contradiction
    rename_i x y rest pos
    rw [Bool.and_eq_true] at h
    have ha := sndE a h.1 f
    have hb : PE X (.BoolOp .Or (y :: rest) pos) (tE (kx X ca) W (evE R b)) ∧ PW X (.BoolOp .Or (y :: rest) pos) (tT (kx X ca) W (evE R b)) := by
      cases rest with
      | nil =>
        have hb := sndE b h.2 f
        exact ⟨pe_one hb.1, pw_or1 hb.2⟩
      | cons z t =>
        have hb := sndE b h.2 f
        exact ⟨hb.1, pw_pt hb.2⟩
    exact ⟨s_or ha.1 hb.1, t_or ha.2 hb.2⟩
  | .not a, C, e, X, W, h, f => by
    unfold chkE at h
    split at h <;> try contradiction
    have ha := sndE a h f
    exact ⟨s_not ha.1, t_not ha.2⟩
  | .neg a, C, e, X, W, h, f => by
    unfold chkE at h
    split at h <;> try contradiction
    have t := fun p => s_neg (pos := p) (sndE a h f).1
    exact ⟨t _, tT_val (t _) fun _ => rfl⟩
  | .ite c a b, C, e, X, W, h, f => by
    unfold chkE at h
    split at h <;> try contradiction
    simp only [Bool.and_eq_true] at h
    have hc := sndE c h.1.1 f
    have ha := sndE a h.1.2 f
    have hb := sndE b h.2 f
    exact ⟨s_ite hc.2 ha.1 hb.1, t_ite hc.2 ha.2 hb.2⟩
  | .tup xs, C, e, X, W, h, f => by
    unfold chkE at h
    split at h <;> try contradiction
    have := fun j p => s_tup (j := j) (pos := p) (sndEs xs h f)
    exact ⟨this _ _, tT_val (this _ _) fun _ => rfl⟩
  | .lst al xs, C, e, X, W, h, f => by
    unfold chkE at h
    split at h <;> try contradiction
    have := fun p => s_lst (al := al) (pos := p) (sndEs xs h f)
    exact ⟨this _, tT_val (this _) fun _ => rfl⟩
  | .dsp xs, C, e, X, W, h, f => by
    unfold chkE at h
    split at h <;> try contradiction
    simp only [Bool.and_eq_true, decide_eq_true_eq] at h
    rename_i ks vs pos
    obtain ⟨⟨⟨h1, h2⟩, h3⟩, h4⟩ := h
    by_cases h0 : ks = []
    · subst h0
      cases vs with
      | cons _ _ => cases h3
      | nil =>
        match xs, h4 with
        | [], _ => exact ⟨s_dsp0, tT_val s_dsp0 fun _ => rfl⟩
        | [_], h4 => exact absurd h4 Bool.false_ne_true
        | _ :: _ :: _, h4 => exact absurd h4 Bool.false_ne_true
    · have hh : C.hot = false := by
        rw [Bool.or_eq_true, Bool.not_eq_true'] at h1
        rcases h1 with q | q
        · exact q
        · exact absurd (List.isEmpty_iff.mp q) h0
      have := s_dsp (pos := pos) (sndP xs h4 f) h4 (chkP_some h4) h3 (f.xs hh) h0 h2
      exact ⟨this, tT_val this fun _ => rfl⟩
  | .lc al tg it ifs elt, C, e, X, W, h, f => by
    unfold chkE at h
    split at h <;> try contradiction
    rename_i e' x p1 iter fs scope p2
    simp only [Bool.and_eq_true, decide_eq_true_eq, Bool.not_eq_true', Bool.not_eq_eq_eq_not] at h
    obtain ⟨⟨⟨⟨⟨⟨⟨hh, h1⟩, h2⟩, h3⟩, h4⟩, h5⟩, h6⟩, h7⟩ := h
    have hw := pi_walked (tg := .Name x p1) (sndE it h5 f).1
    have ok := blkOk_by h3
    rw [← f.N, ← f.sc] at ok
    have ht := fun s H D cl fp => lc_tests (X := X.blk s H scope (compEnvC scope cl D X.env) fp) (ca := ca) (R := R) (W := noW) h1 h6 fun c e q z => (sndT ifs (f.blk hh s H scope cl D fp) c e q z).2
    have he := fun s H D cl fp => (sndE elt h7 (f.blk hh s H scope cl D fp)).1
    have t := lc_sound (pos := p2) (al := al) (tg := tg) (f.xs hh) (f.xe hh) (f.slot h2) (f.calm hh) f.nd hw ok (lc_name f h2 h4) ht he (chk_noSet h5 _)
    exact ⟨t, tT_val t fun _ => rfl⟩
  | .lr al tg rg ifs elt, C, e, X, W, h, f => by
    unfold chkE at h
    split at h <;> try contradiction
    rename_i e' x p1 nm p3 args p4 fs scope p2
    simp only [Bool.and_eq_true, Bool.or_eq_true, decide_eq_true_eq, Bool.not_eq_true', Bool.not_eq_eq_eq_not] at h
    obtain ⟨⟨⟨⟨⟨⟨⟨⟨⟨⟨hh, h1⟩, h2⟩, h3⟩, h4⟩, rfl⟩, h8⟩, h9⟩, h5⟩, h6⟩, h7⟩ := h
    have hw := pi_rg (p := p3) (pos := p4) (tg := .Name x p1) f h8 h9 h5 (sndEs rg h5 f)
    have ok := blkOk_by h3
    rw [← f.N, ← f.sc] at ok
    have ht := fun s H D cl fp => lc_tests (X := X.blk s H scope (compEnvC scope cl D X.env) fp) (ca := ca) (R := R) (W := noW) h1 h6 fun c e q z => (sndT ifs (f.blk hh s H scope cl D fp) c e q z).2
    have he := fun s H D cl fp => (sndE elt h7 (f.blk hh s H scope cl D fp)).1
    have t := lc_sound (pos := p2) (al := al) (tg := tg) (f.xs hh) (f.xe hh) (f.slot h2) (f.calm hh) f.nd hw ok (lc_name f h2 h4) ht he (fun v => rfl)
    exact ⟨t, tT_val t fun _ => rfl⟩
  | .lcg nx al rg ts tu its ifs elt, C, e, X, W, h, f => by
    unfold chkE at h
    split at h <;> try contradiction
    rename_i e' tg iter fs scope p2
    simp only [Bool.and_eq_true, decide_eq_true_eq, Bool.not_eq_true', Bool.not_eq_eq_eq_not, Bool.or_eq_true] at h
    obtain ⟨⟨⟨⟨⟨⟨hh, h0⟩, h1⟩, h2⟩, h3⟩, h4⟩, h5⟩ := h
    split at h3 <;> try contradiction
    rename_i args ha
    obtain ⟨hi, hs⟩ := pi_it (tg := tg) f ha h3 (sndEs its h3 f) fun c e q z => (sndT its f c e q z).1
    have t : PE X (.ListComp e' [⟨tg, iter, fs, 0⟩] scope p2) (tE (kx X ca) W (evE R (.lcg nx al rg ts tu its ifs elt))) := by
      cases nx with
      | true =>
        refine s_lcT f hh h2 hi (fun s H D cl fp => ?_) (fun s H D cl fp => (sndE elt h5 (f.blk hh s H scope cl D fp)).1) (hs _)
        exact lc_tests (X := X.blk s H scope (compEnvC scope cl D X.env) fp) (ca := ca) (R := R) (W := noW) h1 h4 fun c e q z => (sndT ifs (f.blk hh s H scope cl D fp) c e q z).2
      | false =>
        refine s_lcX f hh (by simpa using h0) h2 hi (fun s H D cl fp xe W' tk => ?_) (fun s H D cl fp xe W' tk => (sndE elt h5 (f.blkX hh s H scope cl D fp xe tk)).1) (hs _)
        exact lc_tests (X := blkX X s H scope (compEnvC scope cl D X.env) fp xe) (ca := ca) (R := R) (W := W') h1 h4 fun c e q z => (sndT ifs (f.blkX hh s H scope cl D fp xe tk) c e q z).2
    exact ⟨t, tT_val t fun _ => rfl⟩
  | .dcg rg ts tu its ifs k v, C, e, X, W, h, f => by
    unfold chkE at h
    split at h <;> try contradiction
    rename_i e1 e2 tg iter fs scope p2
    simp only [Bool.and_eq_true, decide_eq_true_eq, Bool.not_eq_true', Bool.not_eq_eq_eq_not] at h
    obtain ⟨⟨⟨⟨⟨⟨hh, h1⟩, h2⟩, h3⟩, h4⟩, h5⟩, h6⟩ := h
    split at h3 <;> try contradiction
    rename_i args ha
    obtain ⟨hi, hs⟩ := pi_it (tg := tg) f ha h3 (sndEs its h3 f) fun c e q z => (sndT its f c e q z).1
    have t : PE X (.DictComp e1 e2 [⟨tg, iter, fs, 0⟩] scope p2) (tE (kx X ca) W (evE R (.dcg rg ts tu its ifs k v))) := by
      refine s_dcT f hh h2 hi (fun s H D cl fp => ?_) (fun s H D cl fp => (sndE k h5 (f.blk hh s H scope cl D fp)).1) (fun s H D cl fp => (sndE v h6 (f.blk hh s H scope cl D fp)).1) (hs _)
      exact lc_tests (X := X.blk s H scope (compEnvC scope cl D X.env) fp) (ca := ca) (R := R) (W := noW) h1 h4 fun c e q z => (sndT ifs (f.blk hh s H scope cl D fp) c e q z).2
    exact ⟨t, tT_val t fun _ => rfl⟩
  | .idx a b, C, e, X, W, h, f => by
    unfold chkE at h
    split at h <;> try contradiction
    rw [Bool.and_eq_true] at h
    have t := fun p => s_idx (pos := p) f.units (sndE a h.1 f).1 (sndE b h.2 f).1 (plainIx (chk_noSlice h.2))
    exact ⟨t _, tT_val (t _) fun _ => rfl⟩
  | .sli a lo hi, C, e, X, W, h, f => by
    unfold chkE at h
    split at h <;> try contradiction
    simp only [Bool.and_eq_true] at h
    have t := fun p p2 => s_sli (p2 := p2) (pos := p) (sndE a h.1.1 f).1 (sndO lo h.1.2 f) (sndO hi h.2 f)
    exact ⟨t _ _, tT_val (t _ _) fun _ => rfl⟩
  | .call g xs, C, e, X, W, h, f => by
    unfold chkE at h
    split at h <;> try contradiction
    simp only [Bool.and_eq_true, decide_eq_true_eq, Bool.not_eq_true', Bool.not_eq_eq_eq_not] at h
    obtain ⟨⟨⟨⟨⟨hh, h1⟩, h0⟩, h2⟩, h3⟩, h4⟩ := h
    have t := fun p p2 => s_call (p := p2) (pos := p) f hh h1 h0 h2 h3 (sndEs xs h4 f) h4
    exact ⟨t _ _, tT_val (t _ _) fun _ => rfl⟩
  | .blt b xs, C, e, X, W, h, f => by
    unfold chkE at h
    split at h <;> try contradiction
    simp only [Bool.and_eq_true, decide_eq_true_eq, Bool.not_eq_true', Bool.not_eq_eq_eq_not] at h
    obtain ⟨⟨⟨⟨hh, rfl⟩, h2⟩, h3⟩, h4⟩ := h
    have t := fun p p2 => s_blt (p := p2) (pos := p) f hh h2 h3 (sndEs xs h4 f) h4
    exact ⟨t _ _, tT_val (t _ _) fun _ => rfl⟩
  | .mth m o xs, C, e, X, W, h, f => by
    unfold chkE at h
    split at h <;> try contradiction
    simp only [Bool.and_eq_true, decide_eq_true_eq] at h
    obtain ⟨⟨⟨⟨⟨h1, h2⟩, h3⟩, h4⟩, h5⟩, h6⟩ := h
    have t := s_mth f h1 h2 h3 (sndE o h4 f).1 h5 (sndEs xs h6 f) h6
    exact ⟨t, tT_val t fun _ => rfl⟩
  | .isi a ty, C, e, X, W, h, f => by
    unfold chkE at h
    split at h <;> try contradiction
    simp only [Bool.and_eq_true, Bool.or_eq_true, decide_eq_true_eq, beq_iff_eq] at h
    obtain ⟨⟨⟨⟨⟨rfl, h2⟩, rfl⟩, h4⟩, h5⟩, h6⟩ := h
    have ha := sndE a h5 f
    have t : ∀ p p2 p3, PE X (.Call (.Name "isinstance" p) [_, .Name (Str.ofString ty) p2] [] p3) (tE (kx X ca) W (evE R (.isi a ty))) := fun p p2 p3 => by
      rcases h6 with ((((rfl | rfl) | rfl) | rfl) | rfl) <;> exact s_isi f h2 h4 (by decide +kernel) (by decide +kernel) (by decide +kernel) (by decide +kernel) ha.1 (chk_ns h5)
    exact ⟨t _ _ _, tT_val (t _ _ _) fun _ => rfl⟩
  | .mxd a k, C, e, X, W, h, f => by
    unfold chkE at h
    split at h <;> try contradiction
    simp only [Bool.and_eq_true, decide_eq_true_eq, Bool.not_eq_true', Bool.not_eq_eq_eq_not] at h
    obtain ⟨⟨⟨⟨⟨hh, rfl⟩, rfl⟩, rfl⟩, h2⟩, h3⟩ := h
    have pa := fun X2 (W2 : WX) (f2 : FitE C ca n R X2 W2) => sa_cons (es := []) (sndE a h3 f2).1 sa_nil (star_cons (chk_ns h3))
    have t := fun p p2 p3 p4 j => s_mxd (k := k) (p := p) (p2 := p2) (p3 := p3) (pos := p4) (j := j) f hh h2 (pa X W f) (chk_ns h3)
    exact ⟨t _ _ _ _ _, tT_val (t _ _ _ _ _) fun _ => rfl⟩
  | .fld cs a g, C, e, X, W, h, f => by
    unfold chkE at h
    split at h <;> try contradiction
    simp only [Bool.and_eq_true, decide_eq_true_eq, List.all_eq_true] at h
    obtain ⟨⟨⟨rfl, h1⟩, h2⟩, h3⟩ := h
    have t := fun p => s_fld (pos := p) f h1 (sndE a h2 f).1 fun c hc => List.contains_iff_mem.mp (h3 c hc)
    exact ⟨t _, tT_val (t _) fun _ => rfl⟩
  | .mcl nm tb o xs, C, e, X, W, h, f => by
    unfold chkE at h
    split at h <;> try contradiction
    simp only [Bool.and_eq_true, decide_eq_true_eq, List.all_eq_true, Bool.not_eq_true', Bool.not_eq_eq_eq_not] at h
    obtain ⟨⟨⟨⟨⟨⟨⟨hh, rfl⟩, h1⟩, h2⟩, h3⟩, h4⟩, h5⟩, h6⟩ := h
    have t := s_mcl f hh h1 h2 h3 (sndE o h4 f).1 (sndEs xs h5 f) h5 fun q hq => List.contains_iff_mem.mp (h6 q hq)
    exact ⟨t, tT_val t fun _ => rfl⟩
  | .new c g xs, C, e, X, W, h, f => by
    unfold chkE at h
    split at h <;> try contradiction
    simp only [Bool.and_eq_true, Bool.not_eq_true', Bool.not_eq_eq_eq_not] at h
    obtain ⟨⟨⟨⟨hh, h1⟩, h2⟩, h3⟩, h4⟩ := h
    have t := fun p p2 => s_new (p := p2) (pos := p) f hh (List.contains_iff_mem.mp h1) h2 h3 (sndEs xs h4 f) h4
    exact ⟨t _ _, tT_val (t _ _) fun _ => rfl⟩
theorem sndEs : ∀ (xs : List CE) {C : Cxt} {es : List Expr} {X : Cx} {W : WX}, chkEs C xs es = true → FitE C ca n R X W → PA X es (tA (kx X ca) W (evEs R xs))
  | [], C, [], X, W, h, f => sa_nil
  | [], C, _ :: _, X, W, h, f => by simp [chkEs] at h
  | a :: r, C, [], X, W, h, f => by simp [chkEs] at h
  | a :: r, C, e :: es, X, W, h, f => by
    simp only [chkEs, Bool.and_eq_true] at h
    exact sa_cons (sndE a h.1 f).1 (sndEs r h.2 f) (star_cons (chk_ns h.1))
theorem sndO : ∀ (o : Option CE) {C : Cxt} {e : Option Expr} {X : Cx} {W : WX}, chkO C o e = true → FitE C ca n R X W → PO X e (tO (kx X ca) W fun s S => (evO R o s S).bind prtD)
  | none, C, none, X, W, h, f => so_none
  | none, C, some _, X, W, h, f => by simp [chkO] at h
  | some a, C, none, X, W, h, f => by simp [chkO] at h
  | some a, C, some e, X, W, h, f => so_some (sndE a (by simpa only [chkO] using h) f).1
theorem sndT : ∀ (xs : List CE) {C : Cxt} {X : Cx} {W : WX}, FitE C ca n R X W → ∀ c e, xs = [c] → chkE C c e = true → PE X e (tE (kx X ca) W (evE R c)) ∧ PT X e (tT (kx X ca) W (evE R c))
  | [], C, X, W, f, c, e, q, h => by cases q
  | a :: r, C, X, W, f, c, e, q, h => by
    obtain ⟨rfl, _⟩ := List.cons.inj q
    exact sndE a h f
theorem sndP : ∀ (xs : List CE) {C : Cxt} {ks : List (Option Expr)} {vs : List Expr} {X : Cx} {W : WX} {pos : Pos}, chkP C xs ks vs = true → FitE C ca n R X W → PPs X pos ks vs (trsOf (kx X ca) W R xs)
  | [], C, [], [], X, W, pos, h, f => pps_nil
  | [], C, _ :: _, vs, X, W, pos, h, f => by cases vs <;> simp [chkP] at h
  | [], C, [], _ :: _, X, W, pos, h, f => by simp [chkP] at h
  | [x], C, ks, vs, X, W, pos, h, f => by
    cases ks with
    | nil => simp [chkP] at h
    | cons k' ks' => cases k' <;> cases vs <;> simp [chkP] at h
  | x :: y :: r, C, [], vs, X, W, pos, h, f => by simp [chkP] at h
  | x :: y :: r, C, none :: ks, vs, X, W, pos, h, f => by cases vs <;> simp [chkP] at h
  | x :: y :: r, C, some k :: ks, [], X, W, pos, h, f => by simp [chkP] at h
  | x :: y :: r, C, some k :: ks, v :: vs, X, W, pos, h, f => by
    simp only [chkP, Bool.and_eq_true] at h
    exact pps_cons (sndE x h.1.1 f).1 (sndE y h.1.2 f).1 (sndP r h.2 f)
end
end
end Cr
set_option Elab.async false
set_option linter.all false
set_option maxHeartbeats 4000000
set_option maxRecDepth 10000
/-! Cr17: the promise of a statement. -/
namespace Cr
open PySem L2 PyProof.Rows
def postS (k : Kx) (W : WX) (ρ : Lo) (H : Hp) (o : SO) (D : Ends) : Prop :=
  match o with
  | .nx s S => ∀ ρ' H' σ, Ext ρ H ρ' H' → At k ρ' S s σ H' → D.nx σ H'
  | .rt d S => ∀ v ρ' H', Ext ρ H ρ' H' → Rel k.K k.ca ρ' S H' → Rep k.K ρ' H' d v → D.rt v H'
  | .bk s S => ∀ ρ' H' σ, Ext ρ H ρ' H' → At k ρ' S s σ H' → D.bk σ H'
  | .ct s S => ∀ ρ' H' σ, Ext ρ H ρ' H' → At k ρ' S s σ H' → D.ct σ H'
  | .ex c fs s S => ∀ ρ' H' σ cls d, Ext ρ H ρ' H' → At k ρ' S s σ H' → Exn k.K k.ca ρ' H' c fs cls d → W cls d σ H'
  | .bad => False
def tS (k : Kx) (W : WX) (m : Fr → Sto → SO) : TS := fun D σ H => ∃ ρ S s, At k ρ S s σ H ∧ postS k W ρ H (m s S) D
def tG (k : Kx) (W : WX) (m : D → Fr → Sto → SO) : TG := fun v σ H Q => ∃ ρ S s d, At k ρ S s σ H ∧ Rep k.K ρ H d v ∧ ∃ D : Ends, (∀ σ H, D.nx σ H → Q σ H) ∧ postS k W ρ H (m d s S) D
section
variable {k : Kx} {W : WX} {ρ ρ' : Lo} {H H' : Hp} {s : Fr} {S : Sto} {σ : L2.St} {D : Ends}
theorem postS.mono {o : SO} (h : postS k W ρ H o D) (e : Ext ρ H ρ' H') : postS k W ρ' H' o D := by
  cases o with
  | nx s S => exact fun ρ2 H2 σ e2 a => h ρ2 H2 σ (e.trans e2) a
  | rt d S => exact fun v ρ2 H2 e2 r p => h v ρ2 H2 (e.trans e2) r p
  | bk s S => exact fun ρ2 H2 σ e2 a => h ρ2 H2 σ (e.trans e2) a
  | ct s S => exact fun ρ2 H2 σ e2 a => h ρ2 H2 σ (e.trans e2) a
  | ex c fs s S => exact fun ρ2 H2 σ cls d e2 a x => h ρ2 H2 σ cls d (e.trans e2) a x
  | bad => exact h
/-- an expression's value, then the rest -/
theorem st_post {α β : Type} {RepA : Lo → Hp → α → β → Prop} (a : At k ρ S s σ H) {o : Out α} {f : α → Sto → SO} (h : postS k W ρ H (o.st s f) D) :
    post k RepA W σ ρ H o fun v H1 => ∃ d ρ1 S1, At k ρ1 S1 s σ H1 ∧ Ext ρ H ρ1 H1 ∧ RepA ρ1 H1 d v ∧ o = .ok d S1 ∧ postS k W ρ1 H1 (f d S1) D := by
  cases o with
  | bad => exact h
  | ex c fs S1 => exact fun ρ1 H1 cls d e1 r1 x => h ρ1 H1 σ cls d e1 (a.ext e1 r1) x
  | ok d S1 => exact fun v ρ1 H1 e1 r1 p1 => ⟨d, ρ1, S1, a.ext e1 r1, e1, p1, rfl, h.mono e1⟩
theorem st_step {m : Fr → Sto → Out Cr.D} {f : Cr.D → Sto → SO} {D : Ends} (a : At k ρ S s σ H) (h : postS k W ρ H ((m s S).st s f) D) :
    tE k W m σ H fun v H1 => ∃ d ρ1 S1, At k ρ1 S1 s σ H1 ∧ Ext ρ H ρ1 H1 ∧ Rep k.K ρ1 H1 d v ∧ postS k W ρ1 H1 (f d S1) D :=
  ⟨ρ, S, s, a, (st_post a h).imp fun _ _ ⟨d, ρ1, S1, x1, x2, x3, _, x4⟩ => ⟨d, ρ1, S1, x1, x2, x3, x4⟩⟩
/-- a test, then the rest -/
theorem st_test {m : Fr → Sto → Out Cr.D} {f g : Sto → SO} (a : At k ρ S s σ H) (h : postS k W ρ H ((m s S).st s fun d S1 => onS d S1 f g) D) :
    tT k W m σ H fun b H1 => ∃ ρ1 S1, At k ρ1 S1 s σ H1 ∧ Ext ρ H ρ1 H1 ∧ postS k W ρ1 H1 (if b = true then f S1 else g S1) D := by
  refine ⟨ρ, S, s, a, ?_⟩
  cases em : m s S with
  | bad => rw [em] at h; exact h
  | ex c fs S1 =>
    rw [em] at h
    exact fun ρ1 H1 cls d e1 r1 x => h ρ1 H1 σ cls d e1 (a.ext e1 r1) x
  | ok d S1 =>
    rw [em, st_ok] at h
    rw [bind_ok]
    cases d with
    | bool b =>
      intro v ρ1 H1 e1 r1 p1
      cases p1
      refine ⟨ρ1, S1, a.ext e1 r1, e1, ?_⟩
      cases b with
      | true => exact postS.mono h e1
      | false => exact postS.mono h e1
    | _ => exact (h : False).elim
/-- one statement, then the rest -/
theorem seq_step {o : SO} {f : Fr → Sto → SO} (h : postS k W ρ H (o.seq f) D) : postS k W ρ H o { D with nx := fun σ' H' => ∃ ρ' S' s', At k ρ' S' s' σ' H' ∧ Ext ρ H ρ' H' ∧ postS k W ρ' H' (f s' S') D } := by
  cases o with
  | nx s S => exact fun ρ2 H2 σ e2 a => ⟨ρ2, S, s, a, e2, h.mono e2⟩
  | rt d S => exact h
  | bk s S => exact h
  | ct s S => exact h
  | ex c fs s S => exact h
  | bad => exact h
/-- a loop's turn, then the rest -/
theorem again_step {o : SO} {f : Fr → Sto → SO} (h : postS k W ρ H (o.again f) D) : postS k W ρ H o { D with nx := fun σ' H' => ∃ ρ' S' s', At k ρ' S' s' σ' H' ∧ Ext ρ H ρ' H' ∧ postS k W ρ' H' (f s' S') D, ct := fun σ' H' => ∃ ρ' S' s', At k ρ' S' s' σ' H' ∧ Ext ρ H ρ' H' ∧ postS k W ρ' H' (f s' S') D, bk := D.nx } := by
  cases o with
  | nx s S => exact fun ρ2 H2 σ e2 a => ⟨ρ2, S, s, a, e2, h.mono e2⟩
  | rt d S => exact h
  | bk s S => exact h
  | ct s S => exact fun ρ2 H2 σ e2 a => ⟨ρ2, S, s, a, e2, h.mono e2⟩
  | ex c fs s S => exact h
  | bad => exact h
theorem postS.imp {o : SO} {D' : Ends} (h : postS k W ρ H o D) (hn : ∀ σ H, D.nx σ H → D'.nx σ H) (hr : ∀ v H, D.rt v H → D'.rt v H) (hb : ∀ σ H, D.bk σ H → D'.bk σ H) (hc : ∀ σ H, D.ct σ H → D'.ct σ H) : postS k W ρ H o D' := by
  cases o with
  | nx s S => exact fun ρ2 H2 σ e2 a => hn _ _ (h ρ2 H2 σ e2 a)
  | rt d S => exact fun v ρ2 H2 e2 r p => hr _ _ (h v ρ2 H2 e2 r p)
  | bk s S => exact fun ρ2 H2 σ e2 a => hb _ _ (h ρ2 H2 σ e2 a)
  | ct s S => exact fun ρ2 H2 σ e2 a => hc _ _ (h ρ2 H2 σ e2 a)
  | ex c fs s S => exact h
  | bad => exact h
end
section
variable {X : Cx} {ca : CA} {W : WX} {R : Nat → List D → Sto → Out D} {N : Nat}
theorem z_nil : PSs X [] (tS (kx X ca) W (evB N R [])) := by
  refine PSs.imp pss_nil fun D σ H q => ?_
  obtain ⟨ρ, S, s, a, q⟩ := q
  rw [evB] at q
  exact q ρ H σ .refl a
theorem z_cons {c : CS} {r : List CS} {st : Stmt} {rest : List Stmt} (h1 : PS X st (tS (kx X ca) W (evS N R c))) (h2 : PSs X rest (tS (kx X ca) W (evB N R r))) : PSs X (st :: rest) (tS (kx X ca) W (evB N R (c :: r))) := by
  refine PSs.imp (pss_cons h1 h2) fun D σ H q => ?_
  obtain ⟨ρ, S, s, a, q⟩ := q
  rw [evB] at q
  refine ⟨ρ, S, s, a, (seq_step q).imp (fun σ' H' ⟨ρ', S', s', a', e', q'⟩ => ⟨ρ', S', s', a', q'⟩) (fun _ _ z => z) (fun _ _ z => z) fun _ _ z => z⟩
theorem z_exp {c : CE} {e : Expr} {pos : Pos} (he : PE X e (tE (kx X ca) W (evE R c))) (hs : swapsWith e none pos.line X.env = pure false) : PS X (.Expr e pos) (tS (kx X ca) W (evS N R (.exp c))) := by
  refine PS.imp (ps_expr he hs) fun D σ H q => ?_
  obtain ⟨ρ, S, s, a, q⟩ := q
  rw [evS] at q
  obtain ⟨ρ', S', s', a', q'⟩ := st_step a q
  exact ⟨ρ', S', s', a', q'.imp fun v H1 ⟨d, ρ1, S1, a1, e1, p1, q1⟩ => q1 ρ1 H1 σ .refl a1⟩
theorem z_ret {c : CE} {e : Expr} {pos : Pos} (he : PE X e (tE (kx X ca) W (evE R c))) : PS X (.Return (some e) pos) (tS (kx X ca) W (evS N R (.ret c))) := by
  refine PS.imp (ps_ret he) fun D σ H q => ?_
  obtain ⟨ρ, S, s, a, q⟩ := q
  rw [evS] at q
  obtain ⟨ρ', S', s', a', q'⟩ := st_step a q
  exact ⟨ρ', S', s', a', q'.imp fun v H1 ⟨d, ρ1, S1, a1, e1, p1, q1⟩ => q1 v ρ1 H1 .refl a1.rel p1⟩
theorem z_retN {pos : Pos} : PS X (.Return none pos) (tS (kx X ca) W (evS N R (.ret (.con .none)))) := by
  refine PS.imp ps_retN fun D σ H q => ?_
  obtain ⟨ρ, S, s, a, q⟩ := q
  rw [evS, evE] at q
  exact q .non ρ H .refl a.rel rfl
theorem z_if {c : CE} {a b : List CS} {e : Expr} {sa sb : List Stmt} {pos : Pos} (hc : PT X e (tT (kx X ca) W (evE R c))) (ha : PSs X sa (tS (kx X ca) W (evB N R a))) (hb : PSs X sb (tS (kx X ca) W (evB N R b))) : PS X (.If e sa sb pos) (tS (kx X ca) W (evS N R (.ife c a b))) := by
  refine PS.imp (ps_if hc ha hb) fun D σ H q => ?_
  obtain ⟨ρ, S, s, at_, q⟩ := q
  rw [evS] at q
  obtain ⟨ρ', S', s', a', q'⟩ := st_test at_ q
  refine ⟨ρ', S', s', a', q'.imp fun v H1 ⟨ρ1, S1, a1, e1, q1⟩ => ?_⟩
  cases v with
  | true => exact ⟨ρ1, S1, s, a1, q1⟩
  | false => exact ⟨ρ1, S1, s, a1, q1⟩
theorem z_while {c : CE} {b : List CS} {e : Expr} {sb : List Stmt} {pos : Pos} (hp : PassesOwn (model X.prog X.w) X.A X.env X.xe) (hc : PT X e (tT (kx X ca) W (evE R c))) (hb : PSs X sb (tS (kx X ca) W (evB N R b))) : PS X (.While e sb [] pos) (tS (kx X ca) W (evS N R (.whl c b))) := by
  refine PS.imp (ps_while hp hc hb) fun D σ H q => ?_
  obtain ⟨ρ, S, s, at_, q⟩ := q
  rw [evS] at q
  refine ⟨fun m σ H => ∃ ρ S s, At (kx X ca) ρ S s σ H ∧ postS (kx X ca) W ρ H (whL (evE R c) (evB N R b) m s S) D, ⟨N, ρ, S, s, at_, q⟩, ?_⟩
  rintro m σ H ⟨ρ, S, s, at_, q⟩
  cases m with
  | zero => exact q.elim
  | succ m =>
    rw [whL] at q
    obtain ⟨ρ', S', s', a', q'⟩ := st_test at_ q
    refine ⟨ρ', S', s', a', q'.imp fun v H1 ⟨ρ1, S1, a1, e1, q1⟩ => ?_⟩
    cases v with
    | true =>
      rw [if_pos rfl]
      rw [if_pos rfl] at q1
      have q2 := again_step q1
      refine ⟨_, fun σ' H' ⟨ρ', S', s', a', _, q'⟩ => ⟨m, Nat.lt_succ_self m, ρ', S', s', a', q'⟩, ρ1, S1, s, a1, q2⟩
    | false =>
      rw [if_neg (by decide)]
      rw [if_neg (by decide)] at q1
      exact q1 ρ1 H1 σ .refl a1
theorem z_loop {mI : Fr → Sto → Out (D × List D)} {mG : D → Fr → Sto → SO} {mB : Fr → Sto → SO} {tg iter : Expr} {body : List Stmt} {pos : Pos} (hp : PassesOwn (model X.prog X.w) X.A X.env X.xe) (hc : X.calm = true) (hi : PI X tg iter (tI (kx X ca) W mI)) (hg : PG X tg (tG (kx X ca) W mG)) (hb : PSs X body (tS (kx X ca) W mB))
    (hn : ∀ d s S, (∃ s' S', mG d s S = .nx s' S') ∨ (∃ c fs s' S', mG d s S = .ex c fs s' S') ∨ mG d s S = .bad) (hs : ∀ x, foldedSetIterable iter X.env x = pure x) : PS X (.For tg iter body [] pos) (tS (kx X ca) W fun σ S => (mI σ S).st σ fun p S1 => frL p.1 p.2 (fun x σ1 S2 => (mG x σ1 S2).seq mB) p.2 σ S1) := by
  refine PS.imp (ps_for hp hc hi hg hb hs) fun D σ H q => ?_
  obtain ⟨ρ, S, s, at_, q⟩ := q
  dsimp only at q
  refine ⟨ρ, S, s, at_, ?_⟩
  cases em : mI s S with
  | bad => rw [em] at q; exact q
  | ex c fs S1 =>
    rw [em] at q
    exact fun ρ1 H1 cls d e1 r1 x => q ρ1 H1 σ cls d e1 (at_.ext e1 r1) x
  | ok p S1 =>
    rw [em, st_ok] at q
    obtain ⟨d, xs⟩ := p
    dsimp only at q
    intro v ρ1 H1 J e1 r1 p1 st1 wk
    dsimp only at p1 st1 wk
    refine ⟨fun i m σ H => m = xs.length - i ∧ i ≤ xs.length ∧ ∃ ρ2 S2 s2, At (kx X ca) ρ2 S2 s2 σ H ∧ Rep X.K ρ2 H d v ∧ stays d xs S2 = true ∧ postS (kx X ca) W ρ2 H (frL d xs (fun x σ1 S2 => (mG x σ1 S2).seq mB) (xs.drop i) s2 S2) D,
      ⟨xs.length, rfl, Nat.zero_le _, ρ1, S1, s, at_.ext e1 r1, p1, st1, q.mono e1⟩, ?_⟩
    rintro i m σ2 H2 ⟨rfl, hi2, ρ2, S2, s2, a2, p2, st2, q2⟩
    have wi := wk ρ2 S2 H2 a2.rel p2 st2 i
    by_cases hlt : i < xs.length
    · have hx : xs[i]? = some xs[i] := List.getElem?_eq_getElem hlt
      obtain ⟨go, yl⟩ := wi.1 _ hx
      rw [List.drop_eq_getElem_cons hlt, frL] at q2
      have q3 := again_step q2
      have q4 := seq_step q3
      refine .inr ⟨go, fun σ' H' => ∃ ρ' S' s', At (kx X ca) ρ' S' s' σ' H' ∧ Ext ρ2 H2 ρ' H' ∧ postS (kx X ca) W ρ' H' (if stays d xs S' = true then frL d xs (fun x σ1 S2 => (mG x σ1 S2).seq mB) (xs.drop (i + 1)) s' S' else .bad) D, fun σ' H' ⟨ρ', S', s', a', e', q'⟩ => ?_, fun y H' hy => ?_⟩
      · split at q'
        · rename_i st
          exact ⟨xs.length - (i + 1), by omega, rfl, hlt, ρ', S', s', a', Rep.ext e' _ _ p2, st, q'⟩
        · exact q'.elim
      · obtain ⟨rfl, py⟩ := yl y H' hy
        refine ⟨ρ2, S2, s2, _, a2, py, _, fun σ3 H3 hz => ?_, q4⟩
        obtain ⟨ρ', S', s', a', e', q'⟩ := hz
        exact ⟨ρ', S', s', a', q'.imp (fun σ4 H4 ⟨ρ4, S4, s4, a4, e4, q4⟩ => ⟨ρ4, S4, s4, a4, e4, q4⟩) (fun _ _ z => z) (fun _ _ z => z) (fun σ4 H4 ⟨ρ4, S4, s4, a4, e4, q4⟩ => ⟨ρ4, S4, s4, a4, e4, q4⟩)⟩
    · have hi3 : i = xs.length := by omega
      subst hi3
      rw [List.drop_length, frL] at q2
      exact .inl ⟨wi.2 (Nat.le_refl _), q2 ρ2 H2 σ2 .refl a2⟩
theorem z_pass {pos : Pos} : PS X (.Pass pos) (tS (kx X ca) W (evS N R .pss)) := by
  refine PS.imp ps_pass fun D σ H q => ?_
  obtain ⟨ρ, S, s, a, q⟩ := q
  rw [evS] at q
  exact q ρ H σ .refl a
theorem z_doc {x : Str} {j : Nat} {pos pos' : Pos} : PS X (.Expr (.Constant (.str x) j pos) pos') (tS (kx X ca) W (evS N R .pss)) := by
  refine PS.imp ps_doc fun D σ H q => ?_
  obtain ⟨ρ, S, s, a, q⟩ := q
  rw [evS] at q
  exact q ρ H σ .refl a
theorem z_break {pos : Pos} : PS X (.Break pos) (tS (kx X ca) W (evS N R .brk)) := by
  refine PS.imp ps_break fun D σ H q => ?_
  obtain ⟨ρ, S, s, a, q⟩ := q
  rw [evS] at q
  exact q ρ H σ .refl a
theorem z_continue {pos : Pos} : PS X (.Continue pos) (tS (kx X ca) W (evS N R .cnt)) := by
  refine PS.imp ps_continue fun D σ H q => ?_
  obtain ⟨ρ, S, s, a, q⟩ := q
  rw [evS] at q
  exact q ρ H σ .refl a
end
end Cr
set_option Elab.async false
set_option linter.all false
set_option maxRecDepth 100000
/-! CrF: except clauses of both kinds in one list; what the kit's two rules for try make of it. -/
namespace Cr
open PySem PyProof.Rows L2
/-- a clause: the class it names, the slot of its name, its suite -/
abbrev Cla := Value × Option Nat × (Addr → Value → Option Addr → TS)
/-- behind a suite that has a name -/
def offD (i : Nat) (D : Ends) : Ends := { nx := fun σ' H' => D.nx (σ'.set i none) H', rt := D.rt, bk := fun σ' H' => D.bk (σ'.set i none) H', ct := fun σ' H' => D.ct (σ'.set i none) H' }
def wGen (K : PySem.W.Frag) (Wo : WX) (D : Ends) : List Cla → WX
  | [] => Wo
  | q :: r => fun cls d σ H => ∃ b, PySem.W.exmOne K cls q.1 = some b ∧ (b = false → wGen K Wo D r cls d σ H) ∧
      (b = true → ∀ a, H a = none → match q.2.1 with
        | none => q.2.2 a cls d D σ H
        | some i => q.2.2 a cls d (offD i D) (σ.set i (some (.ref a))) H)
/-- a suite keeps its promise -/
def SuOk (X : Cx) (body : List Stmt) (ts : Addr → Value → Option Addr → TS) : Prop := ∀ (a : Addr) (oe : Obj) (cls : Value) (d : Option Addr) (pn : List (Addr × Obj)), Zc cls d oe → (∃ vs, oe.data = .fields vs) → PSs (X.suite a ((a, oe) :: pn)) body (ts a cls d)
inductive HdsG (X : Cx) : List ExceptHandler → List Cla → Prop
  | nil : HdsG X [] []
  | bare {x : Str} {c : Value} {ts : Addr → Value → Option Addr → TS} {st : Stmt} {body : List Stmt} {p q : Pos} {hds : List ExceptHandler} {l : List Cla} (hc : Names X x c) (hs : SuOk X (st :: body) ts) (r : HdsG X hds l) : HdsG X (.ExceptHandler (some (.Name x p)) none (st :: body) q :: hds) ((c, none, ts) :: l)
  | named {x n : Str} {i : Nat} {c : Value} {ts : Addr → Value → Option Addr → TS} {st : Stmt} {body : List Stmt} {p q : Pos} {hds : List ExceptHandler} {l : List Cla} (hc : Names X x c) (hi : X.N[i]? = some n) (hl : X.env.kindOf n = some .local) (hs : SuOk X (st :: body) ts) (r : HdsG X hds l) :
      HdsG X (.ExceptHandler (some (.Name x p)) (some n) (st :: body) q :: hds) ((c, some i, ts) :: l)
/-- clauses without names -/
def bareB : List ExceptHandler → Bool
  | [] => true
  | .ExceptHandler _ nm _ _ :: r => nm.isNone && bareB r
theorem HdsG.many {X : Cx} {hds : List ExceptHandler} {l : List Cla} (h : HdsG X hds l) (hb : bareB hds = true) : ∃ l2, HdsOk X hds l2 ∧ ∀ (Wo : WX) (D : Ends) (cls : Value) (d : Option Addr) (σ : L2.St) (H : Hp), wGen X.K Wo D l cls d σ H → wMany X.K Wo D l2 cls d σ H := by
  induction h with
  | nil => exact ⟨[], .nil, fun _ _ _ _ _ _ z => z⟩
  | @bare x c ts st body p q hds l hc hs r ih =>
    obtain ⟨l2, h2, hw⟩ := ih hb
    refine ⟨(c, ts) :: l2, .cons hc hs h2, fun Wo D cls d σ H z => ?_⟩
    obtain ⟨b, z1, z2, z3⟩ := z
    exact ⟨b, z1, z3, fun hf => hw Wo D cls d σ H (z2 hf)⟩
  | named hc hi hl hs r ih => exact absurd (show false = true from hb) Bool.false_ne_true
/-- one clause with a name -/
theorem HdsG.one {X : Cx} {h0 : ExceptHandler} {l : List Cla} (h : HdsG X [h0] l) (hb : bareB [h0] = false) : ∃ (x n : Str) (i : Nat) (c : Value) (ts : Addr → Value → Option Addr → TS) (st : Stmt) (body : List Stmt) (p q : Pos), h0 = .ExceptHandler (some (.Name x p)) (some n) (st :: body) q ∧ Names X x c ∧ X.N[i]? = some n ∧ X.env.kindOf n = some .local ∧ SuOk X (st :: body) ts ∧
    ∀ (Wo : WX) (D : Ends) (cls : Value) (d : Option Addr) (σ : L2.St) (H : Hp), wGen X.K Wo D l cls d σ H → wAs X.K c i ts Wo D cls d σ H := by
  cases h with
  | bare hc hs r => exact absurd (show true = false from hb) Bool.true_eq_false.mp
  | @named x n i c ts st body p q _ l hc hi hl hs r =>
    cases r
    refine ⟨x, n, i, c, ts, st, body, p, q, rfl, hc, hi, hl, hs, fun Wo D cls d σ H z => ?_⟩
    obtain ⟨b, z1, z2, z3⟩ := z
    exact ⟨b, z1, z3, z2⟩
end Cr
set_option Elab.async false
set_option linter.all false
set_option maxHeartbeats 8000000
set_option maxRecDepth 10000
/-! Cr18: targets. -/
namespace Cr
open PySem L2 PyProof.Rows
def locB (sc : Scope) (x : Str) : Bool := match sc.names.lookup x with
  | some .local => true
  | some .cell => true
  | _ => false
def chkN (C : Cxt) : List TL → List Expr → Bool
  | [], [] => true
  | .nm i :: is, .Name x _ :: es => decide (C.N[i]? = some x) && locB C.sc x && xvB C x && chkN C is es
  | .fl cs o f :: is, .Attribute (.Name x p) g _ :: es => decide (f = g) && varB C o (.Name x p) && (cs.all fun c => C.fls.contains (c, f)) && chkN C is es
  | _, _ => false
def chkG (C : Cxt) : CT → Expr → Bool
  | .nm i, e => match e with
    | .Name x _ => decide (C.N[i]? = some x) && locB C.sc x && xvB C x
    | _ => false
  | .tup is, e => match e with
    | .Tuple es _ _ => !C.hot && chkN C is es
    | _ => false
  | .sub o i, e => match e with
    | .Subscript a b _ => chkE C o a && chkE C i b
    | _ => false
  | .fld cs o f, e => match e with
    | .Attribute a g _ => decide (f = g) && (cs.all fun c => C.fls.contains (c, f)) && chkE C o a
    | _ => false
/-- a body in which statements are run -/
structure FitS (C : Cxt) (ca : CA) (n : Nat) (R : Nat → List D → Sto → Out D) (X : Cx) (W : WX) : Prop extends FitE C ca n R X W where
  pw : PassesOwn (model X.prog X.w) X.A X.env X.xe
  kind : X.env.scope.kind = .function
  fn : ∀ x, X.fn x = true
  blk : C.blk = false
/-! ### fields -/
theorem putF_fst {f : Str} {d : D} {v : V} : ∀ {fs : List (Str × D)} {gs : List (Str × V)}, gs.map (·.1) = fs.map (·.1) → (putF f v gs).map (·.1) = (putFD f d fs).map (·.1)
  | [], [], _ => rfl
  | [], _ :: _, h => by cases h
  | _ :: _, [], h => by cases h
  | (g, w) :: r, (g', w') :: r', h => by
    have h1 := List.cons.inj h
    obtain rfl : g' = g := h1.1
    unfold putF putFD
    by_cases e : g' = f
    · rw [if_pos e, if_pos e, List.map_cons, List.map_cons, h1.2, e]
    · rw [if_neg e, if_neg e, List.map_cons, List.map_cons, putF_fst h1.2]
theorem putF_snd {K : PySem.W.Frag} {ρ : Lo} {H : Hp} {f : Str} {d : D} {v : V} (p : Rep K ρ H d v) : ∀ {fs : List (Str × D)} {gs : List (Str × V)}, gs.map (·.1) = fs.map (·.1) → Reps K ρ H (fs.map (·.2)) (gs.map (·.2)) → Reps K ρ H ((putFD f d fs).map (·.2)) ((putF f v gs).map (·.2))
  | [], [], _, _ => ⟨v, [], rfl, p, rfl⟩
  | [], _ :: _, h, _ => by cases h
  | _ :: _, [], h, _ => by cases h
  | (g, w) :: r, (g', w') :: r', h, q => by
    have h1 := List.cons.inj h
    obtain rfl : g' = g := h1.1
    obtain ⟨y, ys, e, q1, q2⟩ := q
    obtain ⟨rfl, rfl⟩ := List.cons.inj (show w' :: r'.map (·.2) = y :: ys from e)
    unfold putF putFD
    by_cases e : g' = f
    · rw [if_pos e, if_pos e]
      exact ⟨v, _, rfl, p, q2⟩
    · rw [if_neg e, if_neg e]
      exact ⟨w', _, rfl, q1, putF_snd p h1.2 q2⟩
theorem stF_rep {K : PySem.W.Frag} {ca : Nat → Addr} {ρ : Lo} {S S' : Sto} {H : Hp} (r : Rel K ca ρ S H) {cs : List Nat} {ov x : D} {f : Str} {v w : V} (e : stF cs ov f x S = .ok () S') (p1 : Rep K ρ H ov v) (p2 : Rep K ρ H x w) :
    ∃ (a : Addr) (c : Nat) (dx : Addr) (gs : List (Str × V)), v = .ref a ∧ c ∈ cs ∧ H a = some (.ins (ca c) dx gs) ∧ gs.length < 1000 ∧ Ext ρ H ρ (upd H a (.ins (ca c) dx (putF f w gs))) ∧ Rel K ca ρ S' (upd H a (.ins (ca c) dx (putF f w gs))) := by
  unfold stF at e
  split at e
  · rename_i n p hn hp
    split at e
    · rename_i hc
      cases e
      obtain ⟨m, a, rfl, hs, rfl, ha, dx, gs, h1, h2, h3⟩ := insOf_rep r hp p1
      have hm : m = n := by
        have : locOf (Cr.loc m) = some m := rfl
        rw [this] at hn
        exact Option.some.inj hn
      subst hm
      refine ⟨a, p.1, dx, gs, rfl, List.contains_iff_mem.mp hc.1, h1, ?_, .write _ (List.mem_of_getElem? ha), r.write ha ⟨dx, _, upd_same, putF_fst h2, ?_⟩⟩
      · have := congrArg List.length h2
        simp only [List.length_map] at this
        omega
      · exact Reps.ext (.write _ (List.mem_of_getElem? ha)) _ _ (putF_snd p2 h2 h3)
    · cases e
  · cases e
theorem stF_nx {cs : List Nat} {ov x : D} {f : Str} {S : Sto} : (∃ S', stF cs ov f x S = .ok () S') ∨ stF cs ov f x S = .bad := by
  unfold stF
  split
  · split
    · exact .inl ⟨_, rfl⟩
    · exact .inr rfl
  · exact .inr rfl
section
variable {X : Cx} {ca : CA} {W : WX} {R : Nat → List D → Sto → Out D} {n : Nat} {C : Cxt}
/-- o.f = .. -/
def gFld (K : PySem.W.Frag) (to : TE) (f : Str) : TG := fun v σ H Q => to σ H fun x H1 => ∃ a A dx fs, x = .ref a ∧ H1 a = some (.ins A dx fs) ∧ Cls K A ∧ NoAttr K A f ∧ fs.length < 1000 ∧ Q σ (upd H1 a (.ins A dx (putF f v fs)))
theorem pg_fld {o : Expr} {f : Str} {to : TE} {p : Pos} (ho : PE X o to) : PG X (.Attribute o f p) (gFld X.K to f) := by
  refine ⟨fun pins s σ H v u Q I r h => ?_⟩
  rw [arm_assign_Attribute]
  refine wpAny_bind (wpAny_holding (thn (ho.run pins s σ H _ I h) fun ov s1 ⟨x, H1, I1, r1, a, A, dx, fs, ex, ea, c, n, l, q⟩ => ?_))
  subst ex
  obtain rfl : ov = Value.ref a := r1
  refine wpAny_bind (wpAny_standAt (wpAny_bind (wpAny_holding (setattr_ok I1 ea c n l r fun s2 I2 => ?_))))
  exact wpAny_release ⟨σ, _, I2, q⟩
theorem loc_of' (f : FitS C ca n R X W) {x : Str} (h : locB C.sc x = true) : Loc X.env.scope x := by
  rw [f.sc]
  unfold locB at h
  split at h
  · rename_i e; exact .inl e
  · rename_i e; exact .inr e
  · cases h
/-! ### targets -/
theorem g_nm {i : Nat} {x : Str} {p : Pos} (f : FitS C ca n R X W) (h : C.N[i]? = some x) (hl : locB C.sc x = true) (hx : xvB C x = true) : PG X (.Name x p) (tG (kx X ca) W (evG R (.nm i))) := by
  refine ⟨fun pins s σ H v u Q I r h2 => (pg_name (X := X) f.nd (by rw [f.N]; exact h) (loc_of' f hl) (.inl (f.fn x))).run pins s σ H v u Q I r ?_⟩
  obtain ⟨ρ, S, st, d, a, p, D, hD, q⟩ := h2
  rw [evG] at q
  exact hD _ _ (q ρ H _ .refl ⟨a.rel, a.fr.put (f.slot h) (f.put h hx) p⟩)
def gTs (k : Kx) (W : WX) (R : Nat → List D → Sto → Out D) : List TL → TGs
  | [] => gNil
  | .nm i :: is => gCons (gName i) (gTs k W R is)
  | .fl _ o f :: is => gCons (gFld k.K (tE k W (evE R (.var o))) f) (gTs k W R is)
theorem g_names (f : FitS C ca n R X W) : ∀ {is : List TL} {es : List Expr}, chkN C is es = true → PGs X es (gTs (kx X ca) W R is) ∧ (assignEach es X.env).length = is.length ∧ (assignEach es X.env).findIdx? (·.1) = none
  | [], [], _ => ⟨pgs_nil, rfl, rfl⟩
  | [], _ :: _, h => by cases h
  | .nm i :: is, [], h => by cases h
  | .fl _ _ _ :: is, [], h => by cases h
  | .nm i :: is, e :: es, h => by
    cases e with
    | Name x p =>
      have h : (decide (C.N[i]? = some x) && locB C.sc x && xvB C x && chkN C is es) = true := h
      simp only [Bool.and_eq_true, decide_eq_true_eq] at h
      obtain ⟨h1, h2, h3⟩ := g_names f h.2
      refine ⟨pgs_cons (pg_name f.nd (by rw [f.N]; exact h.1.1.1) (loc_of' f h.1.1.2) (.inl (f.fn x))) h1, ?_, ?_⟩
      · show (assignEach es X.env).length + 1 = _
        rw [h2]; rfl
      · show List.findIdx? _ ((false, _) :: assignEach es X.env) = none
        rw [List.findIdx?_cons, h3]
        rfl
    | _ => cases h
  | .fl cs o g :: is, e :: es, h => by
    cases e with
    | Attribute y g' p =>
      cases y with
      | Name x p2 =>
        have h : (decide (g = g') && varB C o (.Name x p2) && (cs.all fun c => C.fls.contains (c, g)) && chkN C is es) = true := h
        simp only [Bool.and_eq_true, decide_eq_true_eq] at h
        obtain ⟨⟨⟨rfl, k1⟩, k2⟩, k3⟩ := h
        obtain ⟨h1, h2, h3⟩ := g_names f k3
        refine ⟨pgs_cons (pg_fld (sndE (ca := ca) (R := R) (n := n) (.var o) (C := C) (e := .Name x p2) k1 f.toFitE).1) h1, ?_, ?_⟩
        · show (assignEach es X.env).length + 1 = _
          rw [h2]; rfl
        · show List.findIdx? _ ((false, _) :: assignEach es X.env) = none
          rw [List.findIdx?_cons, h3]
          rfl
      | _ => cases h
    | _ => cases h
theorem gTs_run (f : FitS C ca n R X W) : ∀ {is : List TL} {es : List Expr} {ds : List D} {vs : List V} {ρ : Lo} {H : Hp} {s s1 : Fr} {S S1 : Sto} {σ : L2.St} {Q : L2.St → Hp → Prop}, chkN C is es = true → setT is ds s S = some (s1, S1) → Reps X.K ρ H ds vs → At (kx X ca) ρ S s σ H →
    (∀ ρ1 H1 σ1, Ext ρ H ρ1 H1 → At (kx X ca) ρ1 S1 s1 σ1 H1 → Q σ1 H1) → gTs (kx X ca) W R is vs σ H Q
  | [], es, [], vs, ρ, H, s, s1, S, S1, σ, Q, hc, e, r, a, q => by cases e; cases r; exact ⟨rfl, q ρ H σ .refl a⟩
  | [], es, _ :: _, vs, ρ, H, s, s1, S, S1, σ, Q, hc, e, r, a, q => by cases e
  | .nm i :: is, es, [], vs, ρ, H, s, s1, S, S1, σ, Q, hc, e, r, a, q => by cases e
  | .fl _ _ _ :: is, es, [], vs, ρ, H, s, s1, S, S1, σ, Q, hc, e, r, a, q => by cases e
  | .nm i :: is, es, d :: ds, vs, ρ, H, s, s1, S, S1, σ, Q, hc, e, r, a, q => by
    obtain ⟨v, w, rfl, h1, h2⟩ := r
    match es, hc with
    | .Name x p :: es, hc =>
      have hc : (decide (C.N[i]? = some x) && locB C.sc x && xvB C x && chkN C is es) = true := hc
      simp only [Bool.and_eq_true, decide_eq_true_eq] at hc
      exact ⟨v, w, rfl, gTs_run f hc.2 (s := s.set i (some d)) e h2 ⟨a.rel, a.fr.put (f.slot hc.1.1.1) (f.put hc.1.1.1 hc.1.2) h1⟩ q⟩
  | .fl cs o g :: is, es, d :: ds, vs, ρ, H, s, s1, S, S1, σ, Q, hc, e, r, a, q => by
    obtain ⟨v, w, rfl, h1, h2⟩ := r
    match es, hc with
    | .Attribute (.Name x p2) g' p :: es, hc =>
      have hc : (decide (g = g') && varB C o (.Name x p2) && (cs.all fun c => C.fls.contains (c, g)) && chkN C is es) = true := hc
      simp only [Bool.and_eq_true, decide_eq_true_eq] at hc
      obtain ⟨⟨⟨rfl, k1⟩, k2⟩, k3⟩ := hc
      unfold setT at e
      split at e
      · rename_i ov hov
        split at e
        · rename_i S2 hst
          refine ⟨v, w, rfl, ρ, S, s, a, ?_⟩
          rw [evE, hov]
          intro z ρ1 H1 e1 r1 p1
          obtain ⟨b, c, dx, gs, rfl, c1, c2, c3, c4, c5⟩ := stF_rep r1 hst p1 (Rep.ext e1 _ _ h1)
          obtain ⟨f1, f2⟩ := f.fl c g (List.contains_iff_mem.mp (List.all_eq_true.mp k2 c c1))
          have e2 := e1.trans c4
          exact ⟨b, _, dx, gs, rfl, c2, f1, f2, c3, gTs_run f k3 e (Reps.ext e2 _ _ h2) (a.ext e2 c5) fun ρ3 H3 σ3 e3 a3 => q ρ3 H3 σ3 (e2.trans e3) a3⟩
        · cases e
      · cases e
theorem setT_len : ∀ {is : List TL} {xs : List D} {s : Fr} {S : Sto} {p : Fr × Sto}, setT is xs s S = some p → xs.length = is.length
  | [], [], _, _, _, _ => rfl
  | [], _ :: _, _, _, _, e => by cases e
  | .nm i :: is, [], _, _, _, e => by cases e
  | .fl _ _ _ :: is, [], _, _, _, e => by cases e
  | .nm i :: is, x :: xs, s, S, p, e => by simp [setT_len (is := is) (xs := xs) (s := s.set i (some x)) e]
  | .fl cs o f :: is, x :: xs, s, S, p, e => by
    unfold setT at e
    split at e
    · split at e
      · simp [setT_len (is := is) (xs := xs) e]
      · cases e
    · cases e
theorem g_tup {is : List TL} {es : List Expr} {j : Nat} {p : Pos} (f : FitS C ca n R X W) (hh : C.hot = false) (h : chkN C is es = true) : PG X (.Tuple es j p) (tG (kx X ca) W (evG R (.tup is))) := by
  obtain ⟨h1, h2, h3⟩ := g_names f h
  refine ⟨fun pins s σ H v u Q I r h4 => ?_⟩
  obtain ⟨ρ, S, st, d, a, pd, D, hD, q⟩ := h4
  unfold evG at q
  dsimp only at q
  split at q
  · rename_i xs hsq
    split at q
    · rename_i s1 hs
      have fin : ∀ {vs : List V}, Reps X.K ρ H xs vs → gTs (kx X ca) W R is vs σ H Q := fun t2 => gTs_run f h hs t2 a fun ρ1 H1 σ1 e1 a1 => hD _ _ (q ρ1 H1 σ1 e1 a1)
      unfold seqOf at hsq
      split at hsq
      · rename_i ys hl
        cases hsq
        obtain ⟨b, vs, rfl, t1, t2⟩ := lv_list a.rel pd hl
        exact (pg_unl (X := X) (k := j) (pos := p) (f.calm hh) h1 h2 h3).run pins s σ H _ u Q I r ⟨b, vs, rfl, t1.sq, by rw [t2.length]; exact setT_len hs, fin t2⟩
      · rename_i ys hl
        cases hsq
        have e' := lv_of hl (fun _ z => nomatch z)
        subst e'
        obtain ⟨b, vs, rfl, t1, t2⟩ := pd
        exact (pg_tup (X := X) (k := j) (pos := p) (f.calm hh) h1 h2 h3).run pins s σ H _ u Q I r ⟨b, vs, rfl, t1.sq, by rw [t2.length]; exact setT_len hs, fin t2⟩
      · cases hsq
    · exact q.elim
  · exact q.elim
theorem set_ok (hu : X.A.units + 100 < cLine) : PSet X fun o i v H Q => ∃ ρ S od id d, Rel X.K ca.ad ρ S H ∧ Rep X.K ρ H od o ∧ Rep X.K ρ H id i ∧ Rep X.K ρ H d v ∧ ∃ S', setD od id d S = .ok () S' ∧ ∀ H', Ext ρ H ρ H' → Rel X.K ca.ad ρ S' H' → Q H' := by
  intro pins s σ H o i v ov iv u Q I ro ri rv h
  obtain ⟨ρ, S, od, id, d, rel, p1, p2, p3, S', e, q⟩ := h
  unfold setD at e
  split at e
  · rename_i n hn
    obtain rfl := locOf_rep hn p1
    split at e
    · rename_i a hs
      obtain ⟨p, rfl, hp, vs, hv, rs⟩ := rel.loc p1 hs
      split at e
      · rename_i k
        split at e
        · rename_i j hj
          cases e
          obtain rfl : i = .int k := p2
          exact set_list pins s σ H _ _ v ov iv u Q I ro ri rv ⟨p, vs, k, j, rfl, rfl, hv, by rw [rs.length]; exact hj, q _ (Ext.write _ (List.mem_of_getElem? hp)) (rel.writeL hp (Reps.set p3 j rs))⟩
        · cases e
      · cases e
    · rename_i kvs hs
      split at e
      · rename_i k hk
        split at e
        · rename_i hz
          cases e
          obtain ⟨m, p, e1, e2, rfl⟩ := p1
          have hm : m = n := by
            have e1 := (PyData.int.inj (Prod.mk.inj (List.cons.inj e1).1).1)
            omega
          subst hm
          obtain ⟨kv, k1, k2, k3, k4⟩ := rel.ob m p _ e2 hs
          obtain rfl := key_rep hk p2
          have kr : KR X.K ρ H kvs kv := ⟨k2, k4⟩
          cases (show ov = Value.ref p from ro)
          refine d_setItem (by omega) I (DPut.k (k := k) (v := v) k1 (by rw [kr.len]; exact hz)) ri rv fun s' I' => ⟨_, I', q _ (.write _ (List.mem_of_getElem? e2)) (rel.write e2 ⟨_, upd_same, ?_, nd_putD k3, ?_⟩)⟩
          · exact (kr.put p3).key
          · exact Reps.ext (.write _ (List.mem_of_getElem? e2)) _ _ (kr.put p3).val
        · cases e
      · cases e
    · cases e
  · cases e
theorem set_nx {o i v : D} {S : Sto} : (∃ S', setD o i v S = .ok () S') ∨ setD o i v S = .bad := by
  unfold setD
  repeat' split
  all_goals first
    | exact .inl ⟨_, rfl⟩
    | exact .inr rfl
theorem g_sub {o i : CE} {a b : Expr} {p : Pos} (f : FitS C ca n R X W) (ho : chkE C o a = true) (hi : chkE C i b = true) : PG X (.Subscript a b p) (tG (kx X ca) W (evG R (.sub o i))) := by
  have eo := (sndE o ho f.toFitE).1
  have ei := (sndE i hi f.toFitE).1
  refine ⟨fun pins s σ H v u Q I r h4 => (pg_sub (X := X) (pos := p) eo ei (set_ok (ca := ca) f.units) ?_).run pins s σ H v u Q I r ?_⟩
  · intro v
    have := chk_noSlice hi
    cases b <;> first
      | rfl
      | (rename_i l hh st q
         cases st with
         | none => exact absurd rfl (this l hh q)
         | some st => rfl)
  obtain ⟨ρ, S, st, d, a, p, D, hD, q⟩ := h4
  rw [evG] at q
  obtain ⟨ρ', S', s', a', q'⟩ := st_step a q
  refine ⟨ρ', S', s', a', q'.imp fun ov H1 ⟨od, ρ1, S1, a1, e1, p1, q1⟩ => ?_⟩
  obtain ⟨ρ2, S2, s2, a2, q2⟩ := st_step a1 q1
  refine ⟨ρ2, S2, s2, a2, q2.imp fun iv H3 ⟨id, ρ3, S3, a3, e3, p3, q3⟩ => ?_⟩
  refine ⟨ρ3, S3, od, id, d, a3.rel, Rep.ext e3 _ _ p1, p3, Rep.ext (e1.trans e3) _ _ p, ?_⟩
  rcases set_nx (o := od) (i := id) (v := d) (S := S3) with ⟨S4, e⟩ | e
  · rw [e, st_ok] at q3
    exact ⟨S4, e, fun H' e' r' => hD _ _ (q3 ρ3 H' _ e' (a3.ext e' r'))⟩
  · rw [e] at q3
    exact q3.elim
theorem g_fld {cs : List Nat} {o : CE} {g : Str} {a : Expr} {p : Pos} (f : FitS C ca n R X W) (hc : ∀ c ∈ cs, (c, g) ∈ C.fls) (ho : chkE C o a = true) : PG X (.Attribute a g p) (tG (kx X ca) W (evG R (.fld cs o g))) := by
  refine ⟨fun pins s σ H v u Q I r h4 => (pg_fld (X := X) (p := p) (sndE o ho f.toFitE).1).run pins s σ H v u Q I r ?_⟩
  obtain ⟨ρ, S, st, d, a, p, D, hD, q⟩ := h4
  rw [evG] at q
  obtain ⟨ρ', S', s', a', q'⟩ := st_step a q
  refine ⟨ρ', S', s', a', q'.imp fun ov H1 ⟨od, ρ1, S1, a1, e1, p1, q1⟩ => ?_⟩
  rcases stF_nx (cs := cs) (ov := od) (x := d) (f := g) (S := S1) with ⟨S4, e⟩ | e
  · rw [e, st_ok] at q1
    obtain ⟨b, c, dx, gs, rfl, c1, c2, c3, c4, c5⟩ := stF_rep a1.rel e p1 (Rep.ext e1 _ _ p)
    obtain ⟨f1, f2⟩ := f.fl c g (hc c c1)
    exact ⟨b, _, dx, gs, rfl, c2, f1, f2, c3, hD _ _ (q1 ρ1 _ _ c4 (a1.ext c4 c5))⟩
  · rw [e] at q1
    exact q1.elim
theorem g_all (f : FitS C ca n R X W) : ∀ {t : CT} {e : Expr}, chkG C t e = true → PG X e (tG (kx X ca) W (evG R t)) := by
  intro t e h
  cases t with
  | nm i =>
    cases e <;> first | exact absurd (show false = true from h) Bool.false_ne_true | skip
    have h : (decide (C.N[i]? = some _) && locB C.sc _ && xvB C _) = true := h
    simp only [Bool.and_eq_true, decide_eq_true_eq] at h
    exact g_nm f h.1.1 h.1.2 h.2
  | tup is =>
    cases e <;> first | exact absurd (show false = true from h) Bool.false_ne_true | skip
    have h : (!C.hot && chkN C is _) = true := h
    simp only [Bool.and_eq_true, Bool.not_eq_true', Bool.not_eq_eq_eq_not] at h
    exact g_tup f h.1 h.2
  | sub o i =>
    cases e <;> first | exact absurd (show false = true from h) Bool.false_ne_true | skip
    have h : (chkE C o _ && chkE C i _) = true := h
    simp only [Bool.and_eq_true] at h
    exact g_sub f h.1 h.2
  | fld cs o g =>
    cases e <;> first | exact absurd (show false = true from h) Bool.false_ne_true | skip
    have h : (decide (g = _) && (cs.all fun c => C.fls.contains (c, g)) && chkE C o _) = true := h
    simp only [Bool.and_eq_true, decide_eq_true_eq, List.all_eq_true] at h
    obtain ⟨⟨rfl, h1⟩, h2⟩ := h
    exact g_fld f (fun c hc => List.contains_iff_mem.mp (h1 c hc)) h2
theorem g_nx {t : CT} (d : D) (s : Fr) (S : Sto) : (∃ s' S', evG R t d s S = .nx s' S') ∨ (∃ c fs s' S', evG R t d s S = .ex c fs s' S') ∨ evG R t d s S = .bad := by
  have key : ∀ {o : Out D} {g : D → Sto → SO}, (∀ x S1, (∃ s' S', g x S1 = .nx s' S') ∨ (∃ c fs s' S', g x S1 = .ex c fs s' S') ∨ g x S1 = .bad) → (∃ s' S', o.st s g = .nx s' S') ∨ (∃ c fs s' S', o.st s g = .ex c fs s' S') ∨ o.st s g = .bad := fun {o g} h => by
    cases o with
    | ok a S1 => exact h a S1
    | ex c fs S1 => exact .inr (.inl ⟨_, _, _, _, rfl⟩)
    | bad => exact .inr (.inr rfl)
  cases t with
  | nm i => exact .inl ⟨_, _, by rw [evG]⟩
  | tup is =>
    unfold evG
    dsimp only
    split
    · split
      · exact .inl ⟨_, _, rfl⟩
      · exact .inr (.inr rfl)
    · exact .inr (.inr rfl)
  | sub o i =>
    rw [evG]
    refine key fun x S1 => key fun y S2 => ?_
    rcases set_nx (o := x) (i := y) (v := d) (S := S2) with ⟨S4, e⟩ | e
    · rw [e]; exact .inl ⟨_, _, rfl⟩
    · rw [e]; exact .inr (.inr rfl)
  | fld cs o g =>
    rw [evG]
    refine key fun x S1 => ?_
    rcases stF_nx (cs := cs) (ov := x) (x := d) (f := g) (S := S1) with ⟨S4, e⟩ | e
    · rw [e]; exact .inl ⟨_, _, rfl⟩
    · rw [e]; exact .inr (.inr rfl)
end
end Cr
set_option Elab.async false
set_option linter.all false
set_option maxHeartbeats 8000000
set_option maxRecDepth 10000
/-! CrG: assignments, stores to fields, raise. -/
namespace Cr
open PySem L2 PyProof.Rows
def isComp : Expr → Bool
  | .ListComp .. => true
  | .SetComp .. => true
  | .DictComp .. => true
  | _ => false
section
variable {X : Cx} {ca : CA} {W : WX} {R : Nat → List D → Sto → Out D} {n N : Nat} {C : Cxt}
theorem asg_post {c : CE} {t : CT} {D : Ends} {σ : L2.St} {H : Hp} (q : tS (kx X ca) W (evS N R (.asg t c)) D σ H) : tAsg (tE (kx X ca) W (evE R c)) (tG (kx X ca) W (evG R t)) D σ H := by
  obtain ⟨ρ, S, s, at_, q⟩ := q
  rw [evS] at q
  obtain ⟨ρ', S', s', a', q'⟩ := st_step at_ q
  refine ⟨ρ', S', s', a', q'.imp fun v H1 ⟨d, ρ1, S1, a1, e1, p1, q1⟩ => ?_⟩
  exact ⟨ρ1, S1, s, d, a1, p1, D, fun _ _ z => z, q1⟩
theorem asg_name {c : CE} {i : Nat} {D : Ends} {σ : L2.St} {H : Hp} (hb : i < ca.nb) (hx : ∀ p, ca.xe = some p → p.1 ≠ i) (q : tS (kx X ca) W (evS N R (.asg (.nm i) c)) D σ H) : tAsg (tE (kx X ca) W (evE R c)) (gName i) D σ H := by
  obtain ⟨ρ, S, s, at_, q⟩ := q
  rw [evS] at q
  obtain ⟨ρ', S', s', a', q'⟩ := st_step at_ q
  refine ⟨ρ', S', s', a', q'.imp fun v H1 ⟨d, ρ1, S1, a1, e1, p1, q1⟩ => ?_⟩
  rw [evG] at q1
  exact q1 ρ1 H1 _ .refl ⟨a1.rel, a1.fr.put hb hx p1⟩
theorem sw_no {v : Expr} {t : Option Expr} {l : Nat} {env : Env} (h : isComp v = false) : swapsWith v t l env = pure false := by
  cases v <;> first
    | rfl
    | (cases h; done)
theorem sw_lc {elt : Expr} {gs : List Comprehension} {scope : Scope} {pos py : Pos} {y : Str} {l : Nat} {env : Env} (hk : env.scope.kind = .function) (h : ¬ (env.scope.names.lookup y = some .local ∧ (py.line == pos.line) = true ∧ (scope.names.any fun (n, k) => n == y && (k == .local || k == .cell)) = false)) :
    swapsWith (.ListComp elt gs scope pos) (some (.Name y py)) l env = pure false := by
  have e : swapsWith (.ListComp elt gs scope pos) (some (.Name y py)) l env = pure (env.blockKind == .function && env.kindOf y == some .local && py.line == (Expr.ListComp elt gs scope pos).pos.line && !(scope.names.any fun (n, k) => n == y && (k == .local || k == .cell))) := rfl
  rw [e]
  congr 1
  have hb : env.blockKind = .function := by unfold Env.blockKind; rw [hk]; rfl
  rw [Bool.eq_false_iff]
  intro z
  simp only [Bool.and_eq_true, Bool.not_eq_true'] at z
  refine h ⟨?_, z.1.2, z.2⟩
  have z2 : (env.scope.names.lookup y == some NameKind.local) = true := z.1.1.2
  cases q : env.scope.names.lookup y with
  | none => rw [q] at z2; cases z2
  | some k => rw [q] at z2; cases k <;> first | rfl | cases z2
theorem sw_dc {k v : Expr} {gs : List Comprehension} {scope : Scope} {pos py : Pos} {y : Str} {l : Nat} {env : Env} (hk : env.scope.kind = .function) (h : ¬ (env.scope.names.lookup y = some .local ∧ (py.line == pos.line) = true ∧ (scope.names.any fun (n, k) => n == y && (k == .local || k == .cell)) = false)) :
    swapsWith (.DictComp k v gs scope pos) (some (.Name y py)) l env = pure false := by
  have e : swapsWith (.DictComp k v gs scope pos) (some (.Name y py)) l env = pure (env.blockKind == .function && env.kindOf y == some .local && py.line == (Expr.DictComp k v gs scope pos).pos.line && !(scope.names.any fun (n, k) => n == y && (k == .local || k == .cell))) := rfl
  rw [e]
  congr 1
  have hb : env.blockKind = .function := by unfold Env.blockKind; rw [hk]; rfl
  rw [Bool.eq_false_iff]
  intro z
  simp only [Bool.and_eq_true, Bool.not_eq_true'] at z
  refine h ⟨?_, z.1.2, z.2⟩
  have z2 : (env.scope.names.lookup y == some NameKind.local) = true := z.1.1.2
  cases q : env.scope.names.lookup y with
  | none => rw [q] at z2; cases z2
  | some k => rw [q] at z2; cases k <;> first | rfl | cases z2
theorem swt_dc {k v : Expr} {gs : List Comprehension} {scope : Scope} {pos py : Pos} {y : Str} {l : Nat} {env : Env} (hk : env.scope.kind = .function) (hy : env.scope.names.lookup y = some .local) (hl : (py.line == pos.line) = true)
    (ha : (scope.names.any fun (n, k) => n == y && (k == .local || k == .cell)) = false) : swapsWith (.DictComp k v gs scope pos) (some (.Name y py)) l env = pure true := by
  have e : swapsWith (.DictComp k v gs scope pos) (some (.Name y py)) l env = pure (env.blockKind == .function && env.kindOf y == some .local && py.line == (Expr.DictComp k v gs scope pos).pos.line && !(scope.names.any fun (n, k) => n == y && (k == .local || k == .cell))) := rfl
  rw [e]
  congr 1
  have hb : env.blockKind = .function := by unfold Env.blockKind; rw [hk]; rfl
  have ky : env.kindOf y = some .local := hy
  have hl' : (py.line == (Expr.DictComp k v gs scope pos).pos.line) = true := hl
  rw [hb, ky, hl', ha]
  rfl
/-- name = {..} on one row, the name a local -/
theorem ps_dcs {i : Nat} {y : Str} {py : Pos} {kx vx tg iter : Expr} {ifs : List Expr} {scope : Scope} {own : List (Str × Nat)} {pos spos : Pos} {wi : TI} {g : TG} {tt : TT} {tk tv : TE} (hc : X.calm = true) (hN : X.N.Nodup) (hy : X.N[i]? = some y) (hyl : X.env.scope.names.lookup y = some .local)
    (hsw : swapsWith (.DictComp kx vx [⟨tg, iter, ifs, 0⟩] scope pos) (some (.Name y py)) spos.line X.env = pure true) (hi : PI X tg iter wi) (ok : BlkOk X.N X.env.scope scope own)
    (hg : ∀ (s : Shared) (H : Hp) (C : Addr) (cl : List (Str × Addr)) (fp : List Addr), PG (X.blk s H scope (compEnvC scope cl C X.env) fp) tg g) (ht : ∀ (s : Shared) (H : Hp) (C : Addr) (cl : List (Str × Addr)) (fp : List Addr), PTs (X.blk s H scope (compEnvC scope cl C X.env) fp) ifs tt)
    (hk : ∀ (s : Shared) (H : Hp) (C : Addr) (cl : List (Str × Addr)) (fp : List Addr), PE (X.blk s H scope (compEnvC scope cl C X.env) fp) kx tk)
    (he : ∀ (s : Shared) (H : Hp) (C : Addr) (cl : List (Str × Addr)) (fp : List Addr), PE (X.blk s H scope (compEnvC scope cl C X.env) fp) vx tv) (hs : ∀ x, foldedSetIterable iter X.env x = pure x) :
    PS X (.Assign [.Name y py] (.DictComp kx vx [⟨tg, iter, ifs, 0⟩] scope pos) spos) (tAsg (tDc wi g tt tk tv (own.map (·.2))) (gName i)) := by
  refine ⟨fun pins s σ H D I h => ?_⟩
  rw [exec_Assign_Name_used _ _ _ _ hsw]
  refine wpAny_bind (wpAny_standAt (wpAny_bind ?_))
  have h : tDc wi g tt tk tv (own.map (·.2)) σ H (fun x H1 => gName i x σ H1 D.nx) := h
  refine wpAny_bind (thn (dc_core (Qf := fun _ s' => SP X pins D .next s') (use := some (assign (.Name y py) X.env)) hc hN I hi ok hg ht hk he hs h fun L C s' m H' I' q hn f => ?_) fun _ s' hq => wpAny_pure (wpAny_pure hq))
  show wpAny _ _ (assign (.Name y py) X.env (.ref L)) _ _ _
  refine wpAny_assign_Name (store_ok2 (v := V.ref L) I' hN hy (.inl hyl) rfl (fun s2 I2 ⟨a, sb, ha⟩ => ?_) (.inr hyl))
  have haC : C ≠ a := by
    rcases ha with z | z
    · rw [z]; exact f.2.1
    · exact fun e => f.2.2.2.2.1 y a z e.symm
  refine ⟨m, hn.sameBut sb haC, fun h3 sb3 => ?_⟩
  exact ⟨_, H', I2.turned (t' := s2.toks) (fun b o hb e => (sb3.2 b hb).trans e) f.1 f.2.1 f.2.2.2.1 f.2.2.2.2.1 f.2.2.2.2.2, q⟩
theorem a_lcT {i : Nat} {y : Str} {py spos : Pos} {al : Bool} {ts : List Nat} {tu : Bool} {tg iter e' : Expr} {fs : List Expr} {scope : Scope} {pos : Pos} {mI : Fr → Sto → Out (D × List D)} {mT : Fr → Sto → Out Bool} {mE : Fr → Sto → Out D} (f : FitE C ca n R X W) (hh : C.hot = false) (h : chkT C scope ts tu tg = true) (hi : PI X tg iter (tI (kx X ca) W mI))
    (ht : ∀ (s : Shared) (H : Hp) (D : Addr) (cl : List (Str × Addr)) (fp : List Addr), PTs (X.blk s H scope (compEnvC scope cl D X.env) fp) fs (fun σ H Q => ∃ ρ S s, At (kx X ca) ρ S s σ H ∧ postB (kx X ca) noW σ ρ H (mT s S) Q))
    (he : ∀ (s : Shared) (H : Hp) (D : Addr) (cl : List (Str × Addr)) (fp : List Addr), PE (X.blk s H scope (compEnvC scope cl D X.env) fp) e' (tE (kx X ca) noW mE)) (hs : ∀ v, foldedSetIterable iter X.env v = pure v)
    (hy : X.N[i]? = some y) (hyl : X.env.scope.names.lookup y = some .local) (hsw : swapsWith (.ListComp e' [⟨tg, iter, fs, 0⟩] scope pos) (some (.Name y py)) spos.line X.env = pure true) :
    PS X (.Assign [.Name y py] (.ListComp e' [⟨tg, iter, fs, 0⟩] scope pos) spos) (tAsg (tE (kx X ca) W fun f S => (mI f S).bind fun p S1 => if p.2.length ≤ sizeLine then (lcL p.1 p.2 (turnG true ts tu mT (fun f3 S3 => (mE f3 S3).bind fun y S4 => .ok (some y) S4) f) p.2 S1).bind fun ys S5 => mkL al ys S5 else .bad) (gName i)) := by
  obtain ⟨ns, n1, n2, n3, n4, n5, n6⟩ := chkT_of h
  have ok := blkOk_by n3
  rw [← f.N, ← f.sc] at ok
  have hg : ∀ (s : Shared) (H : Hp) (D : Addr) (cl : List (Str × Addr)) (fp : List Addr), PG (X.blk s H scope (compEnvC scope cl D X.env) fp) tg (gT X.K ts tu) := fun s H D cl fp => tg_all (X' := X.blk s H scope (compEnvC scope cl D X.env) fp) (C := C) (scope := scope) (f.calm hh) f.N f.nd (by rw [← f.sc]; rfl) (fun y hy => by show (scope.names.lookup y == some NameKind.cell) = true; rw [hy]; rfl) n1 n2 n5 n6
  have gk : GOk (kx X ca) ts tu (gT X.K ts tu) := gT_ok (k := kx X ca) (f.xe hh) fun i hi => by show i < ca.nb; rw [f.nb]; exact chkT_lt n2 n5 i hi
  have := ps_setLc (pos := pos) (py := py) (spos := spos) (f.calm hh) f.nd hy hyl hsw hi ok hg ht he hs
  rw [n4] at this
  exact PS.imp this fun DD σ H q => lcg_imp (nx := true) (al := al) (f.xs hh) (f.xe hh) gk (fun z => nomatch z) q
theorem a_lcX {i : Nat} {y : Str} {py spos : Pos} {al : Bool} {ts : List Nat} {tu : Bool} {tg iter e' : Expr} {fs : List Expr} {scope : Scope} {pos : Pos} {mI : Fr → Sto → Out (D × List D)} {mT : Fr → Sto → Out Bool} {mE : Fr → Sto → Out D} (f : FitE C ca n R X W) (hh : C.hot = false) (hb : C.blk = false) (h : chkT C scope ts tu tg = true) (hi : PI X tg iter (tI (kx X ca) W mI))
    (ht : ∀ (s : Shared) (H : Hp) (D : Addr) (cl : List (Str × Addr)) (fp : List Addr) (xe : Value → Shared → Prop) (W' : WX), Takes (blkX X s H scope (compEnvC scope cl D X.env) fp xe) W' → PTs (blkX X s H scope (compEnvC scope cl D X.env) fp xe) fs (fun σ H Q => ∃ ρ S s, At (kx X ca) ρ S s σ H ∧ postB (kx X ca) W' σ ρ H (mT s S) Q))
    (he : ∀ (s : Shared) (H : Hp) (D : Addr) (cl : List (Str × Addr)) (fp : List Addr) (xe : Value → Shared → Prop) (W' : WX), Takes (blkX X s H scope (compEnvC scope cl D X.env) fp xe) W' → PE (blkX X s H scope (compEnvC scope cl D X.env) fp xe) e' (tE (kx X ca) W' mE)) (hs : ∀ v, foldedSetIterable iter X.env v = pure v)
    (hy : X.N[i]? = some y) (hyl : X.env.scope.names.lookup y = some .local) (hsw : swapsWith (.ListComp e' [⟨tg, iter, fs, 0⟩] scope pos) (some (.Name y py)) spos.line X.env = pure true) :
    PS X (.Assign [.Name y py] (.ListComp e' [⟨tg, iter, fs, 0⟩] scope pos) spos) (tAsg (tE (kx X ca) W fun f S => (mI f S).bind fun p S1 => if p.2.length ≤ sizeLine then (lcL p.1 p.2 (turnG false ts tu mT (fun f3 S3 => (mE f3 S3).bind fun y S4 => .ok (some y) S4) f) p.2 S1).bind fun ys S5 => mkL al ys S5 else .bad) (gName i)) := by
  obtain ⟨ns, n1, n2, n3, n4, n5, n6⟩ := chkT_of h
  have ok := blkOk_by n3
  rw [← f.N, ← f.sc] at ok
  have hg : ∀ (s : Shared) (H : Hp) (D : Addr) (cl : List (Str × Addr)) (fp : List Addr) (xe : Value → Shared → Prop), PG (blkX X s H scope (compEnvC scope cl D X.env) fp xe) tg (gT X.K ts tu) := fun s H D cl fp xe => tg_all (X' := blkX X s H scope (compEnvC scope cl D X.env) fp xe) (C := C) (scope := scope) (f.calm hh) f.N f.nd (by rw [← f.sc]; rfl) (fun y hy => by show (scope.names.lookup y == some NameKind.cell) = true; rw [hy]; rfl) n1 n2 n5 n6
  have gk : GOk (kx X ca) ts tu (gT X.K ts tu) := gT_ok (k := kx X ca) (f.xe hh) fun i hi => by show i < ca.nb; rw [f.nb]; exact chkT_lt n2 n5 i hi
  have := ps_lcx (pos := pos) (py := py) (spos := spos) (tt := fun W' σ H Q => ∃ ρ S s, At (kx X ca) ρ S s σ H ∧ postB (kx X ca) W' σ ρ H (mT s S) Q) (te := fun W' => tE (kx X ca) W' mE) (f.calm hh) f.nd (f.own hh hb) f.tk hy hyl hsw hi ok hg ht he hs
  rw [n4] at this
  exact PS.imp this fun DD σ H q => lcg_imp (nx := false) (al := al) (Wb := wOut W σ) (f.xs hh) (f.xe hh) gk (fun _ cls d σ' H z => z) q
theorem a_dcT {i : Nat} {y : Str} {py spos : Pos} {ts : List Nat} {tu : Bool} {tg iter e1 e2 : Expr} {fs : List Expr} {scope : Scope} {pos : Pos} {mI : Fr → Sto → Out (D × List D)} {mT : Fr → Sto → Out Bool} {mK mV : Fr → Sto → Out D} (f : FitE C ca n R X W) (hh : C.hot = false) (h : chkT C scope ts tu tg = true) (hi : PI X tg iter (tI (kx X ca) W mI))
    (ht : ∀ (s : Shared) (H : Hp) (D : Addr) (cl : List (Str × Addr)) (fp : List Addr), PTs (X.blk s H scope (compEnvC scope cl D X.env) fp) fs (fun σ H Q => ∃ ρ S s, At (kx X ca) ρ S s σ H ∧ postB (kx X ca) noW σ ρ H (mT s S) Q))
    (hk : ∀ (s : Shared) (H : Hp) (D : Addr) (cl : List (Str × Addr)) (fp : List Addr), PE (X.blk s H scope (compEnvC scope cl D X.env) fp) e1 (tE (kx X ca) noW mK))
    (hv : ∀ (s : Shared) (H : Hp) (D : Addr) (cl : List (Str × Addr)) (fp : List Addr), PE (X.blk s H scope (compEnvC scope cl D X.env) fp) e2 (tE (kx X ca) noW mV)) (hs : ∀ v, foldedSetIterable iter X.env v = pure v)
    (hy : X.N[i]? = some y) (hyl : X.env.scope.names.lookup y = some .local) (hsw : swapsWith (.DictComp e1 e2 [⟨tg, iter, fs, 0⟩] scope pos) (some (.Name y py)) spos.line X.env = pure true) :
    PS X (.Assign [.Name y py] (.DictComp e1 e2 [⟨tg, iter, fs, 0⟩] scope pos) spos) (tAsg (tE (kx X ca) W fun f S => (mI f S).bind fun p S1 => if p.2.length < sizeLine then (lcL p.1 p.2 (turnG true ts tu mT (fun f3 S3 => (mK f3 S3).bind fun a S4 => (mV f3 S4).bind fun b S5 => pairD a b S5) f) p.2 S1).bind fun ps S5 => newO (.dic (mergeD [] ps)) S5 else .bad) (gName i)) := by
  obtain ⟨ns, n1, n2, n3, n4, n5, n6⟩ := chkT_of h
  have ok := blkOk_by n3
  rw [← f.N, ← f.sc] at ok
  have hg : ∀ (s : Shared) (H : Hp) (D : Addr) (cl : List (Str × Addr)) (fp : List Addr), PG (X.blk s H scope (compEnvC scope cl D X.env) fp) tg (gT X.K ts tu) := fun s H D cl fp => tg_all (X' := X.blk s H scope (compEnvC scope cl D X.env) fp) (C := C) (scope := scope) (f.calm hh) f.N f.nd (by rw [← f.sc]; rfl) (fun y hy => by show (scope.names.lookup y == some NameKind.cell) = true; rw [hy]; rfl) n1 n2 n5 n6
  have gk : GOk (kx X ca) ts tu (gT X.K ts tu) := gT_ok (k := kx X ca) (f.xe hh) fun i hi => by show i < ca.nb; rw [f.nb]; exact chkT_lt n2 n5 i hi
  have := ps_dcs (pos := pos) (py := py) (spos := spos) (f.calm hh) f.nd hy hyl hsw hi ok hg ht hk hv hs
  rw [n4] at this
  exact PS.imp this fun DD σ H q => dcg_imp (f.xs hh) (f.xe hh) gk q
theorem z_asgN {i : Nat} {c : CE} {y : Str} {py : Pos} {e : Expr} {pos : Pos} (f : FitS C ca n R X W) (hg : chkG C (.nm i) (.Name y py) = true) (hc : chkE C c e = true) : PS X (.Assign [.Name y py] e pos) (tS (kx X ca) W (evS N R (.asg (.nm i) c))) := by
  have he := (sndE c hc f.toFitE).1
  have hg : (decide (C.N[i]? = some y) && locB C.sc y && xvB C y) = true := hg
  simp only [Bool.and_eq_true, decide_eq_true_eq] at hg
  have hN : X.N[i]? = some y := by rw [f.N]; exact hg.1.1
  have fe := f.toFitE
  have hb := fe.slot hg.1.1
  have hx := fe.put hg.1.1 hg.2
  have fin : swapsWith e (some (.Name y py)) pos.line X.env = pure false → PS X (.Assign [.Name y py] e pos) (tS (kx X ca) W (evS N R (.asg (.nm i) c))) := fun h => PS.imp (ps_set f.nd hN (loc_of' f hg.1.2) he h (.inl (f.fn y))) fun D σ H q => asg_name hb hx q
  by_cases hl : isComp e = false
  · exact fin (sw_no hl)
  cases e <;> first
    | exact absurd rfl hl
    | (cases c <;> exact absurd (show false = true from hc) Bool.false_ne_true)
    | skip
  · rename_i elt gs scope p2
    by_cases hs : X.env.scope.names.lookup y = some .local ∧ (py.line == p2.line) = true ∧ (scope.names.any fun (n, k) => n == y && (k == .local || k == .cell)) = false
    · have sw := sw_true (elt := elt) (gs := gs) (l := pos.line) f.kind hs.1 hs.2.1 hs.2.2
      cases c <;> first
        | exact absurd (show false = true from hc) Bool.false_ne_true
        | skip
      · rename_i al tg it ifs ce
        unfold chkE at hc
        split at hc <;> try contradiction
        rename_i e' x p1 iter fs scope p2 heq
        cases heq
        simp only [Bool.and_eq_true, decide_eq_true_eq, Bool.not_eq_true', Bool.not_eq_eq_eq_not] at hc
        obtain ⟨⟨⟨⟨⟨⟨⟨hh, h1⟩, h2⟩, h3⟩, h4⟩, h5⟩, h6⟩, h7⟩ := hc
        have hw := pi_walked (tg := .Name x p1) (sndE it h5 fe).1
        have ok := blkOk_by h3
        rw [← fe.N, ← fe.sc] at ok
        have ht := fun s H D cl fp => lc_tests (X := X.blk s H scope (compEnvC scope cl D X.env) fp) (ca := ca) (R := R) (W := noW) h1 h6 fun c e q z => (sndT ifs (fe.blk hh s H scope cl D fp) c e q z).2
        have he := fun s H D cl fp => (sndE ce h7 (fe.blk hh s H scope cl D fp)).1
        exact PS.imp (lc_asg (al := al) (tg := tg) (fe.xs hh) (fe.xe hh) (fe.slot h2) (fe.calm hh) fe.nd hw ok (lc_name fe h2 h4) ht he hN hs.1 sw (chk_noSet h5 _)) fun D σ H q => asg_name hb hx q
      · rename_i al tg rg ifs ce
        unfold chkE at hc
        split at hc <;> try contradiction
        rename_i e' x p1 nm p3 args p4 fs scope p2 heq
        cases heq
        simp only [Bool.and_eq_true, Bool.or_eq_true, decide_eq_true_eq, Bool.not_eq_true', Bool.not_eq_eq_eq_not] at hc
        obtain ⟨⟨⟨⟨⟨⟨⟨⟨⟨⟨hh, h1⟩, h2⟩, h3⟩, h4⟩, rfl⟩, h8⟩, h9⟩, h5⟩, h6⟩, h7⟩ := hc
        have hw := pi_rg (p := p3) (pos := p4) (tg := .Name x p1) fe h8 h9 h5 (sndEs rg h5 fe)
        have ok := blkOk_by h3
        rw [← fe.N, ← fe.sc] at ok
        have ht := fun s H D cl fp => lc_tests (X := X.blk s H scope (compEnvC scope cl D X.env) fp) (ca := ca) (R := R) (W := noW) h1 h6 fun c e q z => (sndT ifs (fe.blk hh s H scope cl D fp) c e q z).2
        have he := fun s H D cl fp => (sndE ce h7 (fe.blk hh s H scope cl D fp)).1
        exact PS.imp (lc_asg (al := al) (tg := tg) (fe.xs hh) (fe.xe hh) (fe.slot h2) (fe.calm hh) fe.nd hw ok (lc_name fe h2 h4) ht he hN hs.1 sw (fun v => rfl)) fun D σ H q => asg_name hb hx q
      · rename_i nx al rg ts tu its ifs ce
        unfold chkE at hc
        split at hc <;> try contradiction
        rename_i e' tg iter fs scope p2 heq
        cases heq
        simp only [Bool.and_eq_true, decide_eq_true_eq, Bool.not_eq_true', Bool.not_eq_eq_eq_not, Bool.or_eq_true] at hc
        obtain ⟨⟨⟨⟨⟨⟨hh, h0⟩, h1⟩, h2⟩, h3⟩, h4⟩, h5⟩ := hc
        split at h3 <;> try contradiction
        rename_i args ha
        obtain ⟨hi, hs'⟩ := pi_it (tg := tg) fe ha h3 (sndEs its h3 fe) fun c e q z => (sndT its fe c e q z).1
        cases nx with
        | true =>
          have ht := fun s H D cl fp => lc_tests (X := X.blk s H scope (compEnvC scope cl D X.env) fp) (ca := ca) (R := R) (W := noW) h1 h4 fun c e q z => (sndT ifs (fe.blk hh s H scope cl D fp) c e q z).2
          have he := fun s H D cl fp => (sndE ce h5 (fe.blk hh s H scope cl D fp)).1
          exact PS.imp (a_lcT (al := al) fe hh h2 hi ht he (hs' _) hN hs.1 sw) fun D σ H q => asg_name (N := N) (R := R) (c := .lcg true al rg ts tu its ifs ce) hb hx q
        | false =>
          have ht := fun s H D cl fp xe W' tk => lc_tests (X := blkX X s H scope (compEnvC scope cl D X.env) fp xe) (ca := ca) (R := R) (W := W') h1 h4 fun c e q z => (sndT ifs (fe.blkX hh s H scope cl D fp xe tk) c e q z).2
          have he := fun s H D cl fp xe W' tk => (sndE ce h5 (fe.blkX (W' := W') hh s H scope cl D fp xe tk)).1
          exact PS.imp (a_lcX (al := al) fe hh f.blk h2 hi ht he (hs' _) hN hs.1 sw) fun D σ H q => asg_name (N := N) (R := R) (c := .lcg false al rg ts tu its ifs ce) hb hx q
    · exact fin (sw_lc f.kind hs)
  · rename_i k v gs scope p2
    by_cases hs : X.env.scope.names.lookup y = some .local ∧ (py.line == p2.line) = true ∧ (scope.names.any fun (n, k) => n == y && (k == .local || k == .cell)) = false
    · have sw := swt_dc (k := k) (v := v) (gs := gs) (l := pos.line) f.kind hs.1 hs.2.1 hs.2.2
      cases c <;> first
        | exact absurd (show false = true from hc) Bool.false_ne_true
        | skip
      rename_i rg ts tu its ifs ck cv
      unfold chkE at hc
      split at hc <;> try contradiction
      rename_i e1 e2 tg iter fs scope p2 heq
      cases heq
      simp only [Bool.and_eq_true, decide_eq_true_eq, Bool.not_eq_true', Bool.not_eq_eq_eq_not] at hc
      obtain ⟨⟨⟨⟨⟨⟨hh, h1⟩, h2⟩, h3⟩, h4⟩, h5⟩, h6⟩ := hc
      split at h3 <;> try contradiction
      rename_i args ha
      obtain ⟨hi, hs'⟩ := pi_it (tg := tg) fe ha h3 (sndEs its h3 fe) fun c e q z => (sndT its fe c e q z).1
      have ht := fun s H D cl fp => lc_tests (X := X.blk s H scope (compEnvC scope cl D X.env) fp) (ca := ca) (R := R) (W := noW) h1 h4 fun c e q z => (sndT ifs (fe.blk hh s H scope cl D fp) c e q z).2
      have hk := fun s H D cl fp => (sndE ck h5 (fe.blk hh s H scope cl D fp)).1
      have hv := fun s H D cl fp => (sndE cv h6 (fe.blk hh s H scope cl D fp)).1
      exact PS.imp (a_dcT fe hh h2 hi ht hk hv (hs' _) hN hs.1 sw) fun D σ H q => asg_name (N := N) (R := R) (c := .dcg rg ts tu its ifs ck cv) hb hx q
    · exact fin (sw_dc f.kind hs)
/-! ### o.f op= e -/
theorem z_fag {cs : List Nat} {o c : CE} {g : Str} {op : Operator} {a e : Expr} {p pos : Pos} (f : FitS C ca n R X W) (hcs : ∀ c ∈ cs, (c, g) ∈ C.fls) (ho : chkE C o a = true) (hc : chkE C c e = true) : PS X (.AugAssign (.Attribute a g p) op e pos) (tS (kx X ca) W (evS N R (.fag cs o g op c))) := by
  refine PS.imp (ps_fldaug (rd := rB (kx X ca) (augD op)) (sndE o ho f.toFitE).1 (sndE c hc f.toFitE).1 (fun pins s σ H x y u v Q I r1 r2 h => aug_ok (ca := ca) op pins s σ H x y u v Q I r1 r2 h)) fun D σ H q => ?_
  obtain ⟨ρ, S, s, at_, q⟩ := q
  rw [evS] at q
  obtain ⟨ρ', S', s', a', q'⟩ := st_step at_ q
  refine ⟨ρ', S', s', a', q'.imp fun x H1 ⟨d, ρ1, S1, a1, e1, p1, q1⟩ => ?_⟩
  unfold fldD at q1
  split at q1
  · rename_i p hp
    split at q1
    · rename_i hcc
      split at q1
      · rename_i w hw
        rw [st_ok] at q1
        obtain ⟨m, b, _, _, rfl, _, dx, fs', h1, h2, h3⟩ := insOf_rep a1.rel hp p1
        obtain ⟨v', k1, k2⟩ := lookup_reps h2 h3 hw
        obtain ⟨g1, g2⟩ := f.fl p.1 g (hcs _ (List.contains_iff_mem.mp hcc))
        refine ⟨b, _, dx, fs', v', rfl, h1, g1, g2, k1, ?_⟩
        obtain ⟨ρ2, S2, s2, a2, q2⟩ := st_step a1 q1
        refine ⟨ρ2, S2, s2, a2, q2.imp fun y H2 ⟨d2, ρ3, S3, a3, e3, p3, q3⟩ => ?_⟩
        refine ⟨ρ3, S3, w, d2, a3.rel, Rep.ext e3 _ _ k2, p3, ?_⟩
        cases eo : augD op w d2 S3 with
        | bad => rw [eo] at q3; exact q3.elim
        | ex c fs S4 => exact absurd eo (aug_nx _ _ _ _ _ _ _)
        | ok z S4 =>
          rw [eo, st_ok] at q3
          intro zv ρ4 H4 e4 r4 p4
          have ecl : clsL d S1 = [p.1] := by unfold clsL; rw [hp]
          rw [ecl] at q3
          rcases stF_nx (cs := [p.1]) (ov := d) (x := z) (f := g) (S := S4) with ⟨S5, es⟩ | es
          · rw [es, st_ok] at q3
            obtain ⟨b', c', dx', gs, eb, c1, c2, c3, c4, c5⟩ := stF_rep r4 es (Rep.ext (e3.trans e4) _ _ p1) p4
            cases eb
            obtain rfl := List.mem_singleton.mp c1
            exact ⟨dx', gs, c2, c3, q3 ρ4 _ σ (e4.trans c4) ((a3.ext e4 r4).ext c4 c5)⟩
          · rw [es] at q3
            exact q3.elim
      · exact q1.elim
    · exact q1.elim
  · exact q1.elim
end
end Cr
set_option Elab.async false
set_option linter.all false
set_option maxHeartbeats 8000000
set_option maxRecDepth 10000
/-! Cr19: bodies are sound. -/
namespace Cr
open PySem L2 PyProof.Rows
def isTup : Expr → Bool
  | .Tuple .. => true
  | _ => false
def asgB (t : CT) (e : Expr) : Bool := match t with
  | .tup _ => !isTup e
  | _ => true
/-- a clause's suite -/
def Cxt.suite (C : Cxt) (cs : List Nat) (nm : Option Str) (hd : List (Str × Nat)) : Cxt := { C with hot := true, xv := nm.map fun n => (n, cs), xh := hd }
def chkA (C : Cxt) (sl : Option Nat) (nm : Option Str) (hd : List (Str × Nat)) : Bool := match sl, nm with
  | none, none => hd.isEmpty
  | some i, some n => decide (C.N[i]? = some n) && decide (C.sc.names.lookup n = some .local)
  | _, _ => false
/-- the kinds of try that there are rules for: clauses without names and else; one clause with a name -/
def formB (hs : List ExceptHandler) (els : List CS) (orelse : List Stmt) : Bool := bareB hs || (decide (hs.length = 1) && (els.isEmpty && orelse.isEmpty))
mutual
def chkS (C : Cxt) : CS → Stmt → Bool
  | .exp c, s => match s with
    | .Expr e _ => !isComp e && chkE C c e
    | _ => false
  | .asg t c, s => match s with
    | .Assign [tg] e _ => asgB t e && chkG C t tg && chkE C c e
    | _ => false
  | .par i j a b, s => match s with
    | .Assign [.Tuple [.Name x px, .Name y py] _ _] (.Tuple [e, g] _ _) _ => !C.hot && decide (C.N[i]? = some x) && decide (C.N[j]? = some y) && decide (x ≠ y) && decide (C.sc.names.lookup x = some .local) && decide (C.sc.names.lookup y = some .local) && decide (px.line = py.line) &&
      !(foldedForSure 8 e && foldedForSure 8 g) && !(constantsAlone 8 e && constantsAlone 8 g) && chkE C a e && chkE C b g
    | _ => false
  | .aug i op c, s => match s with
    | .AugAssign (.Name x _) o e _ => decide (op = o) && decide (C.N[i]? = some x) && locB C.sc x && xvB C x && chkE C c e
    | _ => false
  | .ret c, s => match s with
    | .Return (some e) _ => chkE C c e
    | .Return none _ => (match c with
      | .con .none => true
      | _ => false)
    | _ => false
  | .ife c a b, s => match s with
    | .If e sa sb _ => chkE C c e && chkB C a sa && chkB C b sb
    | _ => false
  | .whl c b, s => match s with
    | .While e sb [] _ => chkE C c e && chkB C b sb
    | _ => false
  | .fro t c b, s => match s with
    | .For tg e sb [] _ => !C.hot && chkG C t tg && chkE C c e && chkB C b sb
    | _ => false
  | .frr t rg b, s => match s with
    | .For tg (.Call (.Name nm _) args [] _) sb [] _ => !C.hot && chkG C t tg && decide (nm = "range") && glB C.sc "range" && (decide (rg.length = 1) || decide (rg.length = 2)) && chkEs C rg args && chkB C b sb
    | _ => false
  | .fag cs o f op c, s => match s with
    | .AugAssign (.Attribute a g _) o2 e _ => decide (op = o2) && decide (f = g) && (cs.all fun c => C.fls.contains (c, f)) && chkE C o a && chkE C c e
    | _ => false
  | .rai c fl xs, s => match s with
    | .Raise (some (.Call (.Name x _) args [] _)) none _ => !C.hot && (match fl with
      | some ns => decide (ns.length = xs.length) && decide (ns.length ≤ 900)
      | none => false) && C.exc.contains (x, c, fl) && glB C.sc x && !(x == ("__debug__" : Str)) && !args.isEmpty && chkEs C xs args
    | _ => false
  | .tri b h els, s => match s with
    | .Try body (h0 :: hs) orelse [] _ => !C.hot && formB (h0 :: hs) els orelse && chkB C b body && chkH C h (h0 :: hs) && chkB C els orelse
    | _ => false
  | .hnd _ _ _ _ _ _, _ => false
  | .brk, s => match s with
    | .Break _ => true
    | _ => false
  | .cnt, s => match s with
    | .Continue _ => true
    | _ => false
  | .pss, s => match s with
    | .Expr (.Constant (.str _) _ _) _ => true
    | .Pass _ => true
    | _ => false
def chkH (C : Cxt) : CS → List ExceptHandler → Bool
  | .hnd cs ds sl hd b nx, hs => match hs with
    | .ExceptHandler (some (.Name x _)) nm (b0 :: suite) _ :: r => glB C.sc x && !(x == ("__debug__" : Str)) && subB C.toGb x cs ds && (hd.all fun p => decide (C.N.length ≤ p.2)) && decide ((hd.map (·.2)).Nodup) && chkA C sl nm hd && chkB (C.suite cs nm hd) b (b0 :: suite) && chkH C nx r
    | _ => false
  | .pss, hs => hs.isEmpty
  | _, _ => false
def chkB (C : Cxt) : List CS → List Stmt → Bool
  | [], [] => true
  | c :: r, s :: t => chkS C c s && chkB C r t
  | _, _ => false
end
section
variable {ca : CA} {R : Nat → List D → Sto → Out D} {n N : Nat} {C : Cxt} {X : Cx} {W : WX}
theorem sw_att {e a : Expr} {g : Str} {p : Pos} {l : Nat} {env : Env} : swapsWithSole [.Attribute a g p] e l env = pure false := by cases e <;> rfl
theorem st_att {e a : Expr} {g : Str} {p : Pos} {env : Env} : swappedStores [.Attribute a g p] e env = pure none := by cases e <;> rfl
theorem Reps.reverse {K : PySem.W.Frag} {ρ : Lo} {H : Hp} : ∀ {ds : List D} {vs : List V}, Reps K ρ H ds vs → Reps K ρ H ds.reverse vs.reverse
  | [], vs, h => by rw [show vs = [] from h]; exact rfl
  | d :: ds, vs, h => by
    obtain ⟨v, w, rfl, h1, h2⟩ := h
    rw [List.reverse_cons, List.reverse_cons]
    exact (Reps.reverse h2).append (.one h1)
theorem mk_heap {H1 : Hp} {a d : Addr} {x y z w : HO} (ha : H1 a = none) (hd : d ≠ a) : upd (del (upd (upd (upd H1 a x) d y) a z) a) d w = upd H1 d w := by
  funext b
  by_cases h1 : b = d
  · rw [h1, upd_same, upd_same]
  · rw [upd_ne h1, upd_ne h1]
    by_cases h2 : b = a
    · rw [h2, del_same, ha]
    · rw [del_ne h2, upd_ne h2, upd_ne h1, upd_ne h2]
theorem z_aug {i : Nat} {op : Operator} {c : CE} {x : Str} {p : Pos} {e : Expr} {pos : Pos} (f : FitS C ca n R X W) (hN : C.N[i]? = some x) (hl : locB C.sc x = true) (hx : xvB C x = true) (hc : chkE C c e = true) : PS X (.AugAssign (.Name x p) op e pos) (tS (kx X ca) W (evS N R (.aug i op c))) := by
  refine PS.imp (ps_aug (ti := rB (kx X ca) (augD op)) f.nd (by rw [f.N]; exact hN) (loc_of' f hl) (sndE c hc f.toFitE).1 (aug_ok op) (.inl (f.fn x))) fun D σ H q => ?_
  obtain ⟨ρ, S, s, at_, q⟩ := q
  rw [evS] at q
  split at q
  · rename_i d hd
    obtain ⟨v, hv, pv⟩ := at_.fr.at_ i d (f.slot hN) hd
    refine ⟨v, hv, ?_⟩
    obtain ⟨ρ', S', s', a', q'⟩ := st_step at_ q
    refine ⟨ρ', S', s', a', q'.imp fun y H1 ⟨d2, ρ1, S1, a1, e1, p1, q1⟩ => ?_⟩
    refine ⟨ρ1, S1, d, d2, a1.rel, Rep.ext e1 _ _ pv, p1, ?_⟩
    cases eo : augD op d d2 S1 with
    | bad => rw [eo] at q1; exact q1.elim
    | ex c fs S2 => exact absurd eo (aug_nx _ _ _ _ _ _ _)
    | ok z S2 =>
      rw [eo, st_ok] at q1
      exact fun w ρ2 H2 e2 r2 p2 => q1 ρ2 H2 _ e2 ⟨r2, (a1.ext e2 r2).fr.put (f.slot hN) (f.put hN hx) p2⟩
  · exact q.elim
theorem swapped_two {x y : Str} {px py pt pos2 : Pos} {kt k2 : Nat} {a b : Expr} {env : Env} (hk : env.scope.kind = .function) (hxy : x ≠ y) (hx : env.scope.names.lookup x = some .local) (hy : env.scope.names.lookup y = some .local) (hl : px.line = py.line)
    (h1 : (foldedForSure 8 a && foldedForSure 8 b) = false) (h2 : (constantsAlone 8 a && constantsAlone 8 b) = false) (ha : noStar a = true) (hb : noStar b = true) :
    swappedStores [.Tuple [.Name x px, .Name y py] kt pt] (.Tuple [a, b] k2 pos2) env = pure (some [x, y]) := by
  have hbk : env.blockKind = .function := by unfold Env.blockKind; rw [hk]; rfl
  have kx : env.kindOf x = some .local := hx
  have ky : env.kindOf y = some .local := hy
  have hl2 : (py.line == px.line) = true := by rw [hl]; simp
  have e1 : (([a, b] : List Expr).any fun | .Starred .. => true | _ => false) = false := by
    cases a <;> first | (cases ha; done) | (cases b <;> first | (cases hb; done) | rfl)
  have h1' : ([a, b].all (foldedForSure 8)) = false := by simpa [List.all] using h1
  have h2' : ([a, b].all (constantsAlone 8)) = false := by simpa [List.all] using h2
  unfold swappedStores
  dsimp only
  rw [if_neg (by rw [hbk]; simp)]
  refine (if_neg ?_).trans ?_
  · exact fun z => Bool.noConfusion (e1.symm.trans z)
  have hne : (x == y) = false := by simpa using hxy
  have hne2 : (y == x) = false := by simpa using (Ne.symm hxy)
  have hd : ([x, y] : List Str).eraseDups = [x, y] := by
    simp [List.eraseDups_cons, hne, hne2]
  generalize hz : List.filterMap _ [Expr.Name x px, Expr.Name y py] = z
  have hn : z = [x, y] := by
    rw [← hz, List.filterMap_cons, List.filterMap_cons, List.filterMap_nil]
    dsimp only
    have c1 : (env.kindOf x == some NameKind.local && px.line == (Option.map (fun x => x.pos.line) [Expr.Name x px, Expr.Name y py].head?).getD 0) = true := by
      rw [kx]
      show (true && (px.line == px.line)) = true
      simp
    have c2 : (env.kindOf y == some NameKind.local && py.line == (Option.map (fun x => x.pos.line) [Expr.Name x px, Expr.Name y py].head?).getD 0) = true := by
      rw [ky]
      exact hl2
    rw [if_pos c1, if_pos c2]
  rw [hn, if_neg (by rw [hd]; simp), h1', h2']
  rfl
theorem z_par {i j : Nat} {a b : CE} {x y : Str} {px py pt pt2 pos : Pos} {kt k2 : Nat} {e g : Expr} (f : FitS C ca n R X W) (hh : C.hot = false) (hi : C.N[i]? = some x) (hj : C.N[j]? = some y) (hxy : x ≠ y) (hx : C.sc.names.lookup x = some .local) (hy : C.sc.names.lookup y = some .local) (hl : px.line = py.line)
    (h1 : (foldedForSure 8 e && foldedForSure 8 g) = false) (h2 : (constantsAlone 8 e && constantsAlone 8 g) = false) (ha : chkE C a e = true) (hb : chkE C b g = true) :
    PS X (.Assign [.Tuple [.Name x px, .Name y py] kt pt] (.Tuple [e, g] k2 pt2) pos) (tS (kx X ca) W (evS N R (.par i j a b))) := by
  have fe := f.toFitE
  rw [← f.sc] at hx hy
  have hij : i ≠ j := by
    rintro rfl
    rw [hi] at hj
    exact hxy (Option.some.inj hj)
  have pa := sndEs (ca := ca) (R := R) (n := n) (W := W) (X := X) [a, b] (C := C) (es := [e, g]) (by simp [chkEs, ha, hb]) fe
  refine PS.imp (ps_par (f.calm hh) f.nd (by rw [f.N]; exact hi) (by rw [f.N]; exact hj) hij hx hy pa (swapped_two f.kind hxy hx hy hl h1 h2 (chk_ns ha) (chk_ns hb))) fun D σ H q => ?_
  obtain ⟨ρ, S, s, at_, q⟩ := q
  rw [evS] at q
  refine ⟨ρ, S, s, at_, ?_⟩
  simp only [evEs, bind_ok]
  cases ea : evE R a s S with
  | bad => rw [ea] at q; exact q
  | ex c fs S1 =>
    rw [ea] at q
    exact fun ρ1 H1 cls d e1 r1 x => q ρ1 H1 σ cls d e1 (at_.ext e1 r1) x
  | ok d S1 =>
    rw [ea, st_ok] at q
    rw [bind_ok]
    cases eb : evE R b s S1 with
    | bad => rw [eb] at q; exact q
    | ex c fs S2 =>
      rw [eb] at q
      exact fun ρ1 H1 cls d e1 r1 x => q ρ1 H1 σ cls d e1 (at_.ext e1 r1) x
    | ok d2 S2 =>
      rw [eb, st_ok] at q
      intro vs ρ1 H1 e1 r1 p1
      obtain ⟨v, w, rfl, p1, v2, w2, rfl, p2, rfl⟩ := p1
      exact ⟨v, v2, rfl, q ρ1 H1 _ e1 ⟨r1, ((at_.ext e1 r1).fr.put (f.slot hi) (fun p hp => by rw [show (kx X ca).xe = ca.xe from rfl, f.xe hh] at hp; cases hp) p1).put (f.slot hj) (fun p hp => by rw [show (kx X ca).xe = ca.xe from rfl, f.xe hh] at hp; cases hp) p2⟩⟩
theorem sw_oth {e : Expr} {es : List Expr} {k : Nat} {p : Pos} {l : Nat} {env : Env} : swapsWithSole [.Tuple es k p] e l env = pure false := by cases e <;> rfl
theorem sw_sub {e a b : Expr} {p : Pos} {l : Nat} {env : Env} : swapsWithSole [.Subscript a b p] e l env = pure false := by cases e <;> rfl
theorem st_oth {e : Expr} {es : List Expr} {k : Nat} {p : Pos} {env : Env} (h : isTup e = false) : swappedStores [.Tuple es k p] e env = pure none := by
  cases e <;> first
    | rfl
    | (cases h; done)
theorem st_sub {e a b : Expr} {p : Pos} {env : Env} : swappedStores [.Subscript a b p] e env = pure none := by cases e <;> rfl
/-! ### raise -/
theorem z_rai {c : Nat} {fl : List Str} {xs : List CE} {x : Str} {es : List Expr} {p p2 pos : Pos} (f : FitS C ca n R X W) (hh : C.hot = false) (hx : (x, c, some fl) ∈ C.exc) (hg : glB C.sc x = true) (hd : (x == ("__debug__" : Str)) = false) (hc : chkEs C xs es = true) (he : es.isEmpty = false) (hl : fl.length = xs.length) (h9 : fl.length ≤ 900) :
    PS X (.Raise (some (.Call (.Name x p) es [] p2)) none pos) (tS (kx X ca) W (evS N R (.rai c (some fl) xs))) := by
  have ha := sndEs (ca := ca) (R := R) (n := n) (W := W) (X := X) xs hc f.toFitE
  have E := f.er x c (some fl) hx
  obtain ⟨T, fI, fd, ps, i1, i2, i3, i4, F⟩ := E.ini
  cases es with
  | nil => cases he
  | cons e es =>
    cases xs with
    | nil => exact absurd (show false = true from hc) Bool.false_ne_true
    | cons a r =>
      have hc' : chkE C a e = true ∧ chkEs C r es = true := Bool.and_eq_true_iff.mp hc
      have M := pmk_oex (p := p) (pos := p2) T i1 i2 F (f.room hh).room i3 .nil pass0 (gl_of f.sc hg) E.gl ha hd (star_cons (chk_ns hc'.1)) (star_any hc'.2)
      refine PS.imp (ps_raise (f.calm hh) f.tk M) fun D σ H q => ?_
      obtain ⟨ρ, S, s, at_, q⟩ := q
      rw [evS] at q
      refine ⟨ρ, S, s, at_, (st_post at_ q).imp fun vs H1 ⟨ds, ρ1, S1, a1, e1, p1, eq, q1⟩ => ?_⟩
      have lds := evEs_len eq
      have lvs : vs.length = fl.length := by rw [p1.length, lds, hl]
      refine ⟨by omega, fun b hb => ⟨b, vs, by rw [List.append_nil], lvs, upd_same, fun d hd hne => ?_⟩⟩
      have hd1 : H1 d = none := by rw [upd_ne hne] at hd; exact hd
      refine ⟨rfl, d, (fl.zip vs).reverse, upd_same, by rw [upd_ne hne, upd_same], hd1, ?_⟩
      rw [mk_heap hb hne]
      dsimp only at q1
      rw [if_pos (by rw [lds, hl])] at q1
      have nw : Ext ρ1 H1 ρ1 (upd H1 d (.xd (fl.zip vs).reverse)) := .new _ hd1
      refine q1 ρ1 _ σ (.ref (ca.ad c)) (some d) nw (a1.ext nw (a1.rel.new _ hd1)) ⟨rfl, .inr ⟨d, _, rfl, upd_same, ?_, ?_⟩⟩
      · rw [List.map_reverse, List.map_reverse, List.map_fst_zip (by omega), List.map_fst_zip (by omega)]
      · rw [List.map_reverse, List.map_reverse, List.map_snd_zip (by omega), List.map_snd_zip (by omega)]
        exact Reps.ext nw _ _ p1.reverse
/-! ### try -/
/-- the frame of a suite -/
def sufS (sl : Option Nat) (a : Addr) (σ : L2.St) : L2.St := match sl with
  | some i => σ.set i (some (.ref a))
  | none => σ
def sufB (sl : Option Nat) (σ : L2.St) : L2.St := match sl with
  | some i => σ.set i none
  | none => σ
def sufD (sl : Option Nat) (D : Ends) : Ends := match sl with
  | some i => offD i D
  | none => D
def xsOf (d : Option Addr) (hd : List (Str × Nat)) : List (Nat × Addr × Str) := match d with
  | some dx => hd.map fun p => (p.2, dx, p.1)
  | none => []
def CA.suite (ca : CA) (a : Addr) (d : Option Addr) (sl : Option Nat) (hd : List (Str × Nat)) : CA := { ca with xs := xsOf d hd, xe := sl.map fun i => (i, a) }
theorem FitS.tr (f : FitS C ca n R X W) (hh : C.hot = false) {W' : WX} {pn : List (Addr × Obj)} {xe : Value → Shared → Prop} (tk : Takes (X.tr pn xe) W') (pw : PassesOwn (model X.prog X.w) X.A X.env xe) : FitS C ca n R (X.tr pn xe) W' :=
  { N := f.N, nb := f.nb, xs := f.xs, xe := f.xe, nd := f.nd, sc := f.sc, calm := f.calm, own := fun h1 h2 => ⟨(f.own h1 h2).stk, (f.own h1 h2).frm⟩, units := f.units, tk := tk, room := f.room, gf := f.gf, gm := f.gm, gn := f.gn, fl := f.fl, er := f.er, ct := f.ct, xf := f.xf, bi := f.bi, gd := f.gd,
    hx := fun z => by rw [hh] at z; cases z
    pw := pw, kind := f.kind, fn := f.fn, blk := f.blk }
theorem lookup_some_of_mem : ∀ {hd : List (Str × Nat)} {g : Str} {i : Nat}, hd.lookup g = some i → (g, i) ∈ hd
  | [], _, _, h => by cases h
  | (k, j) :: r, g, i, h => by
    rw [List.lookup_cons] at h
    cases e : g == k with
    | true =>
      rw [e] at h
      cases h
      rw [eq_of_beq e]
      exact List.mem_cons_self
    | false =>
      rw [e] at h
      exact List.mem_cons_of_mem _ (lookup_some_of_mem h)
theorem FitS.suite (f : FitS C ca n R X W) (hh : C.hot = false) {a : Addr} {oe : Obj} {c : Nat} {d : Option Addr} {pn : List (Addr × Obj)} {cs : List Nat} {sl : Option Nat} {nm : Option Str} {hd : List (Str × Nat)} (hz : Zc (.ref (ca.ad c)) d oe) (hf : ∃ vs, oe.data = .fields vs) (hc : c ∈ cs) (hA : chkA C sl nm hd = true)
    (hdx : hd ≠ [] → ∃ dx, d = some dx) : FitS (C.suite cs nm hd) (ca.suite a d sl hd) n R (X.suite a ((a, oe) :: pn)) noW :=
  { N := f.N, nb := f.nb, xs := fun z => by cases (show true = false from z)
    xe := fun z => by cases (show true = false from z)
    nd := f.nd, sc := f.sc
    calm := fun z => by cases (show true = false from z)
    own := fun z => by cases (show true = false from z)
    units := f.units
    tk := fun u s' ⟨_, _, _, _, _, _, _, _, _, _, _, _, _, _, _, _, w⟩ => w.elim
    room := fun z => by cases (show true = false from z)
    gf := f.gf, gm := f.gm, gn := f.gn, fl := f.fl, er := f.er, ct := f.ct, xf := f.xf, bi := f.bi, gd := f.gd
    hx := fun _ => by
      refine ⟨a, oe, c, d, pn, X, rfl, hz, hf, fun hv => ?_, fun m cs' hv => ?_⟩
      · have hv : nm.map (fun n => (n, cs)) = none := hv
        cases nm with
        | some _ => cases hv
        | none =>
          cases sl with
          | some i => exact absurd (show false = true from hA) Bool.false_ne_true
          | none => rfl
      · have hv : nm.map (fun n => (n, cs)) = some (m, cs') := hv
        cases nm with
        | none => cases hv
        | some m' =>
          cases hv
          cases sl with
          | none => exact absurd (show false = true from hA) Bool.false_ne_true
          | some i =>
            have hA : (decide (C.N[i]? = some m) && decide (C.sc.names.lookup m = some .local)) = true := hA
            simp only [Bool.and_eq_true, decide_eq_true_eq] at hA
            refine ⟨hc, ⟨i, hA.1, rfl⟩, fun g j hl => ?_⟩
            have hl := lookup_some_of_mem (show hd.lookup g = some j from hl)
            obtain ⟨dx, rfl⟩ := hdx (fun z => by rw [z] at hl; cases hl)
            exact ⟨dx, rfl, List.mem_map.mpr ⟨(g, j), hl, rfl⟩⟩
    pw := PassesOwn.never, kind := f.kind, fn := f.fn, blk := f.blk }
theorem setH_ok : ∀ {hd : List (Str × Nat)} {fs : List (Str × D)} {s s1 : Fr}, setH hd fs s = some s1 → (hd.map (·.2)).Nodup → s1.length = s.length ∧ (∀ j, j ∉ hd.map (·.2) → s1[j]? = s[j]?) ∧ ∀ p ∈ hd, ∃ v, fs.lookup p.1 = some v ∧ ∀ d, s1[p.2]? = some (some d) → d = v
  | [], fs, s, s1, h, _ => by cases h; exact ⟨rfl, fun _ _ => rfl, fun _ z => nomatch z⟩
  | (g, i) :: r, fs, s, s1, h, nd => by
    unfold setH at h
    split at h
    · rename_i v hv
      rw [List.map_cons, List.nodup_cons] at nd
      obtain ⟨h1, h2, h3⟩ := setH_ok h nd.2
      refine ⟨by rw [h1, List.length_set], fun j hj => ?_, fun p hp => ?_⟩
      · rw [List.map_cons, List.mem_cons, not_or] at hj
        rw [h2 j hj.2, List.getElem?_set_ne (Ne.symm hj.1)]
      · rcases List.mem_cons.mp hp with rfl | hp
        · refine ⟨v, hv, fun d hd => ?_⟩
          rw [h2 _ nd.1] at hd
          by_cases hi : i < s.length
          · rw [List.getElem?_set_self hi] at hd
            cases hd; rfl
          · rw [List.getElem?_eq_none (by simpa using hi)] at hd; cases hd
        · exact h3 p hp
    · cases h
theorem xd_out {K : PySem.W.Frag} {cb : Nat → Addr} {ρ : Lo} {S : Sto} {H : Hp} (r : Rel K cb ρ S H) {dx : Addr} {fs : List (Str × V)} (h : H dx = some (.xd fs)) : dx ∉ ρ.ls := by
  intro hm
  obtain ⟨i, hi⟩ := List.mem_iff_getElem?.mp hm
  have hl : i < S.length := by rw [← r.ln]; exact (List.getElem?_eq_some_iff.mp hi).1
  have ob := r.ob i dx _ hi (List.getElem?_eq_getElem hl)
  cases e : S[i] with
  | lst ds => rw [e] at ob; obtain ⟨vs, h1, _⟩ := ob; rw [h1] at h; cases h
  | dic kvs => rw [e] at ob; obtain ⟨vs, h1, _⟩ := ob; rw [h1] at h; cases h
  | ins c gs => rw [e] at ob; obtain ⟨d, vs, h1, _⟩ := ob; rw [h1] at h; cases h
theorem at_suite {sl : Option Nat} {nm : Option Str} {hd : List (Str × Nat)} {ρ : Lo} {S : Sto} {H : Hp} {s s1 : Fr} {σ : L2.St} {a : Addr} {c : Nat} {fs : List (Str × D)} {cls : Value} {d : Option Addr} (f : FitS C ca n R X W) (hh : C.hot = false) (hb : ∀ p ∈ hd, C.N.length ≤ p.2) (nd : (hd.map (·.2)).Nodup) (hA : chkA C sl nm hd = true)
    (at_ : At (kx X ca) ρ S s σ H) (hx : Exn X.K ca.ad ρ H c fs cls d) (hs : setH hd fs (wip sl s) = some s1) : At (kx X (ca.suite a d sl hd)) ρ S s1 (sufS sl a σ) H ∧ (hd ≠ [] → ∃ dx, d = some dx) := by
  obtain ⟨l1, l2, l3⟩ := setH_ok hs nd
  have fr := at_.fr
  have len1 : fr.len = fr.len := rfl
  have hN : ca.nb = C.N.length := f.nb
  have wl : (wip sl s).length = s.length := by unfold wip; split <;> simp
  have hdx : hd ≠ [] → ∃ dx, d = some dx := fun hne => by
    rcases hx.2 with ⟨rfl, _⟩ | ⟨dx, fs', rfl, _⟩
    · cases hd with
      | nil => exact absurd rfl hne
      | cons p r =>
        obtain ⟨v, hv, _⟩ := l3 p List.mem_cons_self
        cases hv
    · exact ⟨dx, rfl⟩
  refine ⟨⟨at_.rel, ⟨?_, ?_, fun i dd hi e => ?_, fun p hp => ?_, fun p hp => ?_⟩⟩, hdx⟩
  · have := fr.len
    cases sl with
    | none => exact this
    | some i => show (σ.set i _).length = _; rw [List.length_set]; exact this
  · show ca.nb ≤ s1.length
    rw [l1, wl]; exact fr.le
  · have hi : i < ca.nb := hi
    have hni : i ∉ hd.map (·.2) := fun z => by
      obtain ⟨p, hp, rfl⟩ := List.mem_map.mp z
      have := hb p hp
      omega
    rw [l2 i hni] at e
    cases sl with
    | none => exact fr.at_ i dd hi e
    | some j =>
      have e : (s.set j none)[i]? = some (some dd) := e
      have hij : j ≠ i := by
        rintro rfl
        by_cases hl : j < s.length
        · rw [List.getElem?_set_self hl] at e; cases e
        · rw [List.getElem?_eq_none (by simpa using hl)] at e; cases e
      rw [List.getElem?_set_ne hij] at e
      obtain ⟨v, h1, h2⟩ := fr.at_ i dd hi e
      exact ⟨v, by show (σ.set j _)[i]? = _; rw [List.getElem?_set_ne hij]; exact h1, h2⟩
  · have hp : p ∈ xsOf d hd := hp
    cases d with
    | none => cases hp
    | some dx =>
      obtain ⟨q, hq, rfl⟩ := List.mem_map.mp hp
      rcases hx.2 with ⟨_, z⟩ | ⟨dx', fs', z, h1, h2, h3⟩
      · cases z
      · cases z
        refine ⟨by show ca.nb ≤ q.2; rw [hN]; exact hb q hq, xd_out at_.rel h1, fs', h1, fun dd e => ?_⟩
        obtain ⟨v, hv, hu⟩ := l3 q hq
        obtain ⟨v', k1, k2⟩ := lookup_reps h2 h3 hv
        rw [hu dd e]
        exact ⟨v', k1, k2⟩
  · have hp : sl.map (fun i => (i, a)) = some p := hp
    cases sl with
    | none => cases hp
    | some i =>
      cases hp
      cases nm with
      | none => exact absurd (show false = true from hA) Bool.false_ne_true
      | some m =>
        have hA : (decide (C.N[i]? = some m) && decide (C.sc.names.lookup m = some .local)) = true := hA
        simp only [Bool.and_eq_true, decide_eq_true_eq] at hA
        have hl : i < σ.length := by
          have := fr.len
          rw [this]
          exact f.slot hA.1
        show (σ.set i _)[i]? = _
        rw [List.getElem?_set_self hl]
theorem aft_post {k' k : Kx} {ρ : Lo} {H : Hp} {sl : Option Nat} {o : SO} {D : Ends} (hK : k'.K = k.K) (hca : k'.ca = k.ca) (hnb : k'.nb = k.nb) (hxs : k.xs = []) (hxe : k.xe = none) (h : postS k W ρ H (o.aft (wip sl)) D) :
    postS k' noW ρ H o (sufD sl D) := by
  obtain ⟨K, cb, nb, xs, xe⟩ := k
  obtain ⟨K', cb', nb', xs', xe'⟩ := k'
  dsimp only at hK hca hnb hxs hxe
  subst hK hca hnb hxs hxe
  have back : ∀ {ρ' : Lo} {S : Sto} {s : Fr} {σ' : L2.St} {H' : Hp}, At ⟨K', cb', nb', xs', xe'⟩ ρ' S s σ' H' → At ⟨K', cb', nb', [], none⟩ ρ' S (wip sl s) (sufB sl σ') H' := fun {ρ' S s σ' H'} a => by
    refine ⟨a.rel, ⟨?_, ?_, fun i dd hi e => ?_, (fun p hp => nomatch hp), (fun p hp => nomatch hp)⟩⟩
    · have := a.fr.len
      cases sl with
      | none => exact this
      | some i => show (σ'.set i _).length = _; rw [List.length_set]; exact this
    · have := a.fr.le
      cases sl with
      | none => exact this
      | some i => show nb' ≤ (s.set i _).length; rw [List.length_set]; exact this
    · cases sl with
      | none => exact a.fr.at_ i dd hi e
      | some j =>
        have e : (s.set j none)[i]? = some (some dd) := e
        have hij : j ≠ i := by
          rintro rfl
          by_cases hl : j < s.length
          · rw [List.getElem?_set_self hl] at e; cases e
          · rw [List.getElem?_eq_none (by simpa using hl)] at e; cases e
        rw [List.getElem?_set_ne hij] at e
        obtain ⟨v, h1, h2⟩ := a.fr.at_ i dd hi e
        exact ⟨v, by show (σ'.set j _)[i]? = _; rw [List.getElem?_set_ne hij]; exact h1, h2⟩
  cases o with
  | nx s S =>
    intro ρ' H' σ' e a
    have := h ρ' H' _ e (back a)
    cases sl <;> exact this
  | rt d S =>
    intro v ρ' H' e r p
    have := h v ρ' H' e r p
    cases sl <;> exact this
  | bk s S =>
    intro ρ' H' σ' e a
    have := h ρ' H' _ e (back a)
    cases sl <;> exact this
  | ct s S =>
    intro ρ' H' σ' e a
    have := h ρ' H' _ e (back a)
    cases sl <;> exact this
  | ex c fs s S => exact (show False from h).elim
  | bad => exact h.elim
end
section
variable {R : Nat → List D → Sto → Out D} {n N : Nat}
mutual
theorem sndS : ∀ (c : CS) {C : Cxt} {ca : CA} {X : Cx} {W : WX} {s : Stmt}, chkS C c s = true → FitS C ca n R X W → PS X s (tS (kx X ca) W (evS N R c))
  | .exp c, C, ca, X, W, s, h, f => by
    unfold chkS at h
    split at h <;> try contradiction
    simp only [Bool.and_eq_true, Bool.not_eq_true', Bool.not_eq_eq_eq_not] at h
    exact z_exp (sndE c h.2 f.toFitE).1 (sw_no h.1)
  | .asg t c, C, ca, X, W, s, h, f => by
    unfold chkS at h
    split at h <;> try contradiction
    rename_i tg e pos
    simp only [Bool.and_eq_true] at h
    obtain ⟨⟨h1, h2⟩, h3⟩ := h
    cases t with
    | nm i =>
      cases tg <;> first | exact absurd (show false = true from h2) Bool.false_ne_true | skip
      exact z_asgN f h2 h3
    | tup is =>
      cases tg <;> first | exact absurd (show false = true from h2) Bool.false_ne_true | skip
      have h1 : (!isTup e) = true := h1
      rw [Bool.not_eq_true'] at h1
      exact PS.imp (ps_asg (sndE c h3 f.toFitE).1 (g_all f h2) sw_oth (st_oth h1) rfl) fun D σ H q => asg_post (N := N) q
    | sub o i =>
      cases tg <;> first | exact absurd (show false = true from h2) Bool.false_ne_true | skip
      exact PS.imp (ps_asg (sndE c h3 f.toFitE).1 (g_all f h2) sw_sub st_sub rfl) fun D σ H q => asg_post (N := N) q
    | fld cs o g =>
      cases tg <;> first | exact absurd (show false = true from h2) Bool.false_ne_true | skip
      exact PS.imp (ps_asg (sndE c h3 f.toFitE).1 (g_all f h2) sw_att st_att rfl) fun D σ H q => asg_post (N := N) q
  | .par i j a b, C, ca, X, W, s, h, f => by
    unfold chkS at h
    split at h <;> try contradiction
    simp only [Bool.and_eq_true, decide_eq_true_eq, Bool.not_eq_true', Bool.not_eq_eq_eq_not] at h
    obtain ⟨⟨⟨⟨⟨⟨⟨⟨⟨⟨hh, h1⟩, h2⟩, h3⟩, h4⟩, h5⟩, h6⟩, h7⟩, h8⟩, h9⟩, h10⟩ := h
    exact z_par f hh h1 h2 h3 h4 h5 h6 h7 h8 h9 h10
  | .aug i op c, C, ca, X, W, s, h, f => by
    unfold chkS at h
    split at h <;> try contradiction
    simp only [Bool.and_eq_true, decide_eq_true_eq] at h
    obtain ⟨⟨⟨⟨rfl, h1⟩, h2⟩, h3⟩, h4⟩ := h
    exact z_aug f h1 h2 h3 h4
  | .ret c, C, ca, X, W, s, h, f => by
    unfold chkS at h
    split at h <;> try contradiction
    · exact z_ret (sndE _ h f.toFitE).1
    · split at h <;> try contradiction
      exact z_retN
  | .ife c a b, C, ca, X, W, s, h, f => by
    unfold chkS at h
    split at h <;> try contradiction
    simp only [Bool.and_eq_true] at h
    exact z_if (sndE c h.1.1 f.toFitE).2 (sndB a h.1.2 f) (sndB b h.2 f)
  | .whl c b, C, ca, X, W, s, h, f => by
    unfold chkS at h
    split at h <;> try contradiction
    simp only [Bool.and_eq_true] at h
    exact z_while f.pw (sndE c h.1 f.toFitE).2 (sndB b h.2 f)
  | .fro t c b, C, ca, X, W, s, h, f => by
    unfold chkS at h
    split at h <;> try contradiction
    simp only [Bool.and_eq_true, Bool.not_eq_true', Bool.not_eq_eq_eq_not] at h
    obtain ⟨⟨⟨hh, h1⟩, h2⟩, h3⟩ := h
    refine PS.imp (z_loop f.pw (f.calm hh) (pi_walked (sndE c h2 f.toFitE).1) (g_all f h1) (sndB b h3 f) g_nx (chk_noSet h2 _)) fun D σ H q => ?_
    obtain ⟨ρ, S, s, at_, q⟩ := q
    rw [evS] at q
    exact ⟨ρ, S, s, at_, q⟩
  | .frr t rg b, C, ca, X, W, s, h, f => by
    unfold chkS at h
    split at h <;> try contradiction
    simp only [Bool.and_eq_true, Bool.or_eq_true, decide_eq_true_eq, Bool.not_eq_true', Bool.not_eq_eq_eq_not] at h
    obtain ⟨⟨⟨⟨⟨⟨hh, h1⟩, rfl⟩, h3⟩, h4⟩, h5⟩, h6⟩ := h
    refine PS.imp (z_loop f.pw (f.calm hh) (pi_rg f.toFitE h3 h4 h5 (sndEs rg h5 f.toFitE)) (g_all f h1) (sndB b h6 f) g_nx (fun v => rfl)) fun D σ H q => ?_
    obtain ⟨ρ, S, s, at_, q⟩ := q
    rw [evS] at q
    exact ⟨ρ, S, s, at_, q⟩
  | .fag cs o g op c, C, ca, X, W, s, h, f => by
    unfold chkS at h
    split at h <;> try contradiction
    simp only [Bool.and_eq_true, decide_eq_true_eq, List.all_eq_true] at h
    obtain ⟨⟨⟨⟨rfl, rfl⟩, h1⟩, h2⟩, h3⟩ := h
    exact z_fag f (fun c hc => List.contains_iff_mem.mp (h1 c hc)) h2 h3
  | .rai c fl xs, C, ca, X, W, s, h, f => by
    unfold chkS at h
    split at h <;> try contradiction
    simp only [Bool.and_eq_true, Bool.not_eq_true', Bool.not_eq_eq_eq_not] at h
    obtain ⟨⟨⟨⟨⟨⟨hh, h0⟩, h1⟩, h2⟩, h3⟩, h4⟩, h5⟩ := h
    split at h0 <;> try contradiction
    simp only [Bool.and_eq_true, decide_eq_true_eq] at h0
    exact z_rai f hh (List.contains_iff_mem.mp h1) h2 h3 h5 h4 h0.1 h0.2
  | .tri b hc els, C, ca, X, W, s, h, f => by
    unfold chkS at h
    split at h <;> try contradiction
    rename_i body h0 hs orelse pos
    simp only [Bool.and_eq_true, Bool.not_eq_true', Bool.not_eq_eq_eq_not] at h
    obtain ⟨⟨⟨⟨hh, hfm⟩, h1⟩, h2⟩, h3⟩ := h
    obtain ⟨l, HG, HW⟩ := sndH hc h2 hh f
    have ow := f.own hh f.blk
    have hbd : ∀ (W : WX) (pn : List (Addr × Obj)) (xe : Value → Shared → Prop), Takes (X.tr pn xe) W → PassesOwn (model X.prog X.w) X.A X.env xe → PSs (X.tr pn xe) body (tS (kx X ca) W (evB N R b)) := fun W' pn xe tk pw => sndB b h1 (f.tr hh tk pw)
    cases hbr : bareB (h0 :: hs) with
    | true =>
      obtain ⟨l2, HO, Hw⟩ := HG.many hbr
      refine PS.imp (ps_try_manyE (tb := fun W' => tS (kx X ca) W' (evB N R b)) (sndB els h3 f) ow.stk ow.frm f.tk hbd HO) fun D σ H q => ?_
      obtain ⟨ρ, S, st, at_, q⟩ := q
      rw [evS] at q
      refine ⟨ρ, S, st, at_, ?_⟩
      cases eb : evB N R b st S with
      | nx s1 S1 =>
        rw [eb] at q
        exact fun ρ' H' σ' e a => ⟨ρ', S1, s1, a, postS.mono q e⟩
      | ex c fs s1 S1 =>
        rw [eb] at q
        exact fun ρ' H' σ' cls d e a x => Hw W D cls d σ' H' (HW D (postS.mono q e) a x)
      | rt d S1 => rw [eb] at q; exact q
      | bk s1 S1 => rw [eb] at q; exact q
      | ct s1 S1 => rw [eb] at q; exact q
      | bad => rw [eb] at q; exact q
    | false =>
      unfold formB at hfm
      rw [hbr] at hfm
      simp only [Bool.false_or, Bool.and_eq_true, decide_eq_true_eq, List.length_cons, List.isEmpty_iff] at hfm
      obtain ⟨hl1, rfl, rfl⟩ := hfm
      obtain rfl : hs = [] := List.length_eq_zero_iff.mp (by omega)
      obtain ⟨x, n0, i, c, ts, st0, bd, p, p', rfl, hcn, hi, hln, hsu, Hw⟩ := HG.one hbr
      refine PS.imp (ps_try_as (tb := fun W' => tS (kx X ca) W' (evB N R b)) ow.stk ow.frm f.nd hi hln hcn f.tk hbd hsu) fun D σ H q => ?_
      obtain ⟨ρ, S, st, at_, q⟩ := q
      rw [evS] at q
      refine ⟨ρ, S, st, at_, ?_⟩
      cases eb : evB N R b st S with
      | nx s1 S1 =>
        rw [eb] at q
        dsimp only at q
        rw [evB] at q
        exact q
      | ex c fs s1 S1 =>
        rw [eb] at q
        exact fun ρ' H' σ' cls d e a x => Hw W D cls d σ' H' (HW D (postS.mono q e) a x)
      | rt d S1 => rw [eb] at q; exact q
      | bk s1 S1 => rw [eb] at q; exact q
      | ct s1 S1 => rw [eb] at q; exact q
      | bad => rw [eb] at q; exact q
  | .hnd _ _ _ _ _ _, C, ca, X, W, s, h, f => absurd (show false = true from h) Bool.false_ne_true
  | .brk, C, ca, X, W, s, h, f => by
    unfold chkS at h
    split at h <;> try contradiction
    exact z_break
  | .cnt, C, ca, X, W, s, h, f => by
    unfold chkS at h
    split at h <;> try contradiction
    exact z_continue
  | .pss, C, ca, X, W, s, h, f => by
    unfold chkS at h
    split at h <;> try contradiction
    · exact z_doc
    · exact z_pass
theorem sndH : ∀ (hc : CS) {C : Cxt} {ca : CA} {X : Cx} {W : WX} {hs : List ExceptHandler}, chkH C hc hs = true → C.hot = false → FitS C ca n R X W →
    ∃ l, HdsG X hs l ∧ ∀ (D : Ends) {c : Nat} {fs : List (Str × Cr.D)} {s : Fr} {S : Sto} {ρ : Lo} {H : Hp} {σ : L2.St} {cls : Value} {d : Option Addr}, postS (kx X ca) W ρ H (evH N R hc c fs s S) D → At (kx X ca) ρ S s σ H → Exn X.K ca.ad ρ H c fs cls d → wGen X.K W D l cls d σ H
  | .hnd cs ds sl hd b nx, C, ca, X, W, hs, h, hh, f => by
    unfold chkH at h
    split at h <;> try contradiction
    rename_i x np nm b0 suite pos r
    simp only [Bool.and_eq_true, decide_eq_true_eq, List.all_eq_true, Bool.not_eq_true', Bool.not_eq_eq_eq_not] at h
    obtain ⟨⟨⟨⟨⟨⟨⟨h1, h2⟩, h3⟩, h4⟩, h5⟩, hA⟩, h7⟩, h8⟩ := h
    obtain ⟨l, HG, HW⟩ := sndH nx h8 hh f
    have hct : CatOk X.K X.mg ca.ad x cs ds := by
      unfold subB at h3
      split at h3
      · rename_i q hq
        refine f.ct x cs ds ?_
        rw [hq, of_decide_eq_true h3]
      · cases h3
    obtain ⟨A, m1, m2, m3⟩ := hct
    have hN : Names X x (.ref A) := ⟨gl_of f.sc h1, h2, .inl m1⟩
    let ts : Addr → Value → Option Addr → TS := fun a cls d D σ H => ∃ c ∈ cs, cls = .ref (ca.ad c) ∧ (hd ≠ [] → ∃ dx, d = some dx) ∧ tS (kx X (ca.suite a d sl hd)) noW (evB N R b) D σ H
    have hsu : SuOk X (b0 :: suite) ts := fun a oe cls d pn hz hf =>
      ⟨fun pins s σ H D I q => by
        obtain ⟨c, hc, rfl, hdx, q⟩ := q
        exact (sndB b h7 (f.suite hh hz hf hc hA hdx)).run pins s σ H D I q⟩
    have key : ∀ (D : Ends) {c : Nat} {fs : List (Str × Cr.D)} {s : Fr} {S : Sto} {ρ : Lo} {H : Hp} {σ : L2.St} {cls : Value} {d : Option Addr}, postS (kx X ca) W ρ H (evH N R (.hnd cs ds sl hd b nx) c fs s S) D → At (kx X ca) ρ S s σ H → Exn X.K ca.ad ρ H c fs cls d →
        ∃ t, PySem.W.exmOne X.K cls (.ref A) = some t ∧ (t = true → ∀ a, H a = none → ts a cls d (sufD sl D) (sufS sl a σ) H) ∧ (t = false → wGen X.K W D l cls d σ H) := fun D {c fs s S ρ H σ cls d} q at_ hx => by
      rw [evH] at q
      split at q
      · rename_i hc
        have hc := List.contains_iff_mem.mp hc
        obtain ⟨_, x2, _⟩ := m2 c hc
        obtain rfl : cls = .ref (ca.ad c) := hx.1
        refine ⟨true, x2, fun _ a na => ?_, fun z => nomatch z⟩
        split at q
        · rename_i s1 hs1
          obtain ⟨a1, hdx⟩ := at_suite (a := a) f hh h4 h5 hA at_ hx hs1
          exact ⟨c, hc, rfl, hdx, ρ, S, s1, a1, aft_post (k' := kx X (ca.suite a d sl hd)) (k := kx X ca) rfl rfl rfl (f.xs hh) (f.xe hh) q⟩
        · exact q.elim
      · split at q
        · rename_i hc
          have hc := List.contains_iff_mem.mp hc
          obtain ⟨_, x2, _⟩ := m3 c hc
          have hcl := hx.1
          subst hcl
          exact ⟨false, x2, fun z => (nomatch z), fun _ => HW D q at_ hx⟩
        · exact q.elim
    cases sl with
    | none =>
      cases nm with
      | some m => exact absurd (show false = true from hA) Bool.false_ne_true
      | none => exact ⟨(.ref A, none, ts) :: l, .bare hN hsu HG, fun D {c fs s S ρ H σ cls d} q a x => let ⟨t, k1, k2, k3⟩ := key D q a x; ⟨t, k1, k3, k2⟩⟩
    | some i =>
      cases nm with
      | none => exact absurd (show false = true from hA) Bool.false_ne_true
      | some m =>
        have hA' : (decide (C.N[i]? = some m) && decide (C.sc.names.lookup m = some .local)) = true := hA
        simp only [Bool.and_eq_true, decide_eq_true_eq] at hA'
        exact ⟨(.ref A, some i, ts) :: l, .named hN (by rw [f.N]; exact hA'.1) (by show X.env.scope.names.lookup m = _; rw [f.sc]; exact hA'.2) hsu HG, fun D {c fs s S ρ H σ cls d} q a x => let ⟨t, k1, k2, k3⟩ := key D q a x; ⟨t, k1, k3, k2⟩⟩
  | .pss, C, ca, X, W, hs, h, hh, f => by
    have h : hs.isEmpty = true := h
    obtain rfl := List.isEmpty_iff.mp h
    refine ⟨[], .nil, fun D {c fs s S ρ H σ cls d} q a x => ?_⟩
    rw [evH] at q
    · exact q ρ H σ cls d .refl a x
    · intros; contradiction
  | .exp _, _, _, _, _, _, h, _, _ => absurd (show false = true from h) Bool.false_ne_true
  | .asg _ _, _, _, _, _, _, h, _, _ => absurd (show false = true from h) Bool.false_ne_true
  | .par _ _ _ _, _, _, _, _, _, h, _, _ => absurd (show false = true from h) Bool.false_ne_true
  | .aug _ _ _, _, _, _, _, _, h, _, _ => absurd (show false = true from h) Bool.false_ne_true
  | .ret _, _, _, _, _, _, h, _, _ => absurd (show false = true from h) Bool.false_ne_true
  | .ife _ _ _, _, _, _, _, _, h, _, _ => absurd (show false = true from h) Bool.false_ne_true
  | .whl _ _, _, _, _, _, _, h, _, _ => absurd (show false = true from h) Bool.false_ne_true
  | .fro _ _ _, _, _, _, _, _, h, _, _ => absurd (show false = true from h) Bool.false_ne_true
  | .frr _ _ _, _, _, _, _, _, h, _, _ => absurd (show false = true from h) Bool.false_ne_true
  | .fag _ _ _ _ _, _, _, _, _, _, h, _, _ => absurd (show false = true from h) Bool.false_ne_true
  | .rai _ _ _, _, _, _, _, _, h, _, _ => absurd (show false = true from h) Bool.false_ne_true
  | .tri _ _ _, _, _, _, _, _, h, _, _ => absurd (show false = true from h) Bool.false_ne_true
  | .brk, _, _, _, _, _, h, _, _ => absurd (show false = true from h) Bool.false_ne_true
  | .cnt, _, _, _, _, _, h, _, _ => absurd (show false = true from h) Bool.false_ne_true
theorem sndB : ∀ (c : List CS) {C : Cxt} {ca : CA} {X : Cx} {W : WX} {s : List Stmt}, chkB C c s = true → FitS C ca n R X W → PSs X s (tS (kx X ca) W (evB N R c))
  | [], C, ca, X, W, [], h, f => z_nil
  | [], C, ca, X, W, _ :: _, h, f => absurd (show false = true from h) Bool.false_ne_true
  | _ :: _, C, ca, X, W, [], h, f => absurd (show false = true from h) Bool.false_ne_true
  | c :: r, C, ca, X, W, s :: t, h, f => by
    have h : chkS C c s = true ∧ chkB C r t = true := Bool.and_eq_true_iff.mp h
    exact z_cons (sndS c h.1 f) (sndB r h.2 f)
end
end
end Cr
set_option Elab.async false
set_option linter.all false
set_option maxHeartbeats 4000000
set_option maxRecDepth 10000
/-! Cr20: a def's end; all defs of a program. -/
namespace Cr
open PySem L2 PyProof.Rows
section
variable {K : PySem.W.Frag} {ca : Nat → Addr} {ρ ρ' : Lo} {H H' : Hp}
/-! ### low data -/
mutual
theorem Rep.low {n : Nat} (hn : ρ.ls = ρ'.ls.take n) (hb : ρ.bl = ρ'.bl) : ∀ (d : D) (v : V), lowD n d = true → Rep K ρ' H d v → Rep K ρ H d v
  | .none, _, _, h => h
  | .bool _, _, _, h => h
  | .int _, _, _, h => h
  | .str _, _, _, h => h
  | .tuple xs, v, l, h => by
    obtain ⟨a, vs, h1, h2, h3⟩ := h
    rw [lowD] at l
    exact ⟨a, vs, h1, h2.elim (fun q => .inl ⟨⟨fun z => q.1.1 (List.mem_of_mem_take (hn ▸ z)), fun z => q.1.2 (hb ▸ z)⟩, q.2⟩) .inr, Reps.low hn hb xs vs l h3⟩
  | .list xs, v, l, h => by
    obtain ⟨a, vs, h1, h2, h3⟩ := h
    rw [lowD] at l
    exact ⟨a, vs, h1, h2.elim (fun q => .inl ⟨⟨fun z => q.1.1 (List.mem_of_mem_take (hn ▸ z)), fun z => q.1.2 (hb ▸ z)⟩, q.2⟩) .inr, Reps.low hn hb xs vs l h3⟩
  | .dict kvs, v, l, h => by
    obtain ⟨m, a, rfl, h2, h3⟩ := h
    have l : decide ((m : Int).toNat < n) = true := l
    have l := of_decide_eq_true l
    refine ⟨m, a, rfl, ?_, h3⟩
    rw [hn, List.getElem?_take_of_lt (by simpa using l)]
    exact h2
theorem Reps.low {n : Nat} (hn : ρ.ls = ρ'.ls.take n) (hb : ρ.bl = ρ'.bl) : ∀ (ds : List D) (vs : List V), lowA n ds = true → Reps K ρ' H ds vs → Reps K ρ H ds vs
  | [], _, _, h => h
  | x :: xs, vs, l, h => by
    obtain ⟨v, r, h1, h2, h3⟩ := h
    rw [lowA, Bool.and_eq_true] at l
    exact ⟨v, r, h1, Rep.low hn hb x v l.1 h2, Reps.low hn hb xs r l.2 h3⟩
end
mutual
/-- what is known to a state is low -/
theorem Rep.isLow : ∀ (d : D) (v : V), Rep K ρ H d v → lowD ρ.ls.length d = true
  | .none, _, h => by rw [lowD] <;> intros <;> contradiction
  | .bool _, _, h => by rw [lowD] <;> intros <;> contradiction
  | .int _, _, h => by rw [lowD] <;> intros <;> contradiction
  | .str _, _, h => by rw [lowD] <;> intros <;> contradiction
  | .tuple xs, v, h => by
    obtain ⟨a, vs, h1, h2, h3⟩ := h
    rw [lowD]
    exact Reps.isLow xs vs h3
  | .list xs, v, h => by
    obtain ⟨a, vs, h1, h2, h3⟩ := h
    rw [lowD]
    exact Reps.isLow xs vs h3
  | .dict kvs, v, h => by
    obtain ⟨m, a, rfl, h2, h3⟩ := h
    show decide ((m : Int).toNat < _) = true
    have := (List.getElem?_eq_some_iff.mp h2).1
    exact decide_eq_true (by simpa using this)
theorem Reps.isLow : ∀ (ds : List D) (vs : List V), Reps K ρ H ds vs → lowA ρ.ls.length ds = true
  | [], _, _ => by rw [lowA]
  | x :: xs, vs, h => by
    obtain ⟨v, r, h1, h2, h3⟩ := h
    rw [lowA, Bool.and_eq_true]
    exact ⟨Rep.isLow x v h2, Reps.isLow xs r h3⟩
end
theorem lowA_all {n : Nat} : ∀ {xs : List D}, lowA n xs = xs.all (lowD n)
  | [] => by rw [lowA]; rfl
  | x :: xs => by rw [lowA, List.all_cons, lowA_all]
theorem ObR.low {n : Nat} (hn : ρ.ls = ρ'.ls.take n) (hb : ρ.bl = ρ'.bl) {a : Addr} {o : Ob} (l : lowO n o = true) (h : ObR K ca ρ' H a o) : ObR K ca ρ H a o := by
  cases o with
  | lst ds =>
    obtain ⟨vs, h1, h2⟩ := h
    exact ⟨vs, h1, Reps.low hn hb _ _ l h2⟩
  | dic kvs =>
    obtain ⟨kv, h1, h2, h3, h4⟩ := h
    refine ⟨kv, h1, h2, h3, Reps.low hn hb _ _ ?_ h4⟩
    rw [lowA_all, List.all_map]
    exact l
  | ins c fs =>
    obtain ⟨dx, fs', h1, h2, h3⟩ := h
    refine ⟨dx, fs', h1, h2, Reps.low hn hb _ _ ?_ h3⟩
    rw [lowA_all, List.all_map]
    exact l
theorem ObR.isLow {a : Addr} {o : Ob} (h : ObR K ca ρ H a o) : lowO ρ.ls.length o = true := by
  cases o with
  | lst ds =>
    obtain ⟨vs, h1, h2⟩ := h
    exact Reps.isLow _ _ h2
  | dic kvs =>
    obtain ⟨kv, h1, h2, h3, h4⟩ := h
    have := Reps.isLow _ _ h4
    rw [lowA_all, List.all_map] at this
    exact this
  | ins c fs =>
    obtain ⟨dx, fs', h1, h2, h3⟩ := h
    have := Reps.isLow _ _ h3
    rw [lowA_all, List.all_map] at this
    exact this
/-! ### letting go -/
mutual
theorem Rep.frz {φ : Int → Option D} (hφ : ∀ (m : Nat) (a : Addr) (d : D), ρ'.ls[m]? = some a → φ (m : Int) = some d → Rep K ρ H d (.ref a)) (ho : ∀ a, ρ'.out a → ρ.out a) : ∀ (d d' : D) (v : V), Cr.frz φ d = some d' → Rep K ρ' H d v → Rep K ρ H d' v
  | .none, d', v, e, h => by cases e; exact h
  | .bool _, d', v, e, h => by cases e; exact h
  | .int _, d', v, e, h => by cases e; exact h
  | .str _, d', v, e, h => by cases e; exact h
  | .tuple xs, d', v, e, h => by
    obtain ⟨a, vs, h1, h2, h3⟩ := h
    rw [Cr.frz] at e
    obtain ⟨ys, e1, rfl⟩ := Option.map_eq_some_iff.mp e
    exact ⟨a, vs, h1, h2.elim (fun q => .inl ⟨ho _ q.1, q.2⟩) .inr, Reps.frz hφ ho xs ys vs e1 h3⟩
  | .list xs, d', v, e, h => by
    obtain ⟨a, vs, h1, h2, h3⟩ := h
    rw [Cr.frz] at e
    obtain ⟨ys, e1, rfl⟩ := Option.map_eq_some_iff.mp e
    exact ⟨a, vs, h1, h2.elim (fun q => .inl ⟨ho _ q.1, q.2⟩) .inr, Reps.frz hφ ho xs ys vs e1 h3⟩
  | .dict kvs, d', v, e, h => by
    obtain ⟨m, a, rfl, h2, rfl⟩ := h
    exact hφ m a d' h2 e
theorem Reps.frz {φ : Int → Option D} (hφ : ∀ (m : Nat) (a : Addr) (d : D), ρ'.ls[m]? = some a → φ (m : Int) = some d → Rep K ρ H d (.ref a)) (ho : ∀ a, ρ'.out a → ρ.out a) : ∀ (ds es : List D) (vs : List V), Cr.frzA φ ds = some es → Reps K ρ' H ds vs → Reps K ρ H es vs
  | [], es, vs, e, h => by rw [Cr.frzA] at e; cases e; exact h
  | x :: xs, es, vs, e, h => by
    obtain ⟨v, r, h1, h2, h3⟩ := h
    rw [Cr.frzA] at e
    obtain ⟨y, e1, e2⟩ := Option.bind_eq_some_iff.mp e
    obtain ⟨ys, e3, rfl⟩ := Option.map_eq_some_iff.mp e2
    exact ⟨v, r, h1, Rep.frz hφ ho x y v e1 h2, Reps.frz hφ ho xs ys r e3 h3⟩
end
theorem phi_ok {S : Sto} {n : Nat} (r : Rel K ca ρ' S H) (hn : ρ.ls = ρ'.ls.take n) (hb : ρ.bl = ρ'.bl) : ∀ (k : Nat) (m : Nat) (a : Addr) (d : D), ρ'.ls[m]? = some a → phi n S k (m : Int) = some d → Rep K ρ H d (.ref a) := by
  have ho : ∀ a, ρ'.out a → ρ.out a := fun a h => ⟨fun z => h.1 (List.mem_of_mem_take (hn ▸ z)), fun z => h.2 (hb ▸ z)⟩
  have low : ∀ {m : Nat} {a : Addr} {d : D}, m < n → ρ'.ls[m]? = some a → some (PyData.dict [(.int (m : Int), .none)]) = some d → Rep K ρ H d (.ref a) := fun {m a d} h h2 e => by
    cases e
    exact ⟨m, a, rfl, by rw [hn, List.getElem?_take_of_lt h]; exact h2, rfl⟩
  intro k
  induction k with
  | zero =>
    intro m a d h e
    rw [phi] at e
    split at e
    · rename_i hl
      exact low (by simpa using hl) h e
    · cases e
  | succ k ih =>
    intro m a d h e
    rw [phi] at e
    split at e
    · rename_i hl
      exact low (by simpa using hl) h e
    · rename_i hl
      have hl : ¬ m < n := by simpa using hl
      split at e
      · rename_i xs hs
        obtain ⟨ys, e1, rfl⟩ := Option.map_eq_some_iff.mp e
        have hs : S[m]? = some (.lst xs) := by simpa using hs
        obtain ⟨vs, h1, h2⟩ := r.ob m a _ h hs
        refine ⟨a, vs, rfl, .inl ⟨⟨fun z => ?_, fun z => ?_⟩, .inl h1⟩, Reps.frz ih ho _ _ _ e1 h2⟩
        · rw [hn] at z
          obtain ⟨j, hj⟩ := List.mem_iff_getElem?.mp z
          have hjn : j < n := by
            have := (List.getElem?_eq_some_iff.mp hj).1
            rw [List.length_take] at this
            omega
          rw [List.getElem?_take_of_lt hjn] at hj
          have nd := r.nd
          have := (List.getElem?_inj (List.getElem?_eq_some_iff.mp hj).1 nd).mp (hj.trans h.symm)
          omega
        · rw [hb] at z
          exact (r.bl a z).1 (List.mem_of_getElem? h)
      · cases e
theorem Rel.take {S0 S : Sto} (r0 : Rel K ca ρ S0 H) (e : Ext ρ H ρ' H') (r : Rel K ca ρ' S H') (h : S.take S0.length = S0 ∨ (S.take S0.length).all (lowO S0.length) = true) : Rel K ca ρ (S.take S0.length) H' := by
  obtain ⟨τ, hρ, _⟩ := e.pre
  have hls : ρ'.ls = ρ.ls ++ τ := by rw [hρ]
  have hbl : ρ'.bl = ρ.bl := by rw [hρ]
  have hn : ρ.ls = ρ'.ls.take S0.length := by rw [hls, ← r0.ln, List.take_left]
  have hle : S0.length ≤ S.length := by
    rw [← r0.ln, ← r.ln, hls, List.length_append]; omega
  refine ⟨r0.nd, by rw [List.length_take, r0.ln]; omega, fun i a o h1 h2 => ?_, fun b hb => ?_⟩
  · have hi : i < S0.length := by rw [← r0.ln]; exact (List.getElem?_eq_some_iff.mp h1).1
    have h2' := h2
    rw [List.getElem?_take_of_lt hi] at h2
    have q := r.ob i a o (by rw [hls, List.getElem?_append_left (by rw [r0.ln]; exact hi)]; exact h1) h2
    refine ObR.low hn hbl.symm ?_ q
    rcases h with h | h
    · rw [h] at h2'
      rw [← r0.ln]
      exact (r0.ob i a o h1 h2').isLow
    · rw [List.all_eq_true] at h
      exact h o (List.mem_of_getElem? h2')
  · have := r.bl b (by rw [hbl]; exact hb)
    refine ⟨fun z => this.1 ?_, this.2⟩
    rw [hls]
    exact List.mem_append_left _ z
theorem cut_ok {S0 S : Sto} {fl : Bool} {d : D} {v : V} {Q : VK} {E : XK} (r0 : Rel K ca ρ S0 H) (e : Ext ρ H ρ' H') (r : Rel K ca ρ' S H') (p : Rep K ρ' H' d v) (h : postF K ca ρ H (cutF fl S0 d S) Q E) : Q v H' := by
  unfold cutF at h
  split at h
  · exact h v ρ' H' e r p
  · split at h
    · rename_i d' hd
      split at h
      · rename_i hc
        obtain ⟨τ, hρ, _⟩ := e.pre
        have hls : ρ'.ls = ρ.ls ++ τ := by rw [hρ]
        have hbl : ρ.bl = ρ'.bl := by rw [hρ]
        have hn : ρ.ls = ρ'.ls.take S0.length := by rw [hls, ← r0.ln, List.take_left]
        refine h v ρ H' ⟨⟨[], by simp, fun _ z => nomatch z⟩, e.old, e.som⟩ (r0.take e r hc) ?_
        exact Rep.frz (phi_ok r hn hbl 6) (fun a h => ⟨fun z => h.1 (List.mem_of_mem_take (hn ▸ z)), fun z => h.2 (hbl ▸ z)⟩) _ _ _ hd p
      · exact h.elim
    · exact h.elim
end
end Cr
set_option Elab.async false
set_option linter.all false
set_option maxHeartbeats 4000000
set_option maxRecDepth 10000
/-! CrI: the __init__ of an own error: the base's, then fields that are its parameters. -/
namespace Cr
open PySem L2 PyProof.Rows
/-- self.f = y, .. : field and slot -/
def iniR (N : List Str) (sc : Scope) : List (Str × Nat) → List Stmt → Bool
  | [], [] => true
  | (f, i) :: r, .Assign [.Attribute (.Name s _) g _] (.Name y _) _ :: rest => decide (f = g) && decide (N[0]? = some s) && decide (N[i]? = some y) && visB sc s && visB sc y && !(s == ("__debug__" : Str)) && !(s == ("__classdict__" : Str)) && !(y == ("__debug__" : Str)) && !(y == ("__classdict__" : Str)) && iniR N sc r rest
  | _, _ => false
def iniC (N : List Str) (sc : Scope) (bn : Str) (fl : List (Str × Nat)) : List Stmt → Bool
  | .Expr (.Call (.Attribute (.Name b _) m p2) [.Name s _, .Constant (.str _) _ _] [] pos) _ :: rest => decide (b = bn) && decide (m = "__init__") && glB sc bn && !(bn == ("__debug__" : Str)) && (p2.endLine == pos.line) && decide (N[0]? = some s) && visB sc s && !(s == ("__debug__" : Str)) && !(s == ("__classdict__" : Str)) &&
      !fl.isEmpty && iniR N sc fl rest
  | _ => false
/-- the heap when some fields stand -/
def StO (K : PySem.W.Frag) (H0 H : Hp) (a C : Addr) (done : List (Str × V)) : Prop := (done = [] ∧ H = H0 ∧ H0 a = some (exo a C none)) ∨ (done ≠ [] ∧ ∃ d, H0 d = none ∧ d ≠ a ∧ H = upd (upd H0 d (exd d done)) a (exo a C (some d)))
def tIni (K : PySem.W.Frag) (C : Addr) (rest : List (Str × Nat)) : TS := fun D σ H => ∃ (H0 : Hp) (a : Addr) (done : List (Str × V)) (vals : List V), vals.length = rest.length ∧ (∀ p ∈ rest.zip vals, σ[p.1.2]? = some (some p.2)) ∧ OexC K C ∧ (∀ p ∈ rest, PySem.W.findIn K (.ref C) p.1 = some none) ∧ σ[0]? = some (some (.ref a)) ∧
  done.length + rest.length ≤ 900 ∧ StO K H0 H a C done ∧ (rest = [] → done ≠ []) ∧ ∀ d, H0 d = none → d ≠ a → D.nx σ (upd (upd H0 d (exd d (((rest.map (·.1)).zip vals).reverse ++ done))) a (exo a C (some d)))
theorem upd_two {H0 : Hp} {a d : Addr} {x y z w : HO} (h : d ≠ a) : upd (upd (upd (upd H0 d x) a y) d z) a w = upd (upd H0 d z) a w := by
  funext b
  by_cases h1 : b = a
  · rw [h1, upd_same, upd_same]
  · rw [upd_ne h1, upd_ne h1]
    by_cases h2 : b = d
    · rw [h2, upd_same, upd_same]
    · rw [upd_ne h2, upd_ne h2, upd_ne h1, upd_ne h2]
theorem upd_twoA {H0 : Hp} {a d : Addr} {x y z : HO} (h : d ≠ a) : upd (upd (upd H0 d x) a y) d z = upd (upd H0 d z) a y := by
  funext b
  by_cases h2 : b = d
  · rw [h2, upd_same, upd_ne h, upd_same]
  · rw [upd_ne h2]
    by_cases h1 : b = a
    · rw [h1, upd_same, upd_same]
    · rw [upd_ne h1, upd_ne h2, upd_ne h1, upd_ne h2]
section
variable {X : Cx} {C : Addr}
theorem ini_rest {sc : Scope} (hsc : X.env.scope = sc) : ∀ {rest : List (Str × Nat)} {body : List Stmt}, iniR X.N sc rest body = true → PSs X body (tIni X.K C rest)
  | [], [], _ => by
    refine PSs.imp pss_nil fun D σ H h => ?_
    obtain ⟨H0, a, done, vals, _, _, _, _, _, _, st, hne, q⟩ := h
    rcases st with ⟨e, _⟩ | ⟨_, d, h1, h2, rfl⟩
    · exact absurd e (hne rfl)
    · have := q d h1 h2
      cases vals <;> exact this
  | [], _ :: _, h => absurd (show false = true from h) Bool.false_ne_true
  | _ :: _, [], h => absurd (show false = true from h) Bool.false_ne_true
  | (f, i) :: r, st :: rest, h => by
    unfold iniR at h
    split at h <;> first | contradiction | skip
    · rename_i f' i' r' s p1 g p2 y p3 pos rest' heq1 heq2
      cases heq1
      cases heq2
      simp only [Bool.and_eq_true, decide_eq_true_eq, Bool.not_eq_true', Bool.not_eq_eq_eq_not] at h
      obtain ⟨⟨⟨⟨⟨⟨⟨⟨⟨rfl, h0⟩, h1⟩, h2⟩, h3⟩, h4⟩, h5⟩, h6⟩, h7⟩, h8⟩ := h
      have pS : PE X (.Name s p1) (tVar 0) := pe_var h0 (by rw [hsc]; exact vis_of h2) h4 h5
      have pY : PE X (.Name y p3) (tVar i) := pe_var h1 (by rw [hsc]; exact vis_of h3) h6 h7
      refine PSs.imp (pss_cons (ps_ost (f := f) (p' := p2) (pos := pos) pS pY rfl) (ini_rest hsc h8)) fun D σ H q => ?_
      obtain ⟨H0, a, done, vals, hl, hr, T, hf, hs, hz, st, hne, q⟩ := q
      cases vals with
      | nil => cases hl
      | cons v vs =>
        have hv : σ[i]? = some (some v) := hr ((f, i), v) (by rw [List.zip_cons_cons]; exact List.mem_cons_self)
        have hfn := hf (f, i) List.mem_cons_self
        have hr' : ∀ p ∈ r.zip vs, σ[p.1.2]? = some (some p.2) := fun p hp => hr p (by rw [List.zip_cons_cons]; exact List.mem_cons_of_mem _ hp)
        have hf' : ∀ p ∈ r, PySem.W.findIn X.K (.ref C) p.1 = some none := fun p hp => hf p (List.mem_cons_of_mem _ hp)
        have hq : ∀ d, H0 d = none → d ≠ a → D.nx σ (upd (upd H0 d (exd d (((r.map (·.1)).zip vs).reverse ++ (f, v) :: done))) a (exo a C (some d))) := fun d h1 h2 => by
          have := q d h1 h2
          rw [List.map_cons, List.zip_cons_cons, List.reverse_cons, List.append_assoc] at this
          exact this
        refine ⟨v, hv, .ref a, hs, a, C, rfl, T, hfn, ?_⟩
        rcases st with ⟨rfl, rfl, ea⟩ | ⟨hd, d, h1, h2, rfl⟩
        · refine .inl ⟨ea, fun d h1 h2 => ⟨H, a, [(f, v)], vs, Nat.succ.inj hl, hr', T, hf', hs, ?_, .inr ⟨by simp, d, h1, h2, rfl⟩, fun _ => by simp, hq⟩⟩
          simp only [List.length_cons, List.length_nil] at hz ⊢
          omega
        · refine .inr ⟨d, done, upd_same, by rw [upd_ne h2, upd_same], by omega, ⟨H0, a, (f, v) :: done, vs, Nat.succ.inj hl, hr', T, hf', hs, ?_, .inr ⟨by simp, d, h1, h2, ?_⟩, fun _ => by simp, hq⟩⟩
          · simp only [List.length_cons] at hz ⊢
            omega
          · exact upd_twoA h2
/-- B.__init__(self, ".."), B an own class over ValueError -/
theorem pe_oinit {bn : Str} {CB : Addr} {mc : Value} {e : Expr} {es : List Expr} {ta : TA} {p1 p2 pos : Pos} {pl : Sem Bool} (hg : Gl X bn) (hd : (bn == ("__debug__" : Str)) = false) (hm : X.mg bn = some (.ref CB)) (b1 : PySem.W.specialIn X.K (.ref CB) "__getattribute__" = some (some (.builtin "type.__getattribute__"))) (b2 : PySem.W.readsIn X.K CB mc = true)
    (b3 : PySem.W.findCls X.K (.ref CB) mc "__init__" = some (.val (.builtin "ValueError.__init__"))) (ha : PA X (e :: es) ta)
    (hc : eval (.Call (.Attribute (.Name bn p1) "__init__" p2) (e :: es) [] pos) X.env = (do
      let ov ← eval (.Name bn p1) X.env
      standAt p2.atName
      let (f, first) ← holding [ov] (getMethod ov "__init__" pl)
      callWith pos f first (backTo pos (starEach (e :: es) X.env)) (backToKw pos (keywordEach [] X.env))))
    (he : starEach (e :: es) X.env = (false, eval e X.env) :: starEach es X.env) (hpl : (backTo pos (starEach es X.env)).any (·.1) = false) :
    PE X (.Call (.Attribute (.Name bn p1) "__init__" p2) (e :: es) [] pos) (tVeI X.K ta) := by
  refine ⟨fun pins s σ H Q I h => ?_⟩
  refine PySem.W.methodCall_KW (ld_glob I hg hm ?_ hd) hc
  refine PySem.W.method_cls I.kIn b1 (PySem.W.cls_value I.kIn b2 b3 (by decide +kernel) ?_)
  show wpAny _ _ (callWith pos (Value.builtin "ValueError.__init__") [] (backTo pos (starEach (e :: es) X.env)) []) _ _ _
  refine PyProof.Rows.callWith_method1 (thn (ha.run pos pins _ σ H _ (I.tok _) h) fun us s1 ⟨vs, H1, I1, r1, a, C, ws, ev, hl, T, ea, q⟩ => ?_) he hpl
  subst ev
  cases r1 with
  | @cons _ u0 _ ur ra rw' =>
    obtain rfl : u0 = Value.ref a := ra
    have hlen : ur.length ≤ sizeLine := by
      rw [← Paired.length rw', sizeLine_eq]
      omega
    exact oinit_ok T I1 ea hlen fun s' J => ⟨.non, H1, J, rfl, q⟩
theorem ini_body {sc : Scope} {bn : Str} {CB : Addr} {mc : Value} (hsc : X.env.scope = sc) (hm : X.mg bn = some (.ref CB)) (b1 : PySem.W.specialIn X.K (.ref CB) "__getattribute__" = some (some (.builtin "type.__getattribute__"))) (b2 : PySem.W.readsIn X.K CB mc = true)
    (b3 : PySem.W.findCls X.K (.ref CB) mc "__init__" = some (.val (.builtin "ValueError.__init__"))) {fl : List (Str × Nat)} {body : List Stmt} (h : iniC X.N sc bn fl body = true) :
    PSs X body (fun D σ H => ∃ (a : Addr) (vals : List V), vals.length = fl.length ∧ (∀ p ∈ fl.zip vals, σ[p.1.2]? = some (some p.2)) ∧ OexC X.K C ∧ (∀ p ∈ fl, PySem.W.findIn X.K (.ref C) p.1 = some none) ∧ σ[0]? = some (some (.ref a)) ∧ fl.length ≤ 900 ∧ H a = some (exo a C none) ∧
      ∀ d, H d = none → d ≠ a → D.nx σ (upd (upd H d (exd d ((fl.map (·.1)).zip vals).reverse)) a (exo a C (some d)))) := by
  unfold iniC at h
  split at h <;> try contradiction
  rename_i b p1 m p2 s p3 x j p4 pos pos' rest
  simp only [Bool.and_eq_true, decide_eq_true_eq, Bool.not_eq_true', Bool.not_eq_eq_eq_not] at h
  obtain ⟨⟨⟨⟨⟨⟨⟨⟨⟨⟨rfl, rfl⟩, h1⟩, h2⟩, h3⟩, h4⟩, h5⟩, h6⟩, h7⟩, h8⟩, h9⟩ := h
  have pS : PE X (.Name s p3) (tVar 0) := pe_var h4 (by rw [hsc]; exact vis_of h5) h6 h7
  have pa := pa_cons pS (pa_cons (pe_str (x := x) (j := j) (pos := p4)) pa_nil rfl) rfl
  have eq := meth_eq (o := .Name b p1) (m := "__init__") (apos := p2) (pos := pos) (args := [.Name s p3, .Constant (.str x) j p4]) (env := X.env) rfl rfl h3
  have pe := pe_oinit (gl_of hsc h1) h2 hm b1 b2 b3 pa eq rfl rfl
  refine PSs.imp (pss_cons (ps_expr pe rfl) (ini_rest (C := C) hsc h9)) fun D σ H q => ?_
  obtain ⟨a, vals, hl, hr, T, hf, hs, hz, ea, q⟩ := q
  refine ⟨.ref a, hs, a, C, [.str x], rfl, by simp, T, ea, H, a, [], vals, hl, hr, T, hf, hs, by simpa using hz, .inl ⟨rfl, rfl, ea⟩, fun z => ?_, fun d h1 h2 => ?_⟩
  · rw [z] at h8; cases h8
  · rw [List.append_nil]
    exact q d h1 h2
end
theorem iniOk_of {P : Program} {w : World} {K : PySem.W.Frag} {mg : Str → Option Value} {base : Heap} {C CB fI : Addr} {bn qual : Str} {st : Stmt} {fd : FuncData} {ps fl : List Str} {mc : Value} (F : L2.Fun K "__init__" qual st fI fd) (S : FnScope ps ps (defScope st)) (hb : Binds K fd ps []) (T : OexC K C)
    (f1 : PySem.W.findIn K (.ref C) "__init__" = some (some (.ref fI))) (f2 : PySem.W.typeIn K (.ref fI) = some (.type "function")) (hB : mg bn = some (.ref CB)) (b1 : PySem.W.specialIn K (.ref CB) "__getattribute__" = some (some (.builtin "type.__getattribute__"))) (b2 : PySem.W.readsIn K CB mc = true)
    (b3 : PySem.W.findCls K (.ref CB) mc "__init__" = some (.val (.builtin "ValueError.__init__"))) (hf : ∀ f ∈ fl, PySem.W.findIn K (.ref C) f = some none) (hl : ps.length = fl.length + 1) (h9 : fl.length ≤ 900)
    (chk : iniC ps (defScope st) bn (fl.zip ((List.range fl.length).map (· + 1))) (defBody st) = true) : IniOk P w K mg base C (some fl) := by
  refine ⟨T, fI, fd, ps, f1, f2, hb, hl, ?_⟩
  refine F.ok S (fun vs H Q E h => ?_) fun cdv A outer s H vs Q E hr h => ?_
  · obtain ⟨a, ws, rfl, h1, _⟩ := h
    rw [List.length_cons, h1, hl]
  · obtain ⟨a, ws, rfl, h1, ea, q⟩ := h
    have lz : (fl.zip ((List.range fl.length).map (· + 1))).length = fl.length := by simp
    refine ⟨_, ini_body (C := C) (X := (cxOf CX0 P w K mg base ps qual (defScope st) fI cdv A outer s H E).nox) rfl hB b1 b2 b3 chk, a, ws, by rw [lz, h1], fun p hp => ?_, T, fun p hp => hf _ (List.of_mem_zip hp).1, rfl, by rw [lz]; exact h9, ea, fun d h2 h3 => ?_⟩
    · obtain ⟨⟨f, i⟩, v⟩ := p
      obtain ⟨k, hk⟩ := List.mem_iff_getElem?.mp hp
      rw [List.getElem?_zip_eq_some] at hk
      obtain ⟨k1, k2⟩ := hk
      rw [List.getElem?_zip_eq_some] at k1
      obtain ⟨k3, k4⟩ := k1
      have hkl : k < fl.length := (List.getElem?_eq_some_iff.mp k3).1
      rw [List.getElem?_map, List.getElem?_range hkl] at k4
      have hi : i = k + 1 := by simpa using k4.symm
      subst hi
      show ((V.ref a :: ws).map some ++ _)[k + 1]? = _
      rw [List.getElem?_append_left (by simp; omega), List.getElem?_map, List.getElem?_cons_succ]
      dsimp only at k2
      rw [k2]
      rfl
    · have := q d h2 h3
      rw [List.map_fst_zip (by simp)]
      exact this
end Cr
set_option Elab.async false
set_option linter.all false
set_option maxHeartbeats 4000000
set_option maxRecDepth 10000
/-! Cr21: all defs of a program; the law's call. -/
namespace Cr
open PySem L2 PyProof.Rows
/-- a def stands at an address as the core text tells -/
structure DefAt (K : PySem.W.Frag) (C : Cxt) (fn : Fn) (x qual : Str) (a : Addr) : Prop where
  hot : C.hot = false
  blk : C.blk = false
  ex : ∃ (st : Stmt) (fd : FuncData) (ps : List Str), L2.Fun K x qual st a fd ∧ FnScope C.N ps (defScope st) ∧ C.sc = defScope st ∧ chkB C fn.body (defBody st) = true ∧ ps.length = fn.p ∧ C.N.length ≤ fn.n ∧ Binds K fd ps []
/-- a global datum -/
def DatOk (K : PySem.W.Frag) (mg : Str → Option Value) (x : Str) (p : D) : Prop := ∃ v u, mg x = some u ∧ RelV v u ∧ ∀ ρ H, Rep K ρ H p v
structure Prg (P : Program) (w : World) (K : PySem.W.Frag) (mg : Str → Option Value) (ca : Nat → Addr) (T : Nat → Option Fn) (G : Gb) : Prop where
  df : ∀ (f : Nat) (x : Str) (np : Nat), G.fns[f]? = some (x, np) → x ≠ Str.empty → ∃ fn C a, T f = some fn ∧ fn.p = np ∧ C.toGb = G ∧ DefAt K C fn x x a ∧ mg x = some (.ref a)
  mt : ∀ (f c : Nat) (nm : Str) (np : Nat), (f, c, nm, np) ∈ G.mts → ∃ fn C a x q, T f = some fn ∧ fn.p = np ∧ C.toGb = G ∧ DefAt K C fn x q a ∧ Cls K (ca c) ∧ Meth K (ca c) nm a
  nw : ∀ (x : Str) (c f np : Nat), (x, c, f, np) ∈ G.nws → ∃ fn C a y q, T f = some fn ∧ fn.p = np ∧ C.toGb = G ∧ DefAt K C fn y q a ∧ mg x = some (.ref (ca c)) ∧ Mk K (ca c) a
  fl : ∀ (c : Nat) (f : Str), (c, f) ∈ G.fls → FldOk K (ca c) f
  er : ∀ (x : Str) (c : Nat) (fl : Option (List Str)), (x, c, fl) ∈ G.exc → ∀ base : Heap, ErrOk P w K mg base (ca c) x fl
  ct : ∀ (x : Str) (cs ds : List Nat), G.sub.lookup x = some (cs, ds) → CatOk K mg ca x cs ds
  xf : ∀ (c : Nat) (f : Str), (c, f) ∈ G.xfs → XfC K (ca c) ∧ PySem.W.findIn K (.ref (ca c)) f = some none
  dt : ∀ x p, G.gls.lookup x = some p → DatOk K mg x p
  bi : ∀ x ∈ bNames, mg x = none
section
variable {P : Program} {w : World} {K : PySem.W.Frag} {mg : Str → Option Value} {base : Heap} {ca : Nat → Addr} {T : Nat → Option Fn} {G : Gb} {N : Nat}
theorem spF_len {np : Nat} {g : List D → Sto → Out D} {vs : List V} {H : Hp} {Q : VK} {E : XK} (h : spF K ca np g vs H Q E) : vs.length = np := by
  obtain ⟨ρ, S, ds, h1, _, h2, _⟩ := h
  rw [h2.length, h1]
theorem start_rel {ρ : Lo} {H : Hp} {ds : List D} {vs : List V} {n : Nat} {M : List Str} (hn : M.length ≤ n) (hp : ds.length ≤ M.length) (h : Reps K ρ H ds vs) : FRel ⟨K, ca, M.length, [], none⟩ ρ H (start0 n ds) (L2.start M vs) := by
  have hl := h.length
  refine ⟨?_, ?_, fun i d hi e => ?_, (fun p z => nomatch z), (fun p z => nomatch z)⟩
  · show (L2.start M vs).length = M.length
    unfold L2.start
    rw [List.length_append, List.length_map, List.length_replicate]
    omega
  · show M.length ≤ (start0 n ds).length
    unfold start0
    rw [List.length_append, List.length_map, List.length_replicate]
    omega
  unfold start0 at e
  by_cases hi : i < ds.length
  · rw [List.getElem?_append_left (by simpa using hi), List.getElem?_map] at e
    cases q : ds[i]? with
    | none => rw [q] at e; cases e
    | some d' =>
      rw [q] at e
      cases e
      obtain ⟨v, hv, pv⟩ := h.get q
      refine ⟨v, ?_, pv⟩
      unfold L2.start
      rw [List.getElem?_append_left (by simpa [hl] using hi), List.getElem?_map, hv]
      rfl
  · rw [List.getElem?_append_right (by simpa using hi), List.getElem?_replicate] at e
    split at e <;> cases e
/-- a def at a level -/
def AtN (P : Program) (w : World) (K : PySem.W.Frag) (mg : Str → Option Value) (base : Heap) (ca : Nat → Addr) (n : Nat) (fn : Fn) (a : Addr) (g : List D → Sto → Out D) : Prop :=
  ∃ (fd : FuncData) (ps : List Str), ps.length = fn.p ∧ PySem.W.keepIn K (.ref a) = true ∧ Binds K fd ps [] ∧ FnG P w K mg base n a fd ps (spF K ca fn.p g)
theorem def_run {n : Nat} {C : Cxt} {fn : Fn} {x qual : Str} {f : Nat} {a : Addr} {st : Stmt} {fd : FuncData} {ps : List Str} (pr : Prg P w K mg ca T G) (hT : T f = some fn) (hc : C.toGb = G) (hh : C.hot = false) (hbk : C.blk = false) (F : L2.Fun K x qual st a fd) (sc : FnScope C.N ps (defScope st)) (hsc : C.sc = defScope st)
    (hchk : chkB C fn.body (defBody st) = true) (hp : ps.length = fn.p) (hn : C.N.length ≤ fn.n) (ih : ∀ (g : Nat) (gn : Fn) (D : Cxt) (y q : Str) (b : Addr), T g = some gn → D.toGb = G → DefAt K D gn y q b → AtN P w K mg base ca n gn b (callN T N n g)) : FnG P w K mg base (n + 1) a fd ps (spF K ca fn.p (callN T N (n + 1) f)) := by
  obtain ⟨oc, od, kV, doc, pm, an, cdv, ct, osl, rfl, lk, hcd⟩ := F.ex
  refine fnG_of (N := C.N) lk hcd sc (fun vs H Q E h => by rw [spF_len h, hp]) fun A outer s H vs Q E hr hsp => ?_
  obtain ⟨ρ, S, ds, h1, rel, rp, h⟩ := hsp
  subst hc
  have fit : FitS C ⟨ca, C.N.length, [], none⟩ n (callN T N n) (cxOf (CX P w) P w K mg base C.N qual (defScope st) a cdv A outer s H E) (fun cls d _ H => E cls d H) :=
    { N := rfl, nb := rfl
      xs := fun _ => rfl
      xe := fun _ => rfl
      nd := sc.nd
      sc := hsc.symm
      calm := fun _ => rfl
      own := fun _ _ => ⟨rfl, rfl⟩
      units := by have := hr.un; show (A.deeper _).units + 100 < cLine; omega
      tk := takes_of (E := E) rfl rfl rfl rfl
      room := fun _ => hr
      gf := fun g y np e hy => by
        obtain ⟨gn, D, b, t1, t2, t3, t4, t5⟩ := pr.df g y np e hy
        obtain ⟨fd2, ps2, k1, k2, k3, k4⟩ := ih g gn D y y b t1 t3 t4
        exact ⟨b, fd2, ps2, by rw [k1, t2], t5, k2, k3, by rw [t2] at k4; exact k4⟩
      gm := fun g c nm np e => by
        obtain ⟨gn, D, b, y, q, t1, t2, t3, t4, t5, t6⟩ := pr.mt g c nm np e
        obtain ⟨fd2, ps2, k1, k2, k3, k4⟩ := ih g gn D y q b t1 t3 t4
        exact ⟨b, fd2, ps2, by rw [k1, t2], t5, t6, k3, by rw [t2] at k4; exact k4⟩
      gn := fun y c g np e => by
        obtain ⟨gn, D, b, z, q, t1, t2, t3, t4, t5, t6⟩ := pr.nw y c g np e
        obtain ⟨fd2, ps2, k1, k2, k3, k4⟩ := ih g gn D z q b t1 t3 t4
        exact ⟨b, fd2, ps2, by rw [k1, t2], t5, t6, k3, by rw [t2] at k4; exact k4⟩
      fl := pr.fl
      er := fun y c fl e => pr.er y c fl e _
      ct := pr.ct
      xf := pr.xf
      bi := pr.bi
      gd := fun y p e => pr.dt y p e
      hx := fun z => by rw [hh] at z; cases z
      pw := passes_of rfl
      kind := sc.kind
      fn := fun _ => rfl
      blk := hbk }
  have hle : ps.length ≤ C.N.length := by
    have := congrArg List.length sc.pre
    rw [List.length_take] at this
    omega
  refine ⟨_, sndB (N := N) fn.body hchk fit, ρ, S, start0 fn.n ds, ⟨rel, start_rel hn (by omega) rp⟩, ?_⟩
  rw [callN, hT] at h
  dsimp only at h
  rw [if_pos h1] at h
  cases eb : evB N (callN T N n) fn.body (start0 fn.n ds) S with
  | nx s' S' =>
    rw [eb] at h
    exact fun ρ' H' σ e a => cut_ok rel e a.rel (show Rep K ρ' H' .none .non from rfl) h
  | rt d S' =>
    rw [eb] at h
    exact fun v ρ' H' e r p => cut_ok rel e r p h
  | bk s' S' => rw [eb] at h; exact h.elim
  | ct s' S' => rw [eb] at h; exact h.elim
  | ex c fs s' S' =>
    rw [eb] at h
    exact fun ρ' H' σ cls d e a x => h ρ' H' cls d e a.rel x
  | bad => rw [eb] at h; exact h.elim
theorem all_at (pr : Prg P w K mg ca T G) : ∀ (n f : Nat) (fn : Fn) (C : Cxt) (x q : Str) (a : Addr), T f = some fn → C.toGb = G → DefAt K C fn x q a → AtN P w K mg base ca n fn a (callN T N n f)
  | 0, f, fn, C, x, q, a, hT, hc, d => by
    obtain ⟨st, fd, ps, F, sc, hsc, hchk, hp, hn, hb⟩ := d.ex
    refine ⟨fd, ps, hp, F.kp, hb, ⟨fun vs H Q E h => by rw [spF_len h, hp], fun A outer s H args us vs Q E _ _ _ _ h => ?_⟩⟩
    obtain ⟨ρ, S, ds, _, _, _, h⟩ := h
    rw [callN] at h
    exact h.elim
  | n + 1, f, fn, C, x, q, a, hT, hc, d => by
    obtain ⟨st, fd, ps, F, sc, hsc, hchk, hp, hn, hb⟩ := d.ex
    exact ⟨fd, ps, hp, F.kp, hb, def_run pr hT hc d.hot d.blk F sc hsc hchk hp hn (all_at pr n)⟩
end
/-! ### the law's call -/
section
variable {P : Program} {w : World} {K : PySem.W.Frag} {mg mb : Str → Option Value} {ca : Nat → Addr}
theorem reps_ints {ρ : Lo} {H : Hp} : ∀ ns : List Int, Reps K ρ H (ns.map PyData.int) (ns.map V.int)
  | [] => rfl
  | n :: r => ⟨.int n, r.map V.int, rfl, rfl, reps_ints r⟩
/-- the heap's own part, with the script apart -/
theorem head_heap {n : Nat} {fa a : Addr} {fd : FuncData} {x : Str} {g : List D → Sto → Out D} {s₁ : Shared} {vs : List Value} {ns : List Int} (H : Hp)
    (hH : ∀ b u, H b = some u → b = a ∧ u = .frz { cls := .type "list", data := .seq vs.toArray } (.lst (ns.map V.int)) ∧ K.lookup a = none) (hS : LL K ⟨[], []⟩ H a (ns.map V.int))
    (KX : K.In s₁.heap) (hns : s₁.heap.Ns mainGlobals mg) (hb : s₁.heap.Ns builtinsNs mb) (hbb : ∀ x : Str, x ≠ "__name__" → mb x = bootBuiltins x) (hlim : s₁.heap.NoLimit) (hg : s₁.gens = #[])
    (ha : s₁.heap.get? a = some { cls := .type "list", data := .seq vs.toArray }) (hi : IntsAre vs ns) (hl : ns.length ≤ sizeLine) (hr : RoomG n callerA)
    (F : ∀ base : Heap, K.In base → base.Ns mainGlobals mg → FnG P w K mg base n fa fd [x] (spF K ca 1 g)) (hbind : ∀ u : Value, BindsTo s₁ fd ⟨[u], []⟩ [(x, u)])
    (hlaw : ∃ S, g [.list (ns.map PyData.int)] [] = .ok (.bool true) S) :
    codeAny (model P w) callerA (.call (.ref fa) ⟨[.ref a], []⟩) (fun r s' => r = .ok (.ret (.bool true)) ∧ OldK s₁.heap s'.heap ∧ s'.os = s₁.os ∧ AllBare s'.gens) s₁ := by
  have free : ∀ b, b ≠ a → H b = none := fun b hne => by
    cases q : H b with
    | none => rfl
    | some u => exact absurd (hH b u q).1 hne
  have keepNs : ∀ {b : Addr} {m : Str → Option Value}, s₁.heap.Ns b m → (hidT s₁.heap H).Ns b m := by
    rintro b m ⟨o, es, ep, h1, h2, h3⟩
    refine ⟨o, es, ep, hidT_get h1 (free b fun hba => ?_), h2, h3⟩
    rw [hba, ha] at h1
    have ho := Option.some.inj h1
    rw [← ho] at h2
    cases h2
  have kin : K.In (hidT s₁.heap H) := by
    intro b o e
    refine hidT_get (KX b o e) ?_
    cases q : H b with
    | none => rfl
    | some u =>
      obtain ⟨rfl, _, hk⟩ := hH b u q
      rw [hk] at e; cases e
  obtain ⟨mc, c1, c2⟩ := hlim
  have md : Mod K mg (hidT s₁.heap H) := { kin := kin, glob := keepNs hns, blt := ⟨mb, keepNs hb, hbb⟩, nolimit := ⟨mc, keepNs c1, c2⟩ }
  have rvs := vals_ints hi
  have hok : HOk P w H s₁.heap := by
    intro b u e
    obtain ⟨rfl, rfl, _⟩ := hH b u e
    exact ⟨ha, by rw [List.length_map]; exact hl, vs, _, rvs, ha⟩
  have env : Env0 P w K mg (hidT s₁.heap H) callerA [] s₁ H :=
    { frames := rfl, mod := md, bs := fun b o e => of_hidT e, bsz := Nat.le_of_eq (hidT_size _ _), funs := trivial, frf := fun b z => absurd z List.not_mem_nil, hok := hok, bare := .of_eq hg }
  obtain ⟨S, hlaw⟩ := hlaw
  have rel0 : Rel K ca ⟨[], []⟩ [] H := ⟨List.nodup_nil, rfl, fun i b o h1 _ => by simp at h1, fun b z => absurd z List.not_mem_nil⟩
  have sp : spF K ca 1 g [.ref a] H (fun v _ => v = .bl true) (fun _ _ _ => False) := by
    refine ⟨⟨[], []⟩, [], [.list (ns.map PyData.int)], rfl, rel0, ⟨.ref a, [], rfl, ⟨a, ns.map V.int, rfl, hS, reps_ints ns⟩, rfl⟩, ?_⟩
    rw [hlaw]
    exact fun v ρ' H' _ _ p => p
  refine codeAny_mono ((F _ kin (keepNs hns)).run callerA [] s₁ H ⟨[.ref a], []⟩ [.ref a] [.ref a] _ _ hr env (hbind (.ref a)) (.cons rfl .nil) sp) fun r s' h => ?_
  rcases r with e | fl
  · obtain ⟨_, _, _, _, _, _, _, _, _, _, _, _, z⟩ := h
    exact z.elim
  cases fl with
  | ret u =>
    obtain ⟨v, H', h1, h2, un, hok', rv, hv⟩ := h
    obtain rfl : v = .bl true := hv
    obtain rfl : u = .bool true := rv
    refine ⟨rfl, OldK.of_keep fun b o e => ?_, h1, h2⟩
    cases q : H b with
    | none => exact un.keep b o e q (fun z => absurd z List.not_mem_nil) (fun z => absurd z List.not_mem_nil)
    | some z =>
      obtain ⟨rfl, rfl, _⟩ := hH b z q
      have h3 := (hok' b _ (un.frzs b _ _ q)).1
      rw [ha] at e
      cases e
      exact h3
  | _ => exact h.elim
theorem law_callG {n : Nat} {fa a : Addr} {fd : FuncData} {x : Str} {g : List D → Sto → Out D} {s₁ : Shared} {vs : List Value} {ns : List Int}
    (KX : K.In s₁.heap) (hns : s₁.heap.Ns mainGlobals mg) (hb : s₁.heap.Ns builtinsNs mb) (hbb : ∀ x : Str, x ≠ "__name__" → mb x = bootBuiltins x) (hlim : s₁.heap.NoLimit) (hg : s₁.gens = #[])
    (ha : s₁.heap.get? a = some { cls := .type "list", data := .seq vs.toArray }) (hi : IntsAre vs ns) (hl : ns.length ≤ sizeLine) (hr : RoomG n callerA)
    (F : ∀ base : Heap, K.In base → base.Ns mainGlobals mg → FnG P w K mg base n fa fd [x] (spF K ca 1 g)) (hbind : ∀ u : Value, BindsTo s₁ fd ⟨[u], []⟩ [(x, u)])
    (hlaw : ∃ S, g [.list (ns.map PyData.int)] [] = .ok (.bool true) S) :
    codeAny (model P w) callerA (.call (.ref fa) ⟨[.ref a], []⟩) (fun r s' => r = .ok (.ret (.bool true)) ∧ OldK s₁.heap s'.heap ∧ s'.os = s₁.os ∧ AllBare s'.gens) s₁ := by
  have rvs := vals_ints hi
  by_cases hk : K.lookup a = none
  · let u : HO := .frz { cls := .type "list", data := .seq vs.toArray } (.lst (ns.map V.int))
    have hu : upd (fun _ => none) a u a = some u := upd_same
    refine head_heap (upd (fun _ => none) a u) (fun b z e => ?_) (.inl ⟨⟨List.not_mem_nil, List.not_mem_nil⟩, .inr ⟨_, hu⟩⟩) KX hns hb hbb hlim hg ha hi hl hr F hbind hlaw
    by_cases hba : b = a
    · rw [hba, hu] at e
      exact ⟨hba, (Option.some.inj e).symm, hk⟩
    · rw [upd_ne hba] at e
      cases e
  · obtain ⟨o, ho⟩ := Option.ne_none_iff_exists'.mp hk
    have e := KX a o ho
    rw [ha] at e
    obtain rfl := Option.some.inj e
    exact head_heap (fun _ => none) (fun b z e => by cases e) (.inr ⟨vs, _, ho, by rw [List.length_map]; exact hl, rvs⟩) KX hns hb hbb hlim hg ha hi hl hr F hbind hlaw
end
theorem roomG_caller : RoomG 340 callerA := ⟨rfl, by decide +kernel, by decide +kernel, rfl⟩
/-- the classes' addresses -/
def adOf (cn : Nat → Str) (mg : Str → Option Value) : Nat → Addr := fun c => match mg (cn c) with
  | some (.ref a) => a
  | _ => 0
/-- the goal behind the head -/
theorem walk_cr {l : PySem.W.OpenLaw} {q : Program} {loose : List Str} {XP : (Str → Option Value) → Heap → Prop} {YP : World → Heap → Prop} {d : DefRec} {K : Params → PySem.W.Frag} {n N f : Nat} {T : Nat → Option Fn} {G : Gb} (cn : Nat → Str)
    (hn : l.most = some 63) (hdf : d.params.defaults = []) (hr : n + 1 ≤ 340) (hY : ∀ (w : World) (h : Heap), YP w h → (K w.params).In h) (hf : G.fns[f]? = some (d.name, 1)) (hd : d.name ≠ Str.empty)
    (F : ∀ (w : World) (mg : Str → Option Value) (h : Heap), (K w.params).In h → h.Ns mainGlobals mg → Prg l.prog w (K w.params) mg (adOf cn mg) T G)
    (hlaw : ∀ ns : List Int, ns.length ≤ 63 → (∀ z ∈ ns, Builtin.Int.intBits z ≤ 1048576) → ∃ S, callN T N (n + 1) f [.list (ns.map PyData.int)] [] = .ok (.bool true) S) :
    PySem.W.WalkO q loose XP YP l.row.toRowW d [] (fun f vs => PySem.call f vs) := by
  refine Att.attach_callB hn hdf fun w s₀ s₁ mg mb fa o pm cd doc a vs ns Gd Y ho hd1 hcd hmg hobj hints hlen hbits hg => ?_
  have KX := hY w _ Y
  have pr := F w mg _ KX Gd.T.g
  obtain ⟨fn, C, b, hT, hp, hc, D, hm⟩ := pr.df f d.name 1 hf hd
  obtain ⟨st, fd, ps, Fu, sc, hsc, hchk, hp2, hn2, hb⟩ := D.ex
  rw [hmg] at hm
  obtain rfl : fa = b := by cases hm; rfl
  have hone : ps.length = 1 := by rw [hp2, hp]
  obtain ⟨x, rfl⟩ := List.length_eq_one_iff.mp hone
  have run : ∀ base : Heap, (K w.params).In base → base.Ns mainGlobals mg → FnG l.prog w (K w.params) mg base (n + 1) fa fd [x] (spF (K w.params) (adOf cn mg) 1 (callN T N (n + 1) f)) := fun base _ _ => by
    have := def_run (P := l.prog) (w := w) (base := base) (N := N) (n := n) (f := f) pr hT hc D.hot D.blk Fu sc hsc hchk hp2 hn2 (all_at pr n)
    rw [hp] at this
    exact this
  have hbind : ∀ u : Value, BindsTo s₁ fd ⟨[u], []⟩ [(x, u)] := fun u => hb s₁ [u] KX rfl
  exact law_callG KX Gd.T.g Gd.T.b Gd.T.builtins Gd.T.nolimit hg hobj hints (Nat.le_trans hlen (by decide)) (roomG_caller.mono hr) run hbind (hlaw ns hlen hbits)
end Cr
set_option Elab.async false
set_option linter.all false
set_option maxHeartbeats 1000000
set_option maxRecDepth 10000
/-! CrJ: what the written part says of classes, as tests. -/
namespace Cr
open PySem L2 PyProof.Rows
def isV (a : Option (Option Value)) (b : Option (Option Value)) : Bool := decide (a = b)
theorem isV_ok {a b : Option (Option Value)} (h : isV a b = true) : a = b := of_decide_eq_true h
theorem a2 {a b : Bool} (h : (a && b) = true) : a = true ∧ b = true := Bool.and_eq_true_iff.mp h
section
variable {K : PySem.W.Frag}
def clsB (K : PySem.W.Frag) (C : Addr) : Bool := PySem.W.plainGet K C Str.empty && (PySem.W.hasDictIn K C && (PySem.W.plainOver K C && isV (PySem.W.findIn K (.ref C) "__setattr__") (some (some (.builtin "object.__setattr__")))))
theorem clsB_ok {C : Addr} (h : clsB K C = true) : Cls K C := by
  obtain ⟨h1, h⟩ := a2 h
  obtain ⟨h2, h⟩ := a2 h
  obtain ⟨h3, h4⟩ := a2 h
  exact ⟨h1, h2, h3, isV_ok h4⟩
def noB (K : PySem.W.Frag) (C : Addr) (f : Str) : Bool := isV (PySem.W.findIn K (.ref C) f) (some none)
theorem noB_ok {C : Addr} {f : Str} (h : noB K C f = true) : PySem.W.findIn K (.ref C) f = some none := isV_ok h
def nosB (K : PySem.W.Frag) (C : Addr) (fs : List Str) : Bool := fs.all (noB K C)
theorem nosB_ok {C : Addr} {fs : List Str} (h : nosB K C fs = true) {f : Str} (hf : f ∈ fs) : PySem.W.findIn K (.ref C) f = some none := noB_ok (List.all_eq_true.mp h f hf)
def methB (K : PySem.W.Frag) (C : Addr) (m : Str) (a : Addr) : Bool := isV (PySem.W.findIn K (.ref C) m) (some (some (.ref a))) && (PySem.W.isFn K (.ref a) && PySem.W.keepIn K (.ref a))
theorem methB_ok {C : Addr} {m : Str} {a : Addr} (h : methB K C m a = true) : Meth K C m a := by
  obtain ⟨h1, h⟩ := a2 h
  obtain ⟨h2, h3⟩ := a2 h
  exact ⟨isV_ok h1, h2, h3⟩
def mkB (K : PySem.W.Frag) (C a : Addr) : Bool := PySem.W.makesIn K C && (isV (PySem.W.findIn K (.ref C) "__init__") (some (some (.ref a))) && (PySem.W.isFn K (.ref a) && PySem.W.keepIn K (.ref C)))
theorem mkB_ok {C a : Addr} (h : mkB K C a = true) : Mk K C a := by
  obtain ⟨h1, h⟩ := a2 h
  obtain ⟨h2, h⟩ := a2 h
  obtain ⟨h3, h4⟩ := a2 h
  exact ⟨h1, isV_ok h2, h3, h4⟩
def oclB (K : PySem.W.Frag) (C : Addr) : Bool := match K.lookup C with
  | some ⟨.type "type", _, .cls cd, sl⟩ => (match cd.mro, sl.toList with
    | .ref C' :: bm, [_, _, _, _, some (.builtin n), _] => C' == C && (n == "ValueError.__new__" && (!cd.hasDel && (cd.hasDict && PySem.HandSPX.refsVE bm)))
    | _, _ => false)
  | _ => false
theorem oclB_ok {C : Addr} (h : oclB K C = true) : ∃ nm q N bs bm sn sub ab col dd k0 k1 k2 k3 k5, K.lookup C = some (excClassObj nm q C N bs bm true sn sub ab col dd k0 k1 k2 k3 k5 "ValueError.__new__") ∧ PySem.HandSPX.refsVE bm = true := by
  unfold oclB at h
  split at h
  · rename_i dd cd sl ho
    split at h
    · rename_i C' bm k0 k1 k2 k3 n k5 hm hs
      simp only [Bool.and_eq_true, beq_iff_eq, Bool.not_eq_true'] at h
      obtain ⟨rfl, rfl, hdel, hdict, ht⟩ := h
      obtain ⟨nm, bs, mro, ns, qn, hd, sn, sub, ab, col, del⟩ := cd
      dsimp only at hm hdel hdict
      subst hm hdel hdict
      have hsl : sl = #[k0, k1, k2, k3, some (.builtin "ValueError.__new__"), k5] := by
        obtain ⟨l⟩ := sl
        simp only at hs
        rw [hs]
      subst hsl
      exact ⟨nm, qn, ns, bs, bm, sn, sub, ab, col, dd, k0, k1, k2, k3, k5, ho, ht⟩
    · cases h
  · cases h
/-- an own error with its own __init__ -/
def oexB (K : PySem.W.Frag) (C fI : Addr) : Bool := oclB K C && (isV (PySem.W.findIn K (.ref C) "__setattr__") (some (some (.builtin "object.__setattr__"))) && (decide (PySem.W.subIn K (.ref C) (.type "BaseException") = some true) && (decide (PySem.W.typeIn K (.ref C) = some (.type "type")) && (PySem.W.keepIn K (.ref C) &&
  (isV (PySem.W.findIn K (.ref C) "__init__") (some (some (.ref fI))) && decide (PySem.W.typeIn K (.ref fI) = some (.type "function")))))))
theorem oexB_ok {C fI : Addr} (h : oexB K C fI = true) : OexC K C ∧ PySem.W.findIn K (.ref C) "__init__" = some (some (.ref fI)) ∧ PySem.W.typeIn K (.ref fI) = some (.type "function") := by
  obtain ⟨h1, h⟩ := a2 h
  obtain ⟨h2, h⟩ := a2 h
  obtain ⟨h3, h⟩ := a2 h
  obtain ⟨h4, h⟩ := a2 h
  obtain ⟨h5, h⟩ := a2 h
  obtain ⟨h6, h7⟩ := a2 h
  exact ⟨⟨oclB_ok h1, isV_ok h2, of_decide_eq_true h3, of_decide_eq_true h4, h5⟩, isV_ok h6, of_decide_eq_true h7⟩
/-- a class whose __init__ is ValueError's -/
def binB (K : PySem.W.Frag) (CB : Addr) : Bool := isV (PySem.W.specialIn K (.ref CB) "__getattribute__") (some (some (.builtin "type.__getattribute__"))) && (PySem.W.readsIn K CB (.type "type") && (match PySem.W.findCls K (.ref CB) (.type "type") "__init__" with
  | some (.val v) => decide (v = .builtin "ValueError.__init__")
  | _ => false))
theorem binB_ok {CB : Addr} (h : binB K CB = true) : PySem.W.specialIn K (.ref CB) "__getattribute__" = some (some (.builtin "type.__getattribute__")) ∧ PySem.W.readsIn K CB (.type "type") = true ∧ PySem.W.findCls K (.ref CB) (.type "type") "__init__" = some (.val (.builtin "ValueError.__init__")) := by
  obtain ⟨h1, h⟩ := a2 h
  obtain ⟨h2, h3⟩ := a2 h
  refine ⟨isV_ok h1, h2, ?_⟩
  split at h3
  · rename_i v hv
    rw [hv, of_decide_eq_true h3]
  · cases h3
/-- an exception's class that is told from others -/
def excB (K : PySem.W.Frag) (D : Addr) : Bool := isV (PySem.W.findIn K (.ref D) "__getattribute__") (some (some (.builtin "BaseException.__getattribute__"))) && (isV (PySem.W.findIn K (.ref D) "__getattr__") (some none) && (decide (PySem.W.subIn K (.ref D) (.type "BaseException") = some true) && (PySem.W.hasDictIn K D &&
  (isV (PySem.W.findIn K (.ref D) "__class__") (some (some (.builtin "object.__class__"))) && (isV (PySem.W.specialIn K (.builtin "object.__class__") "__get__") (some (some (.builtin "getset_descriptor.__get__"))) && (decide (PySem.W.takesIn K (.builtin "object.__class__") = some true) &&
  decide (PySem.W.mroIn K D (.type "object") = some true)))))))
theorem excB_ok {D : Addr} (h : excB K D = true) : L2.ExcC K D ∧ XfC K D := by
  obtain ⟨h1, h⟩ := a2 h
  obtain ⟨h2, h⟩ := a2 h
  obtain ⟨h3, h⟩ := a2 h
  obtain ⟨h4, h⟩ := a2 h
  obtain ⟨h5, h⟩ := a2 h
  obtain ⟨h6, h⟩ := a2 h
  obtain ⟨h7, h8⟩ := a2 h
  exact ⟨⟨isV_ok h1, isV_ok h2, of_decide_eq_true h3, h4, isV_ok h5, isV_ok h6, of_decide_eq_true h7, of_decide_eq_true h8⟩, ⟨isV_ok h1, isV_ok h2, of_decide_eq_true h3, h4⟩⟩
/-- whether a name of an except clause catches a class -/
def catB (K : PySem.W.Frag) (D C : Addr) (b : Bool) : Bool := decide (PySem.W.exmOne K (.ref D) (.ref C) = some b) && decide (PySem.W.kitOne K (.ref D) (.ref C) = some b)
theorem catB_ok {D C : Addr} {b : Bool} (h : catB K D C b = true) : PySem.W.exmOne K (.ref D) (.ref C) = some b ∧ PySem.W.kitOne K (.ref D) (.ref C) = some b := by
  obtain ⟨h1, h2⟩ := a2 h
  exact ⟨of_decide_eq_true h1, of_decide_eq_true h2⟩
/-! ### defs -/
/-- what stands at a def's address -/
def obsF (K : PySem.W.Frag) (a : Addr) : Option (Str × Str × Arguments × FuncBody × Scope × Addr × List (Str × Addr) × Value × Addr) := match K.lookup a with
  | some ⟨_, _, .func fd, _⟩ => some (fd.name, fd.qualname, fd.params, fd.body, fd.scope, fd.globals, fd.closure, fd.defaults, fd.builtins)
  | _ => none
/-- .. what should stand there -/
def obsW (x q : Str) (st : Stmt) : Option (Str × Str × Arguments × FuncBody × Scope × Addr × List (Str × Addr) × Value × Addr) := some (x, q, defArgs st, .stmts (defBody st), defScope st, mainGlobals, [], .none, builtinsNs)
def codB (K : PySem.W.Frag) (a : Addr) (q : Str) : Bool := (match K.lookup a with
  | some ⟨_, _, .func fd, _⟩ => PySem.W.codeIn K fd.code q
  | _ => false) && PySem.W.keepIn K (.ref a)
theorem fun_by {a : Addr} {x q : Str} {st : Stmt} (e : obsF K a = obsW x q st) (c : codB K a q = true) :
    ∃ kV doc pm an cdv ct, L2.Fun K x q st a (PySem.W.fnOf x q (defArgs st) (defBody st) (defScope st) .none kV doc pm an cdv ct) := by
  obtain ⟨c1, c3⟩ := a2 c
  unfold obsF obsW at e
  split at e
  · rename_i oc od fd osl q1
    rw [q1] at c1
    have c2 : PySem.W.codeIn K fd.code q = true := c1
    obtain ⟨n1, n2, n3, n4, n5, n6, n7, n8, n9, n10, n11, n12, n13, n14, n15⟩ := fd
    simp only [Option.some.injEq, Prod.mk.injEq] at e
    obtain ⟨h1, h2, h3, h4, h5, h6, h7, h8, h9⟩ := e
    subst h1 h2 h3 h4 h5 h6 h7 h8 h9
    exact ⟨n9, n10, n11, n12, n13, n14, ⟨oc, od, n9, n10, n11, n12, n13, n14, osl, rfl, q1, c2⟩, c3⟩
  · cases e
theorem defAt_by {C : Cxt} {fn : Fn} {a : Addr} {x q : Str} {st : Stmt} {ps : List Str} (e : obsF K a = obsW x q st) (c : codB K a q = true) (s : C8.scC C.N ps (defScope st) = true)
    (hsc : C.sc = defScope st) (hchk : chkB C fn.body (defBody st) = true) (hp : ps.length = fn.p) (hn : C.N.length ≤ fn.n) (hh : C.hot = false) (hb : C.blk = false)
    (hbi : ∀ (kV doc pm : Value) (an : Option Addr) (cdv ct : Value) (us : List Value), us.length = ps.length → bindArgs (PySem.W.fnOf x q (defArgs st) (defBody st) (defScope st) .none kV doc pm an cdv ct) ⟨us, []⟩ = pure (ps.zip us)) : DefAt K C fn x q a := by
  obtain ⟨kV, doc, pm, an, cdv, ct, F⟩ := fun_by e c
  exact ⟨hh, hb, st, _, ps, F, C8.fnScope_by s, hsc, hchk, hp, hn, F.binds hbi⟩
/-- the body of a class -/
def clsBody (s : Stmt) : List Stmt := match s with
  | .ClassDef _ _ _ b _ _ _ _ _ _ _ => b
  | _ => []
theorem err_by {P : Program} {w : World} {mg : Str → Option Value} {C CB fI : Addr} {x bn q : Str} {st : Stmt} {ps fl : List Str} (hx : mg x = some (.ref C)) (hB : mg bn = some (.ref CB)) (e : obsF K fI = obsW "__init__" q st) (c : codB K fI q = true)
    (s : C8.scC ps ps (defScope st) = true) (o : oexB K C fI = true) (b : binB K CB = true) (hf : nosB K C fl = true) (hl : ps.length = fl.length + 1) (h9 : fl.length ≤ 900) (chk : iniC ps (defScope st) bn (fl.zip ((List.range fl.length).map (· + 1))) (defBody st) = true)
    (hbi : ∀ (kV doc pm : Value) (an : Option Addr) (cdv ct : Value) (us : List Value), us.length = ps.length → bindArgs (PySem.W.fnOf "__init__" q (defArgs st) (defBody st) (defScope st) .none kV doc pm an cdv ct) ⟨us, []⟩ = pure (ps.zip us)) (base : Heap) : ErrOk P w K mg base C x (some fl) := by
  obtain ⟨kV, doc, pm, an, cdv, ct, F⟩ := fun_by e c
  obtain ⟨T, f1, f2⟩ := oexB_ok o
  obtain ⟨b1, b2, b3⟩ := binB_ok b
  exact ⟨hx, T.kC, T.exC, T.tyC, iniOk_of F (C8.fnScope_by s) (F.binds hbi) T f1 f2 hB b1 b2 b3 (fun f hm => nosB_ok hf hm) hl h9 chk⟩
theorem adOf_eq {cn : Nat → Str} {mg : Str → Option Value} {c : Nat} {x : Str} {a : Addr} (h1 : cn c = x) (h2 : mg x = some (.ref a)) : adOf cn mg c = a := by
  unfold adOf
  rw [h1, h2]
end
end Cr
set_option Elab.async false
set_option linter.all false
set_option maxHeartbeats 1000000
set_option maxRecDepth 10000
/-! Cr22: running the evaluator. -/
namespace Cr
set_option autoImplicit false
open PySem L2 PyProof.Rows
open PySem.PyData (strOk)
/-! ### texts -/
@[simp] theorem ofs_inj {s t : String} : Str.ofString s = Str.ofString t ↔ s = t := by
  refine ⟨fun h => ?_, fun h => by rw [h]⟩
  rw [Str.ofString_eq_toList, Str.ofString_eq_toList] at h
  have h := congrArg (fun x : Str => x.cps.toList) h
  have h : s.toList.map Char.toNat = t.toList.map Char.toNat := by simpa using h
  have inj : ∀ a b : Char, a.toNat = b.toNat → a = b := fun a b e => Char.ext (UInt32.toNat_inj.mp e)
  exact String.toList_inj.mp ((List.map_inj_right inj).mp h)
@[simp] theorem ok_ofs {s : String} : strOk (Str.ofString s) = true := by
  rw [Str.ofString_eq_toList]
  unfold strOk
  simp only [List.all_toArray, List.all_eq_true, List.mem_map, decide_eq_true_eq]
  rintro x ⟨c, _, rfl⟩
  have := c.valid
  have h2 : c.toNat = c.val.toNat := rfl
  unfold UInt32.isValidChar Nat.isValidChar at this
  omega
theorem ok_app {a b : Str} (ha : strOk a = true) (hb : strOk b = true) : strOk (a ++ b) = true := by
  show (a.cps ++ b.cps).all _ = true
  rw [Array.all_append]
  have ha : a.cps.all _ = true := ha
  have hb : b.cps.all _ = true := hb
  rw [ha, hb]; rfl
@[simp] theorem ofs_len {s : String} : (Str.ofString s).length = s.length := by
  rw [Str.ofString_eq_toList]
  show ((s.toList.map Char.toNat).toArray).size = _
  rw [List.size_toArray, List.length_map, String.length_toList]
theorem ofs_app {s t : String} : Str.ofString s ++ Str.ofString t = Str.ofString (s ++ t) := by
  rw [Str.ofString_eq_toList, Str.ofString_eq_toList, Str.ofString_eq_toList]
  show (⟨_ ++ _⟩ : Str) = _
  simp
theorem str_len_app {a b : Str} : (a ++ b).length = a.length + b.length := by
  show (a.cps ++ b.cps).size = _
  simp
  rfl
/-! ### data -/
@[simp] theorem lv_none {S : Sto} : lv S .none = .none := id rfl
@[simp] theorem lv_bool {S : Sto} {b : Bool} : lv S (.bool b) = .bool b := id rfl
@[simp] theorem lv_int {S : Sto} {b : Int} : lv S (.int b) = .int b := id rfl
@[simp] theorem lv_str {S : Sto} {b : Str} : lv S (.str b) = .str b := id rfl
@[simp] theorem lv_lst {S : Sto} {b : List D} : lv S (.list b) = .list b := id rfl
@[simp] theorem lv_tup {S : Sto} {b : List D} : lv S (.tuple b) = .tuple b := id rfl
@[simp] theorem stays_list {S : Sto} {xs : List D} : stays (.list xs) xs S = true := stays_iff.mpr (.inl rfl)
@[simp] theorem stays_tup {S : Sto} {xs : List D} : stays (.tuple xs) xs S = true := stays_iff.mpr (.inr (.inl rfl))
@[simp] theorem stays_non {S : Sto} {xs : List D} : stays .none xs S = true := stays_iff.mpr (.inr (.inr rfl))
@[simp] theorem keyOf_str {x : Str} : keyOf (.str x) = some (.inr x) := id rfl
@[simp] theorem keyOf_int {x : Int} : keyOf (.int x) = some (.inl x) := id rfl
/-- data without locations -/
theorem plain_iff {d : D} : plain d = true ↔ d.canLay0 = true ∧ d.depth ≤ 64 := by unfold plain; simp
@[simp] theorem plain_none : plain .none = true := id rfl
@[simp] theorem plain_bool {b : Bool} : plain (.bool b) = true := id rfl
@[simp] theorem plain_int {b : Int} : plain (.int b) = true := id rfl
@[simp] theorem plain_str {b : Str} : plain (.str b) = strOk b := by
  unfold plain
  rw [PyData.canLay0, PyData.depth]
  simp
/-- .. of at most that depth -/
def pl (n : Nat) (d : D) : Bool := d.canLay0 && decide (d.depth ≤ n)
theorem pl_plain {n : Nat} {d : D} (h : pl n d = true) (hn : n ≤ 64 := by decide) : plain d = true := by
  unfold pl at h
  unfold plain
  simp only [Bool.and_eq_true, decide_eq_true_eq] at h ⊢
  exact ⟨h.1, by omega⟩
theorem pl_mono {m n : Nat} {d : D} (h : pl m d = true) (hn : m ≤ n := by omega) : pl n d = true := by
  unfold pl at h ⊢
  simp only [Bool.and_eq_true, decide_eq_true_eq] at h ⊢
  exact ⟨h.1, by omega⟩
@[simp] theorem pl_none {n : Nat} : pl n .none = true := by unfold pl; rw [PyData.canLay0, PyData.depth]; simp
@[simp] theorem pl_bool {n : Nat} {b : Bool} : pl n (.bool b) = true := by unfold pl; rw [PyData.canLay0, PyData.depth]; simp
@[simp] theorem pl_int {n : Nat} {b : Int} : pl n (.int b) = true := by unfold pl; rw [PyData.canLay0, PyData.depth]; simp
@[simp] theorem pl_str {n : Nat} {b : Str} : pl n (.str b) = strOk b := by unfold pl; rw [PyData.canLay0, PyData.depth]; simp
theorem lay_all {xs : List D} : PyData.canLayAll0 xs = xs.all PyData.canLay0 := by
  induction xs with
  | nil => rw [PyData.canLayAll0]; rfl
  | cons x xs ih => rw [PyData.canLayAll0, ih]; rfl
theorem depth_all {n : Nat} {xs : List D} : decide (PyData.depthAll xs ≤ n) = xs.all fun x => decide (x.depth ≤ n) := by
  induction xs with
  | nil => rw [PyData.depthAll]; simp
  | cons x xs ih => rw [PyData.depthAll, List.all_cons, ← ih]; rw [Bool.eq_iff_iff]; simp [Nat.max_le]
@[simp] theorem pl_tup {n : Nat} {xs : List D} : pl (n + 1) (.tuple xs) = xs.all (pl n) := by
  unfold pl
  rw [PyData.canLay0, PyData.depth, lay_all]
  have e : decide (PyData.depthAll xs + 1 ≤ n + 1) = decide (PyData.depthAll xs ≤ n) := by simp
  rw [e, depth_all, Bool.eq_iff_iff]
  simp only [Bool.and_eq_true, List.all_eq_true, decide_eq_true_eq]
  exact ⟨fun h x hx => ⟨h.1 x hx, h.2 x hx⟩, fun h => ⟨fun x hx => (h x hx).1, fun x hx => (h x hx).2⟩⟩
@[simp] theorem pl_lst {n : Nat} {xs : List D} : pl (n + 1) (.list xs) = xs.all (pl n) := by
  unfold pl
  rw [PyData.canLay0, PyData.depth, lay_all]
  have e : decide (PyData.depthAll xs + 1 ≤ n + 1) = decide (PyData.depthAll xs ≤ n) := by simp
  rw [e, depth_all, Bool.eq_iff_iff]
  simp only [Bool.and_eq_true, List.all_eq_true, decide_eq_true_eq]
  exact ⟨fun h x hx => ⟨h.1 x hx, h.2 x hx⟩, fun h => ⟨fun x hx => (h x hx).1, fun x hx => (h x hx).2⟩⟩
theorem plain_pl {d : D} : plain d = pl 64 d := rfl
theorem pl_lv {n : Nat} {d : D} {S : Sto} (h : pl n d = true) : lv S d = d := by
  cases d <;> first
    | rfl
    | (unfold pl at h; rw [PyData.canLay0] at h; cases h)
mutual
theorem eqv_refl0 : ∀ d : D, d.canLay0 = true → PyData.eqv d d = true
  | .none, _ => by rw [PyData.eqv]
  | .bool b, _ => by rw [PyData.eqv]; simp
  | .int b, _ => by rw [PyData.eqv]; simp
  | .str b, _ => by rw [PyData.eqv]; simp
  | .list xs, h => by rw [PyData.canLay0] at h; rw [PyData.eqv]; exact eqvAll_refl0 xs h
  | .tuple xs, h => by rw [PyData.canLay0] at h; rw [PyData.eqv]; exact eqvAll_refl0 xs h
  | .dict xs, h => by rw [PyData.canLay0] at h; cases h
theorem eqvAll_refl0 : ∀ xs : List D, PyData.canLayAll0 xs = true → PyData.eqvAll xs xs = true
  | [], _ => by rw [PyData.eqvAll]
  | x :: xs, h => by
    rw [PyData.canLayAll0, Bool.and_eq_true] at h
    rw [PyData.eqvAll, eqv_refl0 x h.1, eqvAll_refl0 xs h.2]; rfl
end
theorem pl_refl {n : Nat} {d : D} (h : pl n d = true) : PyData.eqv d d = true := eqv_refl0 d (by unfold pl at h; simp only [Bool.and_eq_true] at h; exact h.1)
mutual
theorem frz_lay {φ : Int → Option D} : ∀ d : D, d.canLay0 = true → frz φ d = some d
  | .none, _ => rfl
  | .bool b, _ => rfl
  | .int b, _ => rfl
  | .str b, _ => rfl
  | .list xs, h => by rw [PyData.canLay0] at h; rw [frz, frzA_lay xs h]; rfl
  | .tuple xs, h => by rw [PyData.canLay0] at h; rw [frz, frzA_lay xs h]; rfl
  | .dict xs, h => by rw [PyData.canLay0] at h; cases h
theorem frzA_lay {φ : Int → Option D} : ∀ xs : List D, PyData.canLayAll0 xs = true → frzA φ xs = some xs
  | [], _ => by rw [frzA]
  | x :: xs, h => by
    rw [PyData.canLayAll0, Bool.and_eq_true] at h
    rw [frzA, frz_lay x h.1, frzA_lay xs h.2]; rfl
end
/-- what a def leaves behind is let go -/
theorem cut_app {fl : Bool} {S T : Sto} {d : D} (hf : fl = true ∨ T = []) (h : d.canLay0 = true) : cutF fl S d (S ++ T) = .ok d S := by
  unfold cutF
  split
  · rename_i c
    have : T = [] := by
      rcases c with c | c
      · rcases hf with hf | hf
        · rw [c] at hf; cases hf
        · exact hf
      · simp at c; exact c
    rw [this, List.append_nil]
  · rw [frz_lay d h]
    dsimp only
    rw [List.take_left, if_pos (.inl rfl)]
@[simp] theorem cut_no {S S' : Sto} {d : D} : cutF false S d S' = .ok d S' := by
  unfold cutF
  rw [if_pos (.inl rfl)]
@[simp] theorem cut_same {fl : Bool} {S : Sto} {d : D} : cutF fl S d S = .ok d S := by
  unfold cutF
  rw [if_pos (.inr rfl)]
/-! ### calls -/
noncomputable def fin (fl : Bool) (S : Sto) : SO → Out D
  | .nx _ S' => cutF fl S .none S'
  | .rt d S' => cutF fl S d S'
  | .ex c fs _ S' => .ex c fs S'
  | _ => .bad
@[simp] theorem fin_nx {fl : Bool} {S : Sto} {σ : Fr} {S' : Sto} : fin fl S (.nx σ S') = cutF fl S .none S' := id rfl
@[simp] theorem fin_rt {fl : Bool} {S : Sto} {d : D} {S' : Sto} : fin fl S (.rt d S') = cutF fl S d S' := id rfl
@[simp] theorem fin_ex {fl : Bool} {S : Sto} {c : Nat} {fs : List (Str × D)} {σ : Fr} {S' : Sto} : fin fl S (.ex c fs σ S') = .ex c fs S' := id rfl
theorem call_eq {T : Nat → Option Fn} {W n f : Nat} {fn : Fn} {xs : List D} {S : Sto} (hT : T f = some fn) (hl : xs.length = fn.p) : callN T W (n + 1) f xs S = fin fn.cut S (evB W (callN T W n) fn.body (start0 fn.n xs) S) := by
  rw [callN, hT]
  dsimp only
  rw [if_pos hl]
  unfold fin
  rfl
@[simp] theorem seq_bk {σ : Fr} {S : Sto} {f : Fr → Sto → SO} : (SO.bk σ S).seq f = .bk σ S := id rfl
@[simp] theorem seq_ct {σ : Fr} {S : Sto} {f : Fr → Sto → SO} : (SO.ct σ S).seq f = .ct σ S := id rfl
@[simp] theorem seq_ex {c : Nat} {fs : List (Str × D)} {σ : Fr} {S : Sto} {f : Fr → Sto → SO} : (SO.ex c fs σ S).seq f = .ex c fs σ S := id rfl
@[simp] theorem again_ex {c : Nat} {fs : List (Str × D)} {σ : Fr} {S : Sto} {f : Fr → Sto → SO} : (SO.ex c fs σ S).again f = .ex c fs σ S := id rfl
@[simp] theorem onS_b {b : Bool} {S : Sto} {t f : Sto → SO} : onS (.bool b) S t f = if b = true then t S else f S := by cases b <;> rfl
@[simp] theorem onB_b {α : Type} {b : Bool} {S : Sto} {t f : Sto → Out α} : onB (.bool b) S t f = if b = true then t S else f S := by cases b <;> rfl
@[simp] theorem asB_b {b : Bool} {S : Sto} : asB (.bool b) S = .ok (.bool b) S := id rfl
@[simp] theorem notD_b {b : Bool} {S : Sto} : notD (.bool b) S = .ok (.bool (!b)) S := id rfl
@[simp] theorem negD_i {b : Int} {S : Sto} : negD (.int b) S = .ok (.int (-b)) S := id rfl
/-! ### loops -/
theorem frL_cons {d : D} {all : List D} {step : D → Fr → Sto → SO} {x : D} {xs : List D} {σ : Fr} {S : Sto} (h : ∀ S, stays d all S = true) : frL d all step (x :: xs) σ S = (step x σ S).again fun σ1 S1 => frL d all step xs σ1 S1 := by
  rw [frL]
  congr 1
  funext σ1 S1
  rw [if_pos (h S1)]
/-- a loop whose turns leave everything but their slots -/
theorem frL_inv {d : D} {all : List D} {step : D → Fr → Sto → SO} (h : ∀ S, stays d all S = true) (I : List D → Fr → Sto → Prop) : ∀ (xs : List D) (σ : Fr) (S : Sto), I xs σ S →
    (∀ x xs σ S, I (x :: xs) σ S → ∃ σ' S', step x σ S = .nx σ' S' ∧ I xs σ' S') → ∃ σ' S', frL d all step xs σ S = .nx σ' S' ∧ I [] σ' S'
  | [], σ, S, i, _ => ⟨σ, S, by rw [frL], i⟩
  | x :: xs, σ, S, i, hs => by
    obtain ⟨σ1, S1, e, i1⟩ := hs x xs σ S i
    obtain ⟨σ2, S2, e2, i2⟩ := frL_inv h I xs σ1 S1 i1 hs
    exact ⟨σ2, S2, by rw [frL_cons h, e, again_nx, e2], i2⟩
/-- a comprehension whose turns leave the state -/
theorem lcL_pure {d : D} {all : List D} {step : D → Sto → Out (Option D)} {S : Sto} (h : stays d all S = true) (g : D → Option D) : ∀ xs : List D, (∀ x ∈ xs, step x S = .ok (g x) S) → lcL d all step xs S = .ok (xs.filterMap g) S
  | [], _ => by rw [lcL]; rfl
  | x :: xs, hs => by
    rw [lcL, hs x List.mem_cons_self, bind_ok, if_pos h, lcL_pure h g xs fun y hy => hs y (List.mem_cons_of_mem _ hy), bind_ok, List.filterMap_cons]
    cases g x <;> rfl
/-- a comprehension with an invariant -/
theorem lcL_inv {d : D} {all : List D} {step : D → Sto → Out (Option D)} (h : ∀ S, stays d all S = true) (I : List D → Sto → Prop) (P : D → Prop) : ∀ (xs : List D) (S : Sto), I xs S →
    (∀ x xs S, I (x :: xs) S → ∃ y S', step x S = .ok (some y) S' ∧ P y ∧ I xs S') → ∃ ys S', lcL d all step xs S = .ok ys S' ∧ ys.length = xs.length ∧ (∀ y ∈ ys, P y) ∧ I [] S'
  | [], S, i, _ => ⟨[], S, by rw [lcL], rfl, fun y hy => absurd hy List.not_mem_nil, i⟩
  | x :: xs, S, i, hs => by
    obtain ⟨y, S1, e, p, i1⟩ := hs x xs S i
    obtain ⟨ys, S2, e2, l, q, i2⟩ := lcL_inv h I P xs S1 i1 hs
    refine ⟨y :: ys, S2, ?_, by simp [l], fun z hz => ?_, i2⟩
    · rw [lcL, e, bind_ok, if_pos (h S1), e2, bind_ok]; rfl
    · rcases List.mem_cons.mp hz with rfl | hz
      · exact p
      · exact q z hz
/-! ### operations -/
@[simp] theorem add_i {i j : Int} {S : Sto} : binD .Add (.int i) (.int j) S = .ok (.int (i + j)) S := id rfl
@[simp] theorem sub_i {i j : Int} {S : Sto} : binD .Sub (.int i) (.int j) S = .ok (.int (i - j)) S := id rfl
theorem mul_i {i j : Int} {S : Sto} (h : i.natAbs.log2 + j.natAbs.log2 < 1000000) : binD .Mult (.int i) (.int j) S = .ok (.int (i * j)) S := by
  unfold binD
  unfold mulD
  exact if_pos h
theorem div_i {i j : Int} {S : Sto} (h : j ≠ 0) (h2 : j.natAbs.log2 < 9000) : binD .FloorDiv (.int i) (.int j) S = .ok (.int (i.fdiv j)) S := by
  unfold binD
  exact if_pos ⟨h, h2⟩
theorem mod_i {i j : Int} {S : Sto} (h : j ≠ 0) : binD .Mod (.int i) (.int j) S = .ok (.int (i.fmod j)) S := by
  unfold binD
  exact if_pos h
theorem eq_d {x y : D} {S : Sto} (hx : pl 64 x = true) (hy : pl 64 y = true) : cmpD .Eq x y S = .ok (.bool (PyData.eqv x y)) S := by
  unfold cmpD
  dsimp only
  rw [pl_lv hx, pl_lv hy]
  exact if_pos ⟨hx, hy⟩
theorem ne_d {x y : D} {S : Sto} (hx : pl 64 x = true) (hy : pl 64 y = true) : cmpD .NotEq x y S = .ok (.bool (!PyData.eqv x y)) S := by
  unfold cmpD
  dsimp only
  rw [pl_lv hx, pl_lv hy]
  exact if_pos ⟨hx, hy⟩
@[simp] theorem eqv_i {i j : Int} : PyData.eqv (.int i) (.int j) = decide (i = j) := by rw [PyData.eqv]; exact Bool.eq_iff_iff.mpr (by simp)
@[simp] theorem eqv_s {i j : Str} : PyData.eqv (.str i) (.str j) = decide (i = j) := by rw [PyData.eqv]; exact Bool.eq_iff_iff.mpr (by simp)
@[simp] theorem eqv_b {i j : Bool} : PyData.eqv (.bool i) (.bool j) = decide (i = j) := by rw [PyData.eqv]; exact Bool.eq_iff_iff.mpr (by simp)
@[simp] theorem eq_i {i j : Int} {S : Sto} : cmpD .Eq (.int i) (.int j) S = .ok (.bool (decide (i = j))) S := by rw [eq_d (by simp) (by simp), eqv_i]
@[simp] theorem ne_i {i j : Int} {S : Sto} : cmpD .NotEq (.int i) (.int j) S = .ok (.bool (!decide (i = j))) S := by rw [ne_d (by simp) (by simp), eqv_i]
@[simp] theorem eq_b {i j : Bool} {S : Sto} : cmpD .Eq (.bool i) (.bool j) S = .ok (.bool (decide (i = j))) S := by rw [eq_d (by simp) (by simp), eqv_b]
@[simp] theorem ne_b {i j : Bool} {S : Sto} : cmpD .NotEq (.bool i) (.bool j) S = .ok (.bool (!decide (i = j))) S := by rw [ne_d (by simp) (by simp), eqv_b]
theorem eq_s {i j : Str} {S : Sto} (hi : strOk i = true) (hj : strOk j = true) : cmpD .Eq (.str i) (.str j) S = .ok (.bool (decide (i = j))) S := by rw [eq_d (by simpa using hi) (by simpa using hj), eqv_s]
@[simp] theorem eq_ss {i j : String} {S : Sto} : cmpD .Eq (.str (Str.ofString i)) (.str (Str.ofString j)) S = .ok (.bool (decide (i = j))) S := by
  rw [eq_s ok_ofs ok_ofs]
  simp
theorem ne_s {i j : Str} {S : Sto} (hi : strOk i = true) (hj : strOk j = true) : cmpD .NotEq (.str i) (.str j) S = .ok (.bool (!decide (i = j))) S := by rw [ne_d (by simpa using hi) (by simpa using hj), eqv_s]
theorem eq_self {n : Nat} {d : D} {S : Sto} (h : pl n d = true) (hn : n ≤ 64 := by decide) : cmpD .Eq d d S = .ok (.bool true) S := by
  have h := pl_mono h hn
  rw [eq_d h h, pl_refl h]
theorem ne_self {n : Nat} {d : D} {S : Sto} (h : pl n d = true) (hn : n ≤ 64 := by decide) : cmpD .NotEq d d S = .ok (.bool false) S := by
  have h := pl_mono h hn
  rw [ne_d h h, pl_refl h]; rfl
@[simp] theorem lt_i {i j : Int} {S : Sto} : cmpD .Lt (.int i) (.int j) S = .ok (.bool (decide (i < j))) S := by
  unfold cmpD
  dsimp only
  rw [PySem.W.dataLt_int]
  refine if_pos (And.intro (rfl) (And.intro (rfl) (And.intro rfl rfl)))
@[simp] theorem gt_i {i j : Int} {S : Sto} : cmpD .Gt (.int i) (.int j) S = .ok (.bool (decide (j < i))) S := by
  unfold cmpD
  dsimp only
  rw [PySem.W.dataLt_int]
  refine if_pos (And.intro (rfl) (And.intro (rfl) (And.intro rfl rfl)))
theorem not_dlt (i j : Int) : (!decide (j < i)) = decide (i ≤ j) := by
  rw [Bool.eq_iff_iff]; simp
@[simp] theorem le_i {i j : Int} {S : Sto} : cmpD .LtE (.int i) (.int j) S = .ok (.bool (decide (i ≤ j))) S := by
  unfold cmpD
  dsimp only
  rw [PySem.W.dataLt_int, not_dlt]
  refine if_pos (And.intro (rfl) (And.intro (rfl) (And.intro rfl rfl)))
@[simp] theorem ge_i {i j : Int} {S : Sto} : cmpD .GtE (.int i) (.int j) S = .ok (.bool (decide (j ≤ i))) S := by
  unfold cmpD
  dsimp only
  rw [PySem.W.dataLt_int, not_dlt]
  refine if_pos (And.intro (rfl) (And.intro (rfl) (And.intro rfl rfl)))
theorem lt_s {i j : Str} {S : Sto} (hi : strOk i = true) (hj : strOk j = true) : cmpD .Lt (.str i) (.str j) S = .ok (.bool (decide (i.cps.toList < j.cps.toList))) S := by
  unfold cmpD
  dsimp only
  rw [PySem.W.dataLt_str]
  refine if_pos (And.intro (by simpa using hi) (And.intro (by simpa using hj) (And.intro rfl rfl)))
theorem gt_s {i j : Str} {S : Sto} (hi : strOk i = true) (hj : strOk j = true) : cmpD .Gt (.str i) (.str j) S = .ok (.bool (decide (j.cps.toList < i.cps.toList))) S := by
  unfold cmpD
  dsimp only
  rw [PySem.W.dataLt_str]
  refine if_pos (And.intro (by simpa using hi) (And.intro (by simpa using hj) (And.intro rfl rfl)))
@[simp] theorem is_bb {a b : Bool} {S : Sto} : cmpD .Is (.bool a) (.bool b) S = .ok (.bool (decide (a = b))) S := id rfl
@[simp] theorem isnot_bb {a b : Bool} {S : Sto} : cmpD .IsNot (.bool a) (.bool b) S = .ok (.bool (!decide (a = b))) S := id rfl
@[simp] theorem dicOf_tup {S : Sto} {xs : List D} : dicOf S (.tuple xs) = none := id rfl
@[simp] theorem dicOf_lst {S : Sto} {xs : List D} : dicOf S (.list xs) = none := id rfl
@[simp] theorem dicOf_str {S : Sto} {xs : Str} : dicOf S (.str xs) = none := id rfl
theorem ix_tup {xs : List D} {i : Int} {v : D} {S : Sto} (h : atI xs i = some v) : idxD (.tuple xs) (.int i) S = .ok v S := by
  unfold idxD
  simp [h]
theorem ix_lst {xs : List D} {i : Int} {v : D} {S : Sto} (h : atI xs i = some v) : idxD (.list xs) (.int i) S = .ok v S := by
  unfold idxD
  simp [h]
theorem atI_at {α : Type} {xs : List α} {v : α} (j : Nat) {i : Int} (h : xs[j]? = some v) (hi : i = (j : Int) := by rfl) : atI xs i = some v := by rw [hi]; exact atI_nat h
@[simp] theorem ix_t0 {x : D} {xs : List D} {S : Sto} : idxD (.tuple (x :: xs)) (.int 0) S = .ok x S := ix_tup (atI_at 0 rfl)
@[simp] theorem ix_t1 {x y : D} {xs : List D} {S : Sto} : idxD (.tuple (x :: y :: xs)) (.int 1) S = .ok y S := ix_tup (atI_at 1 rfl)
@[simp] theorem ix_t2 {x y z : D} {xs : List D} {S : Sto} : idxD (.tuple (x :: y :: z :: xs)) (.int 2) S = .ok z S := ix_tup (atI_at 2 rfl)
@[simp] theorem ix_l0 {x : D} {xs : List D} {S : Sto} : idxD (.list (x :: xs)) (.int 0) S = .ok x S := ix_lst (atI_at 0 rfl)
@[simp] theorem ix_l1 {x y : D} {xs : List D} {S : Sto} : idxD (.list (x :: y :: xs)) (.int 1) S = .ok y S := ix_lst (atI_at 1 rfl)
@[simp] theorem len_t {xs : List D} {S : Sto} : bltD .len [.tuple xs] S = .ok (.int xs.length) S := id rfl
@[simp] theorem len_l {xs : List D} {S : Sto} : bltD .len [.list xs] S = .ok (.int xs.length) S := id rfl
theorem len_s {x : Str} {S : Sto} (h : x.length ≤ sizeLine) : bltD .len [.str x] S = .ok (.int x.length) S := if_pos h
@[simp] theorem abs_i {i : Int} {S : Sto} : bltD .abs [.int i] S = .ok (.int (if i < 0 then -i else i)) S := id rfl
@[simp] theorem int_i {i : Int} {S : Sto} : bltD .int [.int i] S = .ok (.int i) S := id rfl
@[simp] theorem int_b {i : Bool} {S : Sto} : bltD .int [.bool i] S = .ok (.int (if i then 1 else 0)) S := id rfl
@[simp] theorem tup_l {xs : List D} {S : Sto} : bltD .tuple [.list xs] S = .ok (.tuple xs) S := id rfl
@[simp] theorem tup_t {xs : List D} {S : Sto} : bltD .tuple [.tuple xs] S = .ok (.tuple xs) S := id rfl
@[simp] theorem lst_t {xs : List D} {S : Sto} : bltD .list [.tuple xs] S = .ok (.list xs) S := id rfl
@[simp] theorem lst_l {xs : List D} {S : Sto} : bltD .list [.list xs] S = .ok (.list xs) S := id rfl
theorem mk_l {xs : List D} {S : Sto} (h : xs.length ≤ sizeLine) : mkL false xs S = .ok (.list xs) S := by unfold mkL; rw [if_pos h]; rfl
theorem mk_n {xs : List D} {S : Sto} (h : xs.length ≤ sizeLine) : mkL true xs S = .ok (loc S.length) (S ++ [.lst xs]) := by unfold mkL; rw [if_pos h]; rfl
@[simp] theorem wk_l {xs : List D} {S : Sto} : walked (.list xs) S = .ok (.list xs, xs) S := id rfl
@[simp] theorem wk_t {xs : List D} {S : Sto} : walked (.tuple xs) S = .ok (.tuple xs, xs) S := id rfl
@[simp] theorem wk_s {x : Str} {S : Sto} : walked (.str x) S = .ok (.none, x.cps.toList.map fun c => .str ⟨#[c]⟩) S := id rfl
theorem size_small {n : Nat} (h : n ≤ 1000) : n ≤ sizeLine := Nat.le_trans h (by decide)
end Cr
set_option Elab.async false
set_option linter.all false
set_option maxHeartbeats 1000000
set_option maxRecDepth 10000
/-! Cr23: the evaluator's equations, for simp. -/
namespace Cr
set_option autoImplicit false
open PySem L2 PyProof.Rows
open PySem.PyData (strOk)
section
variable {R : Nat → List D → Sto → Out D} {W : Nat} {σ : Fr} {S : Sto}
@[simp] theorem x_var {i : Nat} : evE R (.var i) σ S = (match σ[i]? with | some (some d) => .ok d S | _ => .bad) := by rw [evE] <;> rfl
@[simp] theorem x_con {p : D} : evE R (.con p) σ S = .ok p S := by rw [evE]
@[simp] theorem x_bop {op : Operator} {a b : CE} : evE R (.bop op a b) σ S = (evE R a σ S).bind fun x S1 => (evE R b σ S1).bind fun y S2 => binD op x y S2 := by rw [evE]
@[simp] theorem x_cmp {op : CmpOp} {a b : CE} : evE R (.cmp op a b) σ S = (evE R a σ S).bind fun x S1 => (evE R b σ S1).bind fun y S2 => cmpD op x y S2 := by rw [evE]
@[simp] theorem x_chn {o1 o2 : CmpOp} {a b c : CE} : evE R (.chn o1 o2 a b c) σ S = (evE R a σ S).bind fun x S1 => (evE R b σ S1).bind fun y S2 => (cmpD o1 x y S2).bind fun t S3 => onB t S3 (fun S3 => (evE R c σ S3).bind fun z S4 => cmpD o2 y z S4) fun S3 => .ok (.bool false) S3 := by rw [evE]
@[simp] theorem x_and {a b : CE} : evE R (.and a b) σ S = (evE R a σ S).bind fun x S1 => onB x S1 (fun S1 => evE R b σ S1) fun S1 => .ok (.bool false) S1 := by rw [evE]
@[simp] theorem x_or {a b : CE} : evE R (.or a b) σ S = (evE R a σ S).bind fun x S1 => onB x S1 (fun S1 => .ok (.bool true) S1) fun S1 => evE R b σ S1 := by rw [evE]
@[simp] theorem x_not {a : CE} : evE R (.not a) σ S = (evE R a σ S).bind fun x S1 => notD x S1 := by rw [evE]
@[simp] theorem x_neg {a : CE} : evE R (.neg a) σ S = (evE R a σ S).bind fun x S1 => negD x S1 := by rw [evE]
@[simp] theorem x_ite {c a b : CE} : evE R (.ite c a b) σ S = (evE R c σ S).bind fun x S1 => onB x S1 (fun S1 => evE R a σ S1) fun S1 => evE R b σ S1 := by rw [evE]
@[simp] theorem x_tup {xs : List CE} : evE R (.tup xs) σ S = (evEs R xs σ S).bind fun ys S1 => if ys.length ≤ sizeLine then .ok (.tuple ys) S1 else .bad := by rw [evE]
@[simp] theorem x_lst {al : Bool} {xs : List CE} : evE R (.lst al xs) σ S = (evEs R xs σ S).bind fun ys S1 => mkL al ys S1 := by rw [evE]
@[simp] theorem x_dsp {xs : List CE} : evE R (.dsp xs) σ S = (evEs R xs σ S).bind fun ys S1 => mkD ys S1 := by rw [evE]
@[simp] theorem x_lc {al : Bool} {tg : Nat} {it elt : CE} {ifs : List CE} : evE R (.lc al tg it ifs elt) σ S = ((evE R it σ S).bind fun x S1 => walked x S1).bind fun p S1 => (lcL p.1 p.2 (turnE (evT R ifs) (evE R elt) σ tg) p.2 S1).bind fun ys S5 => mkL al ys S5 := by rw [evE] <;> rfl
@[simp] theorem x_lr {al : Bool} {tg : Nat} {rg : List CE} {elt : CE} {ifs : List CE} : evE R (.lr al tg rg ifs elt) σ S = ((evEs R rg σ S).bind fun x S1 => rangeD x S1).bind fun p S1 => (lcL p.1 p.2 (turnE (evT R ifs) (evE R elt) σ tg) p.2 S1).bind fun ys S5 => mkL al ys S5 := by rw [evE] <;> rfl
@[simp] theorem x_idx {a b : CE} : evE R (.idx a b) σ S = (evE R a σ S).bind fun x S1 => (evE R b σ S1).bind fun y S2 => idxD x y S2 := by rw [evE]
@[simp] theorem x_sli {a : CE} {lo hi : Option CE} : evE R (.sli a lo hi) σ S = (evE R a σ S).bind fun x S1 => ((evO R lo σ S1).bind prtD).bind fun l S2 => ((evO R hi σ S2).bind prtD).bind fun h S3 => sliD x l h S3 := by rw [evE]
@[simp] theorem x_call {f : Nat} {xs : List CE} : evE R (.call f xs) σ S = (evEs R xs σ S).bind fun ys S1 => R f ys S1 := by rw [evE]
@[simp] theorem x_blt {b : Bi} {xs : List CE} : evE R (.blt b xs) σ S = (evEs R xs σ S).bind fun ys S1 => bltD b ys S1 := by rw [evE]
@[simp] theorem x_mth {m : Mt} {o : CE} {xs : List CE} : evE R (.mth m o xs) σ S = (evE R o σ S).bind fun x S1 => if recvB m x S1 = true then (evEs R xs σ S1).bind fun ys S2 => mthD m x ys S2 else .bad := by rw [evE]
@[simp] theorem x_isi {a : CE} {t : String} : evE R (.isi a t) σ S = (evE R a σ S).bind fun x S1 => isiD t x S1 := by rw [evE]
@[simp] theorem x_mxd {a : CE} {k : Int} : evE R (.mxd a k) σ S = (evE R a σ S).bind fun x S1 => mxD k x S1 := by rw [evE]
@[simp] theorem x_fld {cs : List Nat} {a : CE} {f : Str} : evE R (.fld cs a f) σ S = (evE R a σ S).bind fun x S1 => fldD cs f x S1 := by rw [evE]
@[simp] theorem x_mcl {nm : Str} {tb : List (Nat × Nat)} {o : CE} {xs : List CE} : evE R (.mcl nm tb o xs) σ S = (evE R o σ S).bind fun x S1 => match mclD nm tb x S1 with
    | some g => (evEs R xs σ S1).bind fun ys S2 => R g (x :: ys) S2
    | none => .bad := by rw [evE] <;> rfl
@[simp] theorem x_new {c g : Nat} {xs : List CE} : evE R (.new c g xs) σ S = (evEs R xs σ S).bind fun ys S1 => (R g (loc S1.length :: ys) (S1 ++ [.ins c []])).bind fun v S2 => newR (loc S1.length) v S2 := by rw [evE]
/-- a turn of a comprehension -/
noncomputable def trn (R : Nat → List D → Sto → Out D) (nx : Bool) (ts : List Nat) (tu : Bool) (ifs : List CE) (elt : CE) (σ : Fr) (x : D) (S2 : Sto) : Out (Option D) := nxW nx (match bndT ts tu x (wipF σ ts) with
  | some f => (evT R ifs f S2).bind fun t S3 => if t = true then (evE R elt f S3).bind fun y S4 => .ok (some y) S4 else .ok none S3
  | none => .bad)
@[simp] theorem x_lcg {nx al rg : Bool} {ts : List Nat} {tu : Bool} {its ifs : List CE} {elt : CE} : evE R (.lcg nx al rg ts tu its ifs elt) σ S = ((evEs R its σ S).bind fun x S1 => iterD rg x S1).bind fun p S1 => if p.2.length ≤ sizeLine then
      (lcL p.1 p.2 (trn R nx ts tu ifs elt σ) p.2 S1).bind fun ys S5 => mkL al ys S5 else .bad := by rw [evE] <;> rfl
@[simp] theorem it_t {x : List D} : iterD true x S = rangeD x S := id rfl
@[simp] theorem it_f {x : D} : iterD false [x] S = walked x S := id rfl
@[simp] theorem x_nil : evEs R [] σ S = .ok [] S := by rw [evEs]
@[simp] theorem x_cons {a : CE} {r : List CE} : evEs R (a :: r) σ S = (evE R a σ S).bind fun x S1 => (evEs R r σ S1).bind fun xs S2 => .ok (x :: xs) S2 := by rw [evEs]
@[simp] theorem x_tnil : evT R [] σ S = .ok true S := by rw [evT]
@[simp] theorem x_tcons {a : CE} {r : List CE} : evT R (a :: r) σ S = (evE R a σ S).bind fun x S1 => onB x S1 (fun S1 => evT R r σ S1) fun S1 => .ok false S1 := by rw [evT]
@[simp] theorem x_onone : (evO R none σ S).bind prtD = .ok none S := by rw [evO]; rfl
@[simp] theorem x_osome {a : CE} : (evO R (some a) σ S).bind prtD = (evE R a σ S).bind fun x S1 => prtD (some x) S1 := by
  rw [evO]
  cases evE R a σ S <;> rfl
@[simp] theorem prt_i {i : Int} : prtD (some (.int i)) S = .ok (some i) S := id rfl
@[simp] theorem y_nil : evB W R [] σ S = .nx σ S := by rw [evB]
@[simp] theorem y_cons {c : CS} {r : List CS} : evB W R (c :: r) σ S = (evS W R c σ S).seq (evB W R r) := by rw [evB]
@[simp] theorem y_exp {e : CE} : evS W R (.exp e) σ S = (evE R e σ S).st σ fun _ S1 => .nx σ S1 := by rw [evS]
@[simp] theorem y_asg {i : Nat} {e : CE} : evS W R (.asg (.nm i) e) σ S = (evE R e σ S).st σ fun x S1 => .nx (σ.set i (some x)) S1 := by rw [evS] <;> rfl
@[simp] theorem y_asgT {is : List TL} {e : CE} : evS W R (.asg (.tup is) e) σ S = (evE R e σ S).st σ fun x S1 => evG R (.tup is) x σ S1 := by rw [evS]
@[simp] theorem y_asgS {o i e : CE} : evS W R (.asg (.sub o i) e) σ S = (evE R e σ S).st σ fun x S1 => (evE R o σ S1).st σ fun ov S1 => (evE R i σ S1).st σ fun iv S2 => (setD ov iv x S2).st σ fun _ S3 => .nx σ S3 := by rw [evS] <;> rfl
@[simp] theorem y_par {i j : Nat} {a b : CE} : evS W R (.par i j a b) σ S = (evE R a σ S).st σ fun x S1 => (evE R b σ S1).st σ fun y S2 => .nx ((σ.set i (some x)).set j (some y)) S2 := by rw [evS]
@[simp] theorem y_aug {i : Nat} {op : Operator} {e : CE} : evS W R (.aug i op e) σ S = (match σ[i]? with | some (some x) => (evE R e σ S).st σ fun y S1 => (augD op x y S1).st σ fun z S2 => .nx (σ.set i (some z)) S2 | _ => .bad) := by rw [evS] <;> rfl
@[simp] theorem y_ret {e : CE} : evS W R (.ret e) σ S = (evE R e σ S).st σ fun x S1 => .rt x S1 := by rw [evS]
@[simp] theorem y_ife {c : CE} {a b : List CS} : evS W R (.ife c a b) σ S = (evE R c σ S).st σ fun t S1 => onS t S1 (fun S1 => evB W R a σ S1) fun S1 => evB W R b σ S1 := by rw [evS]
@[simp] theorem y_whl {c : CE} {b : List CS} : evS W R (.whl c b) σ S = whL (evE R c) (evB W R b) W σ S := by rw [evS]
@[simp] theorem y_fro {t : CT} {it : CE} {b : List CS} : evS W R (.fro t it b) σ S = ((evE R it σ S).bind fun x S1 => walked x S1).st σ fun p S1 => frL p.1 p.2 (fun x σ1 S2 => (evG R t x σ1 S2).seq (evB W R b)) p.2 σ S1 := by rw [evS]
@[simp] theorem y_frr {t : CT} {rg : List CE} {b : List CS} : evS W R (.frr t rg b) σ S = ((evEs R rg σ S).bind fun x S1 => rangeD x S1).st σ fun p S1 => frL p.1 p.2 (fun x σ1 S2 => (evG R t x σ1 S2).seq (evB W R b)) p.2 σ S1 := by rw [evS]
@[simp] theorem y_asgF {cs : List Nat} {o : CE} {f : Str} {e : CE} : evS W R (.asg (.fld cs o f) e) σ S = (evE R e σ S).st σ fun x S1 => (evE R o σ S1).st σ fun ov S1 => (stF cs ov f x S1).st σ fun _ S2 => .nx σ S2 := by rw [evS] <;> rfl
@[simp] theorem y_fag {cs : List Nat} {o : CE} {f : Str} {op : Operator} {e : CE} : evS W R (.fag cs o f op e) σ S = (evE R o σ S).st σ fun x S1 => (fldD cs f x S1).st σ fun v S2 => (evE R e σ S2).st σ fun y S3 => (augD op v y S3).st σ fun z S4 => (stF (clsL x S1) x f z S4).st σ fun _ S5 => .nx σ S5 := by rw [evS]
@[simp] theorem y_rai {c : Nat} {ns : List Str} {xs : List CE} : evS W R (.rai c (some ns) xs) σ S = (evEs R xs σ S).st σ fun ys S1 => if ys.length = ns.length then .ex c (ns.zip ys).reverse σ S1 else .bad := by rw [evS]
/-- what a try's body comes to -/
noncomputable def tryO (W : Nat) (R : Nat → List D → Sto → Out D) (h : CS) (els : List CS) : SO → SO
  | .ex c fs σ1 S1 => evH W R h c fs σ1 S1
  | .nx σ1 S1 => evB W R els σ1 S1
  | o => o
@[simp] theorem y_tri {b : List CS} {h : CS} {els : List CS} : evS W R (.tri b h els) σ S = tryO W R h els (evB W R b σ S) := by
  rw [evS]
  cases evB W R b σ S <;> rfl
@[simp] theorem try_ex {h : CS} {els : List CS} {c : Nat} {fs : List (Str × D)} : tryO W R h els (.ex c fs σ S) = evH W R h c fs σ S := id rfl
@[simp] theorem try_nx {h : CS} {els : List CS} : tryO W R h els (.nx σ S) = evB W R els σ S := id rfl
@[simp] theorem try_rt {h : CS} {els : List CS} {d : D} : tryO W R h els (.rt d S) = .rt d S := id rfl
@[simp] theorem y_hnd {cs ds : List Nat} {sl : Option Nat} {hd : List (Str × Nat)} {b : List CS} {nx : CS} {c : Nat} {fs : List (Str × D)} : evH W R (.hnd cs ds sl hd b nx) c fs σ S = if cs.contains c = true then (match setH hd fs (wip sl σ) with
    | some σ1 => (evB W R b σ1 S).aft (wip sl)
    | none => .bad) else if ds.contains c = true then evH W R nx c fs σ S else .bad := by rw [evH] <;> rfl
@[simp] theorem y_hpss {c : Nat} {fs : List (Str × D)} : evH W R .pss c fs σ S = .ex c fs σ S := by
  rw [evH]
  intros; contradiction
@[simp] theorem aft_rt {d : D} {f : Fr → Fr} : (SO.rt d S).aft f = .rt d S := id rfl
@[simp] theorem aft_nx {f : Fr → Fr} : (SO.nx σ S).aft f = .nx (f σ) S := id rfl
@[simp] theorem aft_ct {f : Fr → Fr} : (SO.ct σ S).aft f = .ct (f σ) S := id rfl
@[simp] theorem y_brk : evS W R .brk σ S = .bk σ S := by rw [evS]
@[simp] theorem y_cnt : evS W R .cnt σ S = .ct σ S := by rw [evS]
@[simp] theorem y_pss : evS W R .pss σ S = .nx σ S := by rw [evS]
@[simp] theorem y_gnm {i : Nat} {x : D} : evG R (.nm i) x σ S = .nx (σ.set i (some x)) S := by rw [evG]
@[simp] theorem y_gt2 {i j : Nat} {x y : D} : evG R (.tup [.nm i, .nm j]) (.tuple [x, y]) σ S = .nx ((σ.set i (some x)).set j (some y)) S := by rw [evG] <;> rfl
@[simp] theorem y_gt3 {i j k : Nat} {x y z : D} : evG R (.tup [.nm i, .nm j, .nm k]) (.tuple [x, y, z]) σ S = .nx (((σ.set i (some x)).set j (some y)).set k (some z)) S := by rw [evG] <;> rfl
end
@[simp] theorem sz1 : 1 ≤ sizeLine := by decide
@[simp] theorem sz2 : 2 ≤ sizeLine := by decide
@[simp] theorem sz3 : 3 ≤ sizeLine := by decide
@[simp] theorem sz4 : 4 ≤ sizeLine := by decide
@[simp] theorem sz5 : 5 ≤ sizeLine := by decide
@[simp] theorem sz6 : 6 ≤ sizeLine := by decide
@[simp] theorem sz7 : 7 ≤ sizeLine := by decide
@[simp] theorem sz8 : 8 ≤ sizeLine := by decide
@[simp] theorem sz9 : 9 ≤ sizeLine := by decide
@[simp] theorem st_if {α : Type} {p : Prop} [Decidable p] {a b : Out α} {σ : Fr} {f : α → Sto → SO} : (if p then a else b).st σ f = if p then a.st σ f else b.st σ f := by split <;> rfl
@[simp] theorem bind_if {α β : Type} {p : Prop} [Decidable p] {a b : Out α} {f : α → Sto → Out β} : (if p then a else b).bind f = if p then a.bind f else b.bind f := by split <;> rfl
@[simp] theorem seq_if {p : Prop} [Decidable p] {a b : SO} {f : Fr → Sto → SO} : (if p then a else b).seq f = if p then a.seq f else b.seq f := by split <;> rfl
@[simp] theorem again_if {p : Prop} [Decidable p] {a b : SO} {f : Fr → Sto → SO} : (if p then a else b).again f = if p then a.again f else b.again f := by split <;> rfl
@[simp] theorem fin_if {p : Prop} [Decidable p] {a b : SO} {fl : Bool} {S : Sto} : fin fl S (if p then a else b) = if p then fin fl S a else fin fl S b := by split <;> rfl
theorem ok_if {α : Type} {p : Prop} [Decidable p] {a b : α} {S : Sto} : (if p then Out.ok a S else Out.ok b S) = .ok (if p then a else b) S := by split <;> rfl
end Cr
set_option Elab.async false
set_option linter.all false
set_option maxHeartbeats 1000000
set_option maxRecDepth 10000
/-! Cr24: more for running the evaluator. -/
namespace Cr
set_option autoImplicit false
open PySem L2 PyProof.Rows
open PySem.PyData (strOk)
theorem log_lt {n k : Nat} (h : n < 2 ^ k) : n.log2 ≤ k := by
  rcases Nat.eq_zero_or_pos n with rfl | hp
  · simp [Nat.log2_zero]
  · exact Nat.le_of_lt ((Nat.log2_lt (by omega)).mpr h)
theorem mul_lg {x y : Int} {k l : Nat} (hx : x.natAbs < 2 ^ k) (hy : y.natAbs < 2 ^ l) (h : k + l < 1000000 := by decide) : x.natAbs.log2 + y.natAbs.log2 < 1000000 := by
  have := log_lt hx
  have := log_lt hy
  omega
theorem log_ok {x : Int} (h : x.natAbs < 2 ^ 60) : x.natAbs.log2 < 9000 := by
  have := log_lt h
  omega
theorem pl_lay {n : Nat} {d : D} (h : pl n d = true) : d.canLay0 = true := by
  unfold pl at h
  simp only [Bool.and_eq_true] at h
  exact h.1
/-! ### locations -/
theorem dicOf_loc {S : Sto} {n : Nat} : dicOf S (loc n) = (match S[n]? with | some (.dic kvs) => some kvs | _ => none) := by
  simp only [dicOf, loc, Int.toNat_natCast]
  all_goals
    cases S[n]? with
    | none => rfl
    | some o => cases o <;> rfl
theorem ix_dic {S : Sto} {n : Nat} {k : D} {kvs : List (Key × D)} {v : D} (h : S[n]? = some (.dic kvs)) (hk : (keyOf k).bind (getK kvs) = some v) : idxD (loc n) k S = .ok v S := by
  unfold idxD
  rw [dicOf_loc, h]
  dsimp only
  rw [hk]
theorem ix_loc {S : Sto} {s : Nat} {xs : List D} {i : Int} {v : D} (h : S[s]? = some (.lst xs)) (hv : atI xs i = some v) : idxD (loc s) (.int i) S = .ok v S := by
  unfold idxD
  rw [dicOf_loc, h]
  dsimp only
  rw [lv_loc, h]
  dsimp only
  rw [hv]
theorem lst_loc {S : Sto} {s : Nat} {xs : List D} (h : S[s]? = some (.lst xs)) : lstAt (loc s) S = some (s, xs) := by
  unfold lstAt
  rw [locOf_loc]
  dsimp only
  rw [h]
theorem dic_loc {S : Sto} {s : Nat} {xs : List D} (h : S[s]? = some (.lst xs)) : dicOf S (loc s) = none := by
  rw [dicOf_loc, h]
theorem len_loc {S : Sto} {s : Nat} {xs : List D} (h : S[s]? = some (.lst xs)) : bltD .len [loc s] S = .ok (.int xs.length) S := by
  show lenD (loc s) S = _
  unfold lenD
  rw [dic_loc h]
  dsimp only
  rw [lv_loc, h]
theorem ixN_lt {n j : Nat} (h : j < n) : ixN n (j : Int) = some j := by
  unfold ixN
  rw [if_pos (by omega)]
  first
    | rw [if_pos (by omega)]; simp
    | simp [h]
theorem set_loc {S : Sto} {s j : Nat} {xs : List D} {i : Int} {v : D} (h : S[s]? = some (.lst xs)) (hj : j < xs.length) (hi : i = (j : Int)) : setD (loc s) (.int i) v S = .ok () (S.set s (.lst (xs.set j v))) := by
  unfold setD
  rw [locOf_loc]
  dsimp only
  rw [h]
  dsimp only
  rw [hi, ixN_lt hj]
theorem recv_loc {S : Sto} {s : Nat} {xs : List D} {m : Mt} (hm : m = .append ∨ m = .pop0 ∨ m = .popAt ∨ m = .extend ∨ m = .insert ∨ m = .index) (h : S[s]? = some (.lst xs)) : recvB m (loc s) S = true := by
  have e : (lstAt (loc s) S).isSome = true := by rw [lst_loc h]; rfl
  rcases hm with rfl | rfl | rfl | rfl | rfl | rfl <;> exact e
@[simp] theorem recv_join {x : Str} {S : Sto} : recvB .join (.str x) S = true := id rfl
@[simp] theorem recv_sw {x : Str} {S : Sto} : recvB .startswith (.str x) S = true := id rfl
theorem pop_loc {S : Sto} {s : Nat} {x : D} {xs : List D} (h : S[s]? = some (.lst (x :: xs))) : mthD .popAt (loc s) [.int 0] S = .ok x (S.set s (.lst xs)) := by
  show popAtD (loc s) (.int 0) S = _
  unfold popAtD
  rw [lst_loc h]
  dsimp only
  rw [if_pos ⟨by decide, by decide⟩]
  have e : PySem.seqIndex? 0 (x :: xs).length = some 0 := by simp [PySem.seqIndex?]
  rw [e]
  rfl
theorem app_loc {S : Sto} {s : Nat} {y : D} {xs : List D} (h : S[s]? = some (.lst xs)) (hz : xs.length < sizeLine) : mthD .append (loc s) [y] S = .ok .none (S.set s (.lst (xs ++ [y]))) := by
  show appD (loc s) y S = _
  unfold appD
  rw [lst_loc h]
  exact if_pos hz
theorem join_str {x : Str} {ys : List Str} {d : D} {S : Sto} (h : (seqOf S d).bind strsOf = some ys) (hz : (ys.map (·.length)).sum + ys.length * x.length ≤ sizeLine) : mthD .join (.str x) [d] S = .ok (.str (Str.join x ys)) S := by
  show joinD (.str x) d S = _
  unfold joinD
  rw [h]
  exact if_pos hz
@[simp] theorem sw_str {x y : Str} {S : Sto} : mthD .startswith (.str x) [.str y] S = .ok (.bool (Txt.startswith x y)) S := id rfl
/-! ### more operations -/
@[simp] theorem ne_ss {i j : String} {S : Sto} : cmpD .NotEq (.str (Str.ofString i)) (.str (Str.ofString j)) S = .ok (.bool (!decide (i = j))) S := by
  rw [ne_s ok_ofs ok_ofs]
  simp
@[simp] theorem frL_nil {d : D} {all : List D} {step : D → Fr → Sto → SO} {σ : Fr} {S : Sto} : frL d all step [] σ S = .nx σ S := by rw [frL]
@[simp] theorem repr_b {k : Bool} {S : Sto} : bltD .repr [.bool k] S = .ok (.str (if k = true then "True" else "False")) S := id rfl
theorem mul_tup {a : List D} {k : Int} {S : Sto} (h : a ≠ [] ∧ 2 ≤ k ∧ k ≤ 1000 ∧ a.length ≤ 1000) : binD .Mult (.tuple a) (.int k) S = .ok (.tuple (List.replicate k.toNat a).flatten) S := by
  unfold binD
  exact if_pos h
theorem mul_lst {a : List D} {k : Int} {S : Sto} (h0 : -(2 ^ 63) ≤ k) (h1 : k < 2 ^ 63) (h2 : a.length * k.toNat ≤ sizeLine) : binD .Mult (.list a) (.int k) S = .ok (.list (List.replicate k.toNat a).flatten) S := by
  unfold binD
  exact if_pos (And.intro h0 (And.intro h1 h2))
theorem mul_str {a : Str} {k : Int} {S : Sto} (h0 : 0 ≤ k) (h1 : k ≤ 1000) (h2 : a.length ≤ 1000) : binD .Mult (.str a) (.int k) S = .ok (.str (repS k a)) S := by
  unfold binD
  exact if_pos (And.intro h0 (And.intro h1 h2))
theorem cat_s {a b : Str} {S : Sto} (h : a.length + b.length ≤ sizeLine) : binD .Add (.str a) (.str b) S = .ok (.str (a ++ b)) S := by
  unfold binD
  exact if_pos h
theorem cat_t {a b : List D} {S : Sto} (h : a.length + b.length ≤ sizeLine) : binD .Add (.tuple a) (.tuple b) S = .ok (.tuple (a ++ b)) S := by
  unfold binD
  exact if_pos h
theorem cat_l {a b : List D} {S : Sto} (h : a.length + b.length ≤ sizeLine) : binD .Add (.list a) (.list b) S = .ok (.list (a ++ b)) S := by
  unfold binD
  exact if_pos h
theorem str_i {i : Int} {S : Sto} (h : i.natAbs.log2 < 1920) : bltD .str [.int i] S = .ok (.str (Str.ofString i.repr)) S := if_pos h
theorem in_tup {x : D} {ys : List D} {S : Sto} (h1 : plain (.tuple ys) = true) (h2 : plain x = true) : cmpD .In x (.tuple ys) S = .ok (.bool (inD x ys)) S := by
  unfold cmpD
  exact if_pos (And.intro h1 h2)
theorem in_lst {x : D} {ys : List D} {S : Sto} (h1 : plain (.list ys) = true) (h2 : plain x = true) : cmpD .In x (.list ys) S = .ok (.bool (inD x ys)) S := by
  unfold cmpD
  exact if_pos (And.intro h1 h2)
theorem nin_lst {x : D} {ys : List D} {S : Sto} (h1 : plain (.list ys) = true) (h2 : plain x = true) : cmpD .NotIn x (.list ys) S = .ok (.bool (!inD x ys)) S := by
  unfold cmpD
  exact if_pos (And.intro h1 h2)
@[simp] theorem isi_s {x : Str} {S : Sto} : isiD "tuple" (.str x) S = .ok (.bool false) S := id rfl
@[simp] theorem isi_t {x : List D} {S : Sto} : isiD "tuple" (.tuple x) S = .ok (.bool true) S := id rfl
@[simp] theorem isi_n {S : Sto} : isiD "tuple" .none S = .ok (.bool false) S := id rfl
@[simp] theorem isi_b {b : Bool} {S : Sto} : isiD "tuple" (.bool b) S = .ok (.bool false) S := id rfl
@[simp] theorem is_nn {S : Sto} : cmpD .Is .none .none S = .ok (.bool true) S := id rfl
@[simp] theorem is_sn {x : Str} {S : Sto} : cmpD .Is (.str x) .none S = .ok (.bool false) S := id rfl
@[simp] theorem is_tn {x : List D} {S : Sto} : cmpD .Is (.tuple x) .none S = .ok (.bool false) S := id rfl
@[simp] theorem is_bn {x : Bool} {S : Sto} : cmpD .Is (.bool x) .none S = .ok (.bool false) S := id rfl
@[simp] theorem is_sb {x : Str} {b : Bool} {S : Sto} : cmpD .Is (.str x) (.bool b) S = .ok (.bool false) S := id rfl
@[simp] theorem is_tb {x : List D} {b : Bool} {S : Sto} : cmpD .Is (.tuple x) (.bool b) S = .ok (.bool false) S := id rfl
@[simp] theorem is_nb {b : Bool} {S : Sto} : cmpD .Is .none (.bool b) S = .ok (.bool false) S := id rfl
@[simp] theorem isnot_sb {x : Str} {b : Bool} {S : Sto} : cmpD .IsNot (.str x) (.bool b) S = .ok (.bool true) S := id rfl
@[simp] theorem isnot_tb {x : List D} {b : Bool} {S : Sto} : cmpD .IsNot (.tuple x) (.bool b) S = .ok (.bool true) S := id rfl
@[simp] theorem isnot_nb {b : Bool} {S : Sto} : cmpD .IsNot .none (.bool b) S = .ok (.bool true) S := id rfl
/-! ### texts by signs -/
theorem one_lt {a b : Nat} : ([a] < [b]) ↔ a < b := by simp [List.cons_lt_cons_iff]
theorem ok_one {c : Nat} (h : c < 0x110000) : strOk ⟨#[c]⟩ = true := by simp [strOk, h]
theorem ok_cps {a : Str} (oa : strOk a = true) : ∀ c ∈ a.cps.toList, c < 0x110000 := by
  intro c hc
  have := oa
  unfold strOk at this
  rw [Array.all_eq_true_iff_forall_mem] at this
  simpa using this c (by simpa using hc)
theorem lt_cc {a b : Nat} {S : Sto} {x y : Str} (hx : x.cps.toList = [a]) (hy : y.cps.toList = [b]) (ox : strOk x = true) (oy : strOk y = true) : cmpD .Lt (.str x) (.str y) S = .ok (.bool (decide (a < b))) S := by
  rw [lt_s ox oy, hx, hy]
  congr 2
  exact Bool.eq_iff_iff.mpr (by simp [one_lt])
theorem gt_cc {a b : Nat} {S : Sto} {x y : Str} (hx : x.cps.toList = [a]) (hy : y.cps.toList = [b]) (ox : strOk x = true) (oy : strOk y = true) : cmpD .Gt (.str x) (.str y) S = .ok (.bool (decide (b < a))) S := by
  rw [gt_s ox oy, hx, hy]
  congr 2
  exact Bool.eq_iff_iff.mpr (by simp [one_lt])
theorem le_cc {a b : Nat} {S : Sto} {x y : Str} (hx : x.cps.toList = [a]) (hy : y.cps.toList = [b]) (ox : strOk x = true) (oy : strOk y = true) : cmpD .LtE (.str x) (.str y) S = .ok (.bool (decide (a ≤ b))) S := by
  unfold cmpD
  dsimp only
  rw [PySem.W.dataLt_str, hx, hy]
  refine (if_pos (And.intro (by simpa using ox) (And.intro (by simpa using oy) (And.intro rfl rfl)))).trans ?_
  congr 2
  rw [Bool.eq_iff_iff]
  simp [one_lt]
/-- a loop with an invariant that may return -/
theorem frL_ret {d : D} {all : List D} {step : D → Fr → Sto → SO} (h : ∀ S, stays d all S = true) (I : List D → Fr → Sto → Prop) (P : D → Sto → Prop) : ∀ (xs : List D) (σ : Fr) (S : Sto), I xs σ S →
    (∀ x xs σ S, I (x :: xs) σ S → (∃ σ' S', step x σ S = .nx σ' S' ∧ I xs σ' S') ∨ ∃ v S', step x σ S = .rt v S' ∧ P v S') → (∃ σ' S', frL d all step xs σ S = .nx σ' S' ∧ I [] σ' S') ∨ ∃ v S', frL d all step xs σ S = .rt v S' ∧ P v S'
  | [], σ, S, i, _ => .inl ⟨σ, S, by rw [frL], i⟩
  | x :: xs, σ, S, i, hs => by
    rcases hs x xs σ S i with ⟨σ1, S1, e, i1⟩ | ⟨v, S1, e, p⟩
    · rcases frL_ret h I P xs σ1 S1 i1 hs with ⟨σ2, S2, e2, i2⟩ | ⟨v, S2, e2, p⟩
      · exact .inl ⟨σ2, S2, by rw [frL_cons h, e, again_nx, e2], i2⟩
      · exact .inr ⟨v, S2, by rw [frL_cons h, e, again_nx, e2], p⟩
    · exact .inr ⟨v, S1, by rw [frL_cons h, e, again_rt], p⟩
end Cr
set_option Elab.async false
set_option linter.all false
set_option maxRecDepth 100000
set_option maxHeartbeats 2000000
/-! CrL: the draws of a law: _law_state and _law_take. -/
namespace Cr
set_option autoImplicit false
open PySem L2 PyProof.Rows
open PySem.PyData (strOk)
def stateB : List CS := [
  .asg (.nm 1) (.lcg true true false [2] false [.sli (.var 0) none (some (.con (.int 63)))] [] (.blt .abs [.var 2])),
  .ife (.cmp .Eq (.blt .len [.var 1]) (.con (.int 0))) [.asg (.nm 1) (.lst true [.con (.int 0)])] [],
  .ret (.lst true [.con (.int 0), .var 1])]
def stateF : Fn := ⟨3, 1, false, stateB⟩
def takeB : List CS := [
  .ife (.cmp .Lt (.var 1) (.con (.int 1))) [.ret (.con (.int 0))] [],
  .asg (.nm 2) (.idx (.var 0) (.con (.int 1))),
  .asg (.nm 3) (.bop .Mod (.idx (.var 0) (.con (.int 0))) (.blt .len [.var 2])),
  .asg (.nm 4) (.idx (.var 2) (.var 3)),
  .ife (.cmp .GtE (.var 4) (.con (.int 1000000000000000000))) [.asg (.sub (.var 2) (.var 3)) (.bop .FloorDiv (.var 4) (.var 1)), .ret (.bop .Mod (.var 4) (.var 1))] [],
  .asg (.sub (.var 0) (.con (.int 0))) (.bop .Add (.idx (.var 0) (.con (.int 0))) (.con (.int 1))),
  .asg (.nm 5) (.bop .Mod (.blt .int [.bop .Add (.bop .Mult (.var 4) (.con (.int 48271))) (.bop .Mult (.idx (.var 0) (.con (.int 0))) (.con (.int 69621)))]) (.con (.int 2147483647))),
  .asg (.nm 5) (.bop .Mod (.blt .int [.bop .Add (.bop .Mult (.var 5) (.con (.int 16807))) (.bop .Mult (.idx (.var 0) (.con (.int 0))) (.con (.int 7919)))]) (.con (.int 1000000007))),
  .ret (.bop .Mod (.bop .FloorDiv (.var 5) (.con (.int 7))) (.var 1))]
def takeF : Fn := ⟨6, 2, false, takeB⟩
structure In (s c : Nat) (m : Nat) (S : Sto) : Prop where
  ne : s ≠ c
  ex : ∃ (k : Nat) (cells : List Nat), k ≤ m ∧ cells ≠ [] ∧ S[s]? = some (.lst [.int k, loc c]) ∧ S[c]? = some (.lst (cells.map fun x : Nat => PyData.int x))
theorem In.mono {s c m m' : Nat} {S : Sto} (h : In s c m S) (hm : m ≤ m') : In s c m' S := by
  obtain ⟨k, cells, h1, h2⟩ := h.ex
  exact ⟨h.ne, k, cells, Nat.le_trans h1 hm, h2⟩
theorem take_ok {T : Nat → Option Fn} {W f : Nat} (hT : T f = some takeF) (n s c m : Nat) (most : Nat) (S : Sto) (I : In s c m S) (h1 : 1 ≤ most) (h2 : most < 2 ^ 60) (hm : m < 2 ^ 59) :
    ∃ v : Nat, ∃ S', callN T W (n + 1) f [loc s, .int most] S = .ok (.int v) S' ∧ v < most ∧ In s c (m + 1) S' ∧ S'.length = S.length := by
  obtain ⟨k, cells, hk, hc, hs, hcs⟩ := I.ex
  rw [call_eq (fn := takeF) hT rfl]
  have hlen : 0 < cells.length := List.length_pos_iff.mpr hc
  have g1 : idxD (loc s) (.int 1) S = .ok (loc c) S := ix_loc hs (atI_at 1 rfl)
  have g0 : idxD (loc s) (.int 0) S = .ok (.int k) S := ix_loc hs (atI_at 0 rfl)
  have gl : bltD .len [loc c] S = .ok (.int cells.length) S := by rw [len_loc hcs, List.length_map]
  have gm : binD .Mod (.int (k : Int)) (.int (cells.length : Int)) S = .ok (.int ((k % cells.length : Nat) : Int)) S := by
    rw [mod_i (by omega), Int.fmod_eq_emod_of_nonneg _ (by omega)]; rfl
  have hat : k % cells.length < cells.length := Nat.mod_lt _ hlen
  have gc : idxD (loc c) (.int ((k % cells.length : Nat) : Int)) S = .ok (.int (cells[k % cells.length] : Nat)) S := ix_loc hcs (atI_at (k % cells.length) (by rw [List.getElem?_map, List.getElem?_eq_getElem hat]; rfl))
  generalize cells[k % cells.length] = cell at gc
  have hm1 : ¬ ((most : Int) < 1) := by omega
  have hmz : (most : Int) ≠ 0 := by omega
  have e1 := Int.natCast_emod (k) cells.length
  have e2 : (most : Int).natAbs.log2 < 9000 := log_ok (by simpa using h2)
  by_cases hb : (1000000000000000000 : Int) ≤ (cell : Int)
  · have gd : binD .FloorDiv (.int (cell : Int)) (.int (most : Int)) S = .ok (.int ((cell / most : Nat) : Int)) S := by
      rw [div_i hmz e2, Int.fdiv_eq_ediv_of_nonneg _ (by omega)]; rfl
    have gs : setD (loc c) (.int ((k % cells.length : Nat) : Int)) (.int ((cell / most : Nat) : Int)) S = .ok () (S.set c (.lst ((cells.set (k % cells.length) (cell / most)).map fun x : Nat => PyData.int x))) := by
      rw [set_loc hcs (by simpa using hat) rfl, List.map_set]
    have gr : ∀ S', binD .Mod (.int (cell : Int)) (.int (most : Int)) S' = .ok (.int ((cell % most : Nat) : Int)) S' := fun S' => by
      rw [mod_i hmz, Int.fmod_eq_emod_of_nonneg _ (by omega)]; rfl
    rw [e1] at gm gc gs
    rw [Int.natCast_ediv] at gd gs
    have gr : ∀ S', binD .Mod (.int (cell : Int)) (.int (most : Int)) S' = .ok (.int ((cell : Int) % most)) S' := fun S' => by rw [gr, Int.natCast_emod]
    refine ⟨cell % most, S.set c (.lst ((cells.set (k % cells.length) (cell / most)).map fun x : Nat => PyData.int x)), ?_, Nat.mod_lt _ (by omega), ⟨I.ne, k, cells.set (k % cells.length) (cell / most), by omega, by simpa using hc, ?_, ?_⟩, ?_⟩
    · simp [takeF, takeB, start0, hm1, g1, g0, gl, gm, gc, hb, gd, gs, gr]
    · rw [List.getElem?_set_ne (Ne.symm I.ne)]; exact hs
    · rw [List.getElem?_set_self (List.getElem?_eq_some_iff.mp hcs).1]
    · simp
  · have hcell : cell < 2 ^ 60 := by omega
    let S1 : Sto := S.set s (.lst [.int ((k : Int) + 1), loc c])
    have gs : setD (loc s) (.int 0) (.int ((k : Int) + 1)) S = .ok () S1 := set_loc (j := 0) hs (by simp) rfl
    have hs1 : S1[s]? = some (.lst [.int ((k : Int) + 1), loc c]) := List.getElem?_set_self (List.getElem?_eq_some_iff.mp hs).1
    have g2 : idxD (loc s) (.int 0) S1 = .ok (.int ((k : Int) + 1)) S1 := ix_loc hs1 (atI_at 0 rfl)
    have m1 : binD .Mult (.int (cell : Int)) (.int 48271) S1 = .ok (.int ((cell : Int) * 48271)) S1 := mul_i (mul_lg (k := 60) (l := 60) (by simpa using hcell) (by decide))
    have m2 : binD .Mult (.int ((k : Int) + 1)) (.int 69621) S1 = .ok (.int (((k : Int) + 1) * 69621)) S1 := mul_i (mul_lg (k := 60) (l := 60) (by omega) (by decide))
    let a1 : Nat := (cell * 48271 + (k + 1) * 69621) % 2147483647
    have r1 : binD .Mod (.int ((cell : Int) * 48271 + ((k : Int) + 1) * 69621)) (.int 2147483647) S1 = .ok (.int (a1 : Int)) S1 := by
      rw [mod_i (by decide), Int.fmod_eq_emod_of_nonneg _ (by decide)]; rfl
    have ha1 : a1 < 2147483647 := Nat.mod_lt _ (by decide)
    have m3 : binD .Mult (.int (a1 : Int)) (.int 16807) S1 = .ok (.int ((a1 : Int) * 16807)) S1 := mul_i (mul_lg (k := 60) (l := 60) (by omega) (by decide))
    have m4 : binD .Mult (.int ((k : Int) + 1)) (.int 7919) S1 = .ok (.int (((k : Int) + 1) * 7919)) S1 := mul_i (mul_lg (k := 60) (l := 60) (by omega) (by decide))
    let a2 : Nat := (a1 * 16807 + (k + 1) * 7919) % 1000000007
    have r2 : binD .Mod (.int ((a1 : Int) * 16807 + ((k : Int) + 1) * 7919)) (.int 1000000007) S1 = .ok (.int (a2 : Int)) S1 := by
      rw [mod_i (by decide), Int.fmod_eq_emod_of_nonneg _ (by decide)]; rfl
    have r3 : binD .FloorDiv (.int (a2 : Int)) (.int 7) S1 = .ok (.int ((a2 / 7 : Nat) : Int)) S1 := by
      rw [div_i (by decide) (log_ok (by decide)), Int.fdiv_eq_ediv_of_nonneg _ (by decide)]; rfl
    have r4 : binD .Mod (.int ((a2 / 7 : Nat) : Int)) (.int (most : Int)) S1 = .ok (.int ((a2 / 7 % most : Nat) : Int)) S1 := by
      rw [mod_i hmz, Int.fmod_eq_emod_of_nonneg _ (by omega)]; rfl
    rw [e1] at gm gc
    rw [Int.natCast_ediv] at r3
    have r4 : binD .Mod (.int ((a2 : Int) / 7)) (.int (most : Int)) S1 = .ok (.int ((a2 : Int) / 7 % most)) S1 := by
      rw [Int.natCast_emod, Int.natCast_ediv] at r4
      exact r4
    have hc1 : S1[c]? = some (.lst (cells.map fun x : Nat => PyData.int x)) := by
      show (S.set s _)[c]? = _
      rw [List.getElem?_set_ne I.ne]; exact hcs
    have hl1 : S1.length = S.length := List.length_set
    clear_value a1 a2 S1
    refine ⟨a2 / 7 % most, S1, ?_, Nat.mod_lt _ (by omega), ⟨I.ne, k + 1, cells, by omega, hc, by simpa using hs1, hc1⟩, hl1⟩
    · simp [takeF, takeB, start0, hm1, g1, g0, gl, gm, gc, hb, gs, g2, m1, m2, r1, m3, m4, r2, r3, r4]
theorem cut_map {α β : Type} (f : α → β) (xs : List α) (lo hi : Option Int) : ∃ ys : List α, cutL (xs.map f) lo hi = ys.map f := by
  unfold cutL
  rw [← List.map_drop, ← List.map_take]
  exact ⟨_, rfl⟩
def absV : D → Option D
  | .int i => some (.int (i.natAbs : Int))
  | _ => none
theorem abs_map : ∀ ms : List Int, (ms.map PyData.int).filterMap absV = (ms.map Int.natAbs).map fun x : Nat => PyData.int x
  | [] => rfl
  | a :: r => by
    rw [List.map_cons, List.filterMap_cons, List.map_cons, List.map_cons, abs_map r]
    rfl
theorem state_ok {T : Nat → Option Fn} {W f : Nat} (hT : T f = some stateF) (n : Nat) (ns : List Int) (hn : ns.length ≤ 63) : ∃ s c : Nat, ∃ S', callN T W (n + 1) f [.list (ns.map PyData.int)] [] = .ok (loc s) S' ∧ In s c 0 S' := by
  rw [call_eq (fn := stateF) hT rfl]
  obtain ⟨ms, hms⟩ := cut_map PyData.int ns none (some 63)
  have hl : ms.length ≤ 63 := by
    have := congrArg List.length hms
    rw [List.length_map] at this
    rw [← this]
    unfold cutL
    rw [List.length_take, List.length_drop, List.length_map]
    omega
  have hz : ms.length ≤ sizeLine := Nat.le_trans hl (by decide)
  have hsl : ∀ S, sliD (.list (ns.map PyData.int)) none (some 63) S = .ok (.list (ms.map PyData.int)) S := fun S => by rw [← hms]; rfl
  have lc := lcL_pure (d := .list (ms.map PyData.int)) (all := ms.map PyData.int) (step := trn (callN T W n) true [2] false [] (.blt .abs [.var 2]) [some (.list (ns.map PyData.int)), none, none]) (S := []) stays_list
    absV (ms.map PyData.int) (fun x hx => by
      obtain ⟨i, _, rfl⟩ := List.mem_map.mp hx
      have e : (if i < 0 then -i else i) = (i.natAbs : Int) := by split <;> omega
      simp [trn, bndT, setAll, wipF, e, absV])
  rw [abs_map] at lc
  have hcl : ((ms.map Int.natAbs).map fun x : Nat => PyData.int x).length ≤ 1000 := by simp; omega
  have k1 := mk_n (S := []) (size_small hcl)
  generalize hcs : ms.map Int.natAbs = cells at *
  let S1 : Sto := [.lst (cells.map fun x : Nat => PyData.int x)]
  have hl1 : bltD .len [loc 0] S1 = .ok (.int cells.length) S1 := by rw [len_loc (xs := cells.map fun x : Nat => PyData.int x) rfl, List.length_map]
  by_cases h0 : cells.length = 0
  · have h00 : cells = [] := List.length_eq_zero_iff.mp h0
    subst h00
    refine ⟨2, 1, [.lst [], .lst [.int 0], .lst [.int 0, loc 1]], ?_, by decide, 0, [0], Nat.le_refl _, by simp, rfl, rfl⟩
    have hl1 : bltD .len [loc 0] [Ob.lst []] = .ok (.int 0) [Ob.lst []] := hl1
    simp at lc k1
    simp [stateF, stateB, start0, hz, hsl, lc, k1, hl1, mk_n]
  · refine ⟨1, 0, [.lst (cells.map fun x : Nat => PyData.int x), .lst [.int 0, loc 0]], ?_, by decide, 0, cells, Nat.le_refl _, by rintro rfl; exact h0 rfl, rfl, rfl⟩
    have h0' : ¬ ((cells.length : Int) = 0) := by omega
    have h0'' : cells ≠ [] := by rintro rfl; exact h0 rfl
    have hl1 : bltD .len [loc 0] [Ob.lst (cells.map fun x : Nat => PyData.int x)] = .ok (.int cells.length) [Ob.lst (cells.map fun x : Nat => PyData.int x)] := hl1
    simp at k1
    simp [stateF, stateB, start0, hz, hsl, lc, k1, hl1, h0'', mk_n]
end Cr
set_option Elab.async false
set_option linter.all false
set_option maxRecDepth 100000
set_option maxHeartbeats 2000000
/-! CrT: texts as lists of signs. -/
namespace Cr
set_option autoImplicit false
open PySem L2 PyProof.Rows
open PySem.PyData (strOk)
/-- a text by its signs -/
def sc (l : List Nat) : Str := ⟨l.toArray⟩
@[simp] theorem sc_cps {l : List Nat} : (sc l).cps.toList = l := by simp [sc]
@[simp] theorem sc_len {l : List Nat} : (sc l).length = l.length := by show l.toArray.size = _; simp
theorem sc_inj {a b : List Nat} : sc a = sc b ↔ a = b := ⟨fun h => by have := congrArg (fun x : Str => x.cps.toList) h; simpa using this, fun h => by rw [h]⟩
@[simp] theorem sc_app {a b : List Nat} : sc a ++ sc b = sc (a ++ b) := by
  show (⟨a.toArray ++ b.toArray⟩ : Str) = ⟨(a ++ b).toArray⟩
  simp
theorem sc_of (x : Str) : x = sc x.cps.toList := by cases x; simp [sc]
theorem lit (s : String) : Str.ofString s = sc (s.toList.map Char.toNat) := by rw [Str.ofString_eq_toList]; rfl
def okL (l : List Nat) : Prop := ∀ c ∈ l, c < 0x110000
theorem ok_sc {l : List Nat} (h : okL l) : strOk (sc l) = true := by
  unfold strOk sc
  simp only [List.all_toArray, List.all_eq_true, decide_eq_true_eq]
  exact h
theorem okL_drop {l : List Nat} (h : okL l) (n : Nat) : okL (l.drop n) := fun c hc => h c (List.mem_of_mem_drop hc)
theorem okL_take {l : List Nat} (h : okL l) (n : Nat) : okL (l.take n) := fun c hc => h c (List.mem_of_mem_take hc)
theorem okL_app {a b : List Nat} (h : okL a) (h2 : okL b) : okL (a ++ b) := fun c hc => (List.mem_append.mp hc).elim (h c) (h2 c)
theorem okL_lit (s : String) : okL (s.toList.map Char.toNat) := by
  have := ok_ofs (s := s)
  rw [lit] at this
  unfold strOk sc at this
  simp only [List.all_toArray, List.all_eq_true, decide_eq_true_eq] at this
  exact this
/-! ### slices -/
theorem sli_at {l : List Nat} {p q : Nat} {S : Sto} (hz : l.length ≤ sizeLine) : sliD (.str (sc l)) (some (p : Int)) (some (q : Int)) S = .ok (.str (sc ((l.drop p).take (q - p)))) S := by
  unfold sliD
  rw [lv_str]
  dsimp only
  rw [if_pos (by rw [sc_len]; exact hz)]
  congr 2
  unfold cutL
  rw [sc_cps, HT.sIx_nat, HT.sIx_nat]
  show (⟨_⟩ : Str) = sc _
  unfold sc
  congr 2
  by_cases hp : p ≤ l.length
  · rw [Nat.min_eq_left hp]
    by_cases hq : q ≤ l.length
    · rw [Nat.min_eq_left hq]
    · rw [Nat.min_eq_right (by omega), List.take_of_length_le (by rw [List.length_drop]; exact Nat.le_refl _), List.take_of_length_le (by rw [List.length_drop]; omega)]
  · rw [Nat.min_eq_right (by omega : l.length ≤ p), List.drop_length, List.drop_eq_nil_of_le (by omega : l.length ≤ p)]
    simp
theorem sli_to {l : List Nat} {q : Nat} {S : Sto} (hz : l.length ≤ sizeLine) : sliD (.str (sc l)) none (some (q : Int)) S = .ok (.str (sc (l.take q))) S := by
  have := sli_at (l := l) (p := 0) (q := q) (S := S) hz
  rw [List.drop_zero, Nat.sub_zero] at this
  rw [← this]
  unfold sliD
  rw [lv_str]
  dsimp only
  have e : cutL (sc l).cps.toList none (some (q : Int)) = cutL (sc l).cps.toList (some ((0 : Nat) : Int)) (some (q : Int)) := by
    unfold cutL
    have e0 : HT.sIx (sc l).cps.toList.length 0 (some ((0 : Nat) : Int)) = 0 := by rw [HT.sIx_nat]; exact Nat.zero_min _
    rw [e0, HT.sIx_none]
  rw [e]
theorem sli_from {l : List Nat} {p : Nat} {S : Sto} (hz : l.length ≤ sizeLine) : sliD (.str (sc l)) (some (p : Int)) none S = .ok (.str (sc (l.drop p))) S := by
  have := sli_at (l := l) (p := p) (q := l.length) (S := S) hz
  rw [List.take_of_length_le (by rw [List.length_drop]; exact Nat.le_refl _)] at this
  rw [← this]
  unfold sliD
  rw [lv_str]
  dsimp only
  have e : cutL (sc l).cps.toList (some (p : Int)) none = cutL (sc l).cps.toList (some (p : Int)) (some (l.length : Int)) := by
    unfold cutL
    rw [HT.sIx_nat, HT.sIx_nat, HT.sIx_none, sc_cps, Nat.min_self]
  rw [e]
/-- the sign at a place, as a text -/
def s1 (l : List Nat) (p : Nat) : Str := sc ((l.drop p).take 1)
theorem s1_some {l : List Nat} {p c : Nat} (h : l[p]? = some c) : s1 l p = sc [c] := by
  unfold s1
  obtain ⟨hp, rfl⟩ := List.getElem?_eq_some_iff.mp h
  rw [List.drop_eq_getElem_cons hp]
  rfl
theorem s1_none {l : List Nat} {p : Nat} (h : l[p]? = none) : s1 l p = sc [] := by
  unfold s1
  rw [List.drop_eq_nil_of_le (List.getElem?_eq_none_iff.mp h)]
  rfl
theorem sli_one {l : List Nat} {p : Nat} {S : Sto} (hz : l.length ≤ sizeLine) : sliD (.str (sc l)) (some (p : Int)) (some ((p : Int) + 1)) S = .ok (.str (s1 l p)) S := by
  have := sli_at (l := l) (p := p) (q := p + 1) (S := S) hz
  rw [Int.natCast_add] at this
  rw [show ((p : Int) + 1) = (p : Int) + ((1 : Nat) : Int) from rfl, this]
  unfold s1
  rw [Nat.add_sub_cancel_left]
theorem ok_s1 {l : List Nat} {p : Nat} (h : okL l) : strOk (s1 l p) = true := ok_sc (okL_take (okL_drop h p) 1)
/-! ### comparisons -/
theorem eq_sc {a b : List Nat} {S : Sto} (ha : okL a) (hb : okL b) : cmpD .Eq (.str (sc a)) (.str (sc b)) S = .ok (.bool (decide (a = b))) S := by
  rw [eq_s (ok_sc ha) (ok_sc hb)]
  congr 2
  exact decide_eq_decide.mpr sc_inj
theorem ne_sc {a b : List Nat} {S : Sto} (ha : okL a) (hb : okL b) : cmpD .NotEq (.str (sc a)) (.str (sc b)) S = .ok (.bool (!decide (a = b))) S := by
  rw [ne_s (ok_sc ha) (ok_sc hb)]
  congr 3
  exact decide_eq_decide.mpr sc_inj
theorem s1_iff {l : List Nat} {p c : Nat} : s1 l p = sc [c] ↔ l[p]? = some c := by
  cases h : l[p]? with
  | none => rw [s1_none h, sc_inj]; simp
  | some d => rw [s1_some h, sc_inj]; simp
theorem s1_nil {l : List Nat} {p : Nat} : s1 l p = sc [] ↔ l[p]? = none := by
  cases h : l[p]? with
  | none => rw [s1_none h]; simp
  | some d => rw [s1_some h, sc_inj]; simp
theorem eq_s1 {l : List Nat} {p : Nat} {S : Sto} (ok : okL l) {s : String} {c : Nat} (hs : s.toList.map Char.toNat = [c]) : cmpD .Eq (.str (s1 l p)) (.str (Str.ofString s)) S = .ok (.bool (decide (l[p]? = some c))) S := by
  rw [eq_s (ok_s1 ok) ok_ofs]
  congr 2
  refine decide_eq_decide.mpr ?_
  rw [lit, hs, s1_iff]
theorem ne_s1 {l : List Nat} {p : Nat} {S : Sto} (ok : okL l) {s : String} {c : Nat} (hs : s.toList.map Char.toNat = [c]) : cmpD .NotEq (.str (s1 l p)) (.str (Str.ofString s)) S = .ok (.bool (!decide (l[p]? = some c))) S := by
  rw [ne_s (ok_s1 ok) ok_ofs]
  congr 3
  refine decide_eq_decide.mpr ?_
  rw [lit, hs, s1_iff]
theorem ne_s1e {l : List Nat} {p : Nat} {S : Sto} (ok : okL l) : cmpD .NotEq (.str (s1 l p)) (.str (Str.ofString "")) S = .ok (.bool (!decide (l[p]? = none))) S := by
  rw [ne_s (ok_s1 ok) ok_ofs]
  congr 3
  refine decide_eq_decide.mpr ?_
  rw [lit, show "".toList.map Char.toNat = [] from rfl, s1_nil]
theorem ne_s1s {l : List Nat} {p c : Nat} {S : Sto} (ok : okL l) (hc : c < 0x110000) : cmpD .NotEq (.str (s1 l p)) (.str (sc [c])) S = .ok (.bool (!decide (l[p]? = some c))) S := by
  rw [ne_s (ok_s1 ok) (ok_sc (by intro x hx; rw [List.mem_singleton.mp hx]; exact hc))]
  congr 3
  exact decide_eq_decide.mpr s1_iff
theorem eq_s1s {l : List Nat} {p c : Nat} {S : Sto} (ok : okL l) (hc : c < 0x110000) : cmpD .Eq (.str (s1 l p)) (.str (sc [c])) S = .ok (.bool (decide (l[p]? = some c))) S := by
  rw [eq_s (ok_s1 ok) (ok_sc (by intro x hx; rw [List.mem_singleton.mp hx]; exact hc))]
  congr 2
  exact decide_eq_decide.mpr s1_iff
/-- a sign in a text -/
theorem in_str1 {b : Str} {c : Nat} {S : Sto} : cmpD .In (.str (sc [c])) (.str b) S = .ok (.bool (decide (c ∈ b.cps.toList))) S := by
  unfold cmpD
  dsimp only
  rw [show dicOf S (.str b) = none from rfl]
  dsimp only
  rw [lv_str]
  dsimp only
  rw [show (sc [c]) = ⟨#[c]⟩ from rfl, StrLaws.found_one]
theorem ix_sc {l : List Nat} {p c : Nat} {S : Sto} (hz : l.length ≤ sizeLine) (h : l[p]? = some c) : idxD (.str (sc l)) (.int (p : Int)) S = .ok (.str (sc [c])) S := by
  unfold idxD
  rw [show dicOf S (.str (sc l)) = none from rfl]
  dsimp only
  rw [lv_str]
  dsimp only
  rw [if_pos (by rw [sc_len]; exact hz), sc_cps, atI_nat h]
  rfl
theorem len_sc {l : List Nat} {S : Sto} (hz : l.length ≤ sizeLine) : bltD .len [.str (sc l)] S = .ok (.int l.length) S := by
  rw [len_s (by rw [sc_len]; exact hz), sc_len]
theorem cat_sc {a b : List Nat} {S : Sto} (h : a.length + b.length ≤ sizeLine) : binD .Add (.str (sc a)) (.str (sc b)) S = .ok (.str (sc (a ++ b))) S := by
  rw [cat_s (by rw [sc_len, sc_len]; exact h), sc_app]
end Cr
set_option Elab.async false
set_option linter.all false
set_option maxRecDepth 100000
set_option maxHeartbeats 2000000
/-! CrU: what repr shows of data is a text. -/
namespace Cr
set_option autoImplicit false
open PySem L2 PyProof.Rows
open PySem.PyData (strOk)
theorem char_lt (c : Char) : c.toNat < 0x110000 := by
  have := c.valid
  have h2 : c.toNat = c.val.toNat := rfl
  unfold UInt32.isValidChar Nat.isValidChar at this
  omega
theorem reprChar_ok {q c : Nat} (hc : c < 0x110000) : ∀ x ∈ Builtin.Str.reprChar q c, x < 0x110000 := by
  have hex : ∀ w : Nat, ∀ x ∈ (List.replicate (w - ((Nat.toDigits 16 c).map Char.toNat).length) 48 ++ (Nat.toDigits 16 c).map Char.toNat), x < 0x110000 := fun w x hx => by
    rcases List.mem_append.mp hx with h | h
    · rw [(List.mem_replicate.mp h).2]; decide
    · obtain ⟨d, _, rfl⟩ := List.mem_map.mp h
      exact char_lt d
  intro x hx
  unfold Builtin.Str.reprChar at hx
  dsimp only at hx
  have two : ∀ {a b : Nat} {l : List Nat}, a < 0x110000 → b < 0x110000 → (∀ y ∈ l, y < 0x110000) → x ∈ [a, b] ++ l → x < 0x110000 := fun {a b l} ha hb hl h => by
    rcases List.mem_append.mp h with h | h
    · simp only [List.mem_cons, List.not_mem_nil, or_false] at h
      rcases h with rfl | rfl
      · exact ha
      · exact hb
    · exact hl x h
  have two0 : ∀ {a b : Nat}, a < 0x110000 → b < 0x110000 → x ∈ [a, b] → x < 0x110000 := fun {a b} ha hb h => by
    simp only [List.mem_cons, List.not_mem_nil, or_false] at h
    rcases h with rfl | rfl
    · exact ha
    · exact hb
  repeat' split at hx
  all_goals first
    | exact two0 (by decide) hc hx
    | exact two0 (by decide) (by decide) hx
    | (rw [List.mem_singleton.mp hx]; exact hc)
    | exact two (by decide) (by decide) (hex 2) hx
    | exact two (by decide) (by decide) (hex 4) hx
    | exact two (by decide) (by decide) (hex 8) hx
theorem fold_ok (q : Nat) : ∀ (l : List Nat) (acc : Array Nat), (∀ c ∈ l, c < 0x110000) → (∀ c ∈ acc.toList, c < 0x110000) → ∀ x ∈ (l.foldl (fun out c => out ++ (Builtin.Str.reprChar q c).toArray) acc).toList, x < 0x110000
  | [], acc, _, h => h
  | c :: r, acc, hl, h => by
    rw [List.foldl_cons]
    refine fold_ok q r _ (fun d hd => hl d (List.mem_cons_of_mem _ hd)) fun x hx => ?_
    rw [Array.toList_append] at hx
    rcases List.mem_append.mp hx with hx | hx
    · exact h x hx
    · exact reprChar_ok (hl c List.mem_cons_self) x (by simpa using hx)
theorem strOk_iff {x : Str} : strOk x = true ↔ ∀ c ∈ x.cps.toList, c < 0x110000 := by
  constructor
  · exact ok_cps
  · intro h
    rw [sc_of x]
    exact ok_sc h
theorem reprText_ok {x : Str} (h : strOk x = true) : strOk (reprText x) = true := by
  have hq : reprQuote x < 0x110000 := by unfold reprQuote; split <;> decide
  refine strOk_iff.mpr fun c hc => ?_
  unfold reprText at hc
  simp only [Array.toList_push, ← Array.foldl_toList] at hc
  rcases List.mem_append.mp hc with hc | hc
  · exact fold_ok _ _ _ (ok_cps h) (by intro y hy; simp at hy; rw [hy]; exact hq) c hc
  · rw [List.mem_singleton.mp hc]; exact hq
theorem textFrom_ok : ∀ (ts : List Str) (k : Nat) (acc : Str), strOk acc = true → (∀ t ∈ ts, strOk t = true) → strOk (textFrom k acc ts) = true
  | [], _, _, h, _ => h
  | t :: r, k, acc, h, ht => by
    show strOk (textFrom (k + 1) (acc ++ (if k > 0 then ", " else "" : String) ++ t) r) = true
    exact textFrom_ok r _ _ (ok_app (ok_app h ok_ofs) (ht t List.mem_cons_self)) fun y hy => ht y (List.mem_cons_of_mem _ hy)
theorem join_ok' {s : Str} (hs : strOk s = true) : ∀ ts : List Str, (∀ t ∈ ts, strOk t = true) → strOk (Str.join s ts) = true
  | [], _ => strOk_iff.mpr fun c hc => by cases hc
  | [x], h => h x List.mem_cons_self
  | x :: y :: r, h => by
    show strOk (x ++ s ++ Str.join s (y :: r)) = true
    exact ok_app (ok_app (h x List.mem_cons_self) hs) (join_ok' hs (y :: r) fun z hz => h z (List.mem_cons_of_mem _ hz))
mutual
theorem shown_ok : ∀ d : D, d.canLay0 = true → strOk d.shown = true
  | .none, _ => by rw [PyData.shown]; exact ok_ofs
  | .bool b, _ => by rw [PyData.shown]; cases b <;> exact ok_ofs
  | .int i, _ => by rw [PyData.shown]; exact ok_ofs
  | .str x, h => by
    rw [PyData.shown]
    rw [PyData.canLay0] at h
    exact reprText_ok h
  | .list xs, h => by
    rw [PyData.shown]
    rw [PyData.canLay0] at h
    exact ok_app (textFrom_ok _ _ _ ok_ofs (shownAll_ok xs h)) ok_ofs
  | .tuple xs, h => by
    rw [PyData.shown]
    rw [PyData.canLay0] at h
    exact ok_app (ok_app ok_ofs (join_ok' ok_ofs _ (shownAll_ok xs h))) (by split <;> exact ok_ofs)
  | .dict kvs, h => by rw [PyData.canLay0] at h; cases h
theorem shownAll_ok : ∀ xs : List D, PyData.canLayAll0 xs = true → ∀ t ∈ PyData.shownAll xs, strOk t = true
  | [], _, t, ht => by rw [PyData.shownAll] at ht; cases ht
  | x :: xs, h, t, ht => by
    rw [PyData.canLayAll0, Bool.and_eq_true] at h
    rw [PyData.shownAll] at ht
    rcases List.mem_cons.mp ht with rfl | ht
    · exact shown_ok x h.1
    · exact shownAll_ok xs h.2 t ht
end
theorem repr_ok {n : Nat} {d : D} {S : Sto} (h : pl n d = true) (hn : n ≤ 64) (hs : d.showable = true) (hl : d.shown.length ≤ sizeLine) : bltD .repr [d] S = .ok (.str d.shown) S := by
  have h2 : plain d = true := pl_plain h hn
  have e : lv S d = d := pl_lv h
  have key : (∀ b, d ≠ .bool b) → bltD .repr [d] S = if plain (lv S d) = true ∧ (lv S d).showable = true ∧ (lv S d).shown.length ≤ sizeLine then .ok (.str (lv S d).shown) S else .bad := fun nb => by
    cases d <;> first
      | rfl
      | exact absurd rfl (nb _)
  by_cases hb : ∃ b, d = .bool b
  · obtain ⟨b, rfl⟩ := hb
    have e : PyData.shown (.bool b) = (if b then "True" else "False" : Str) := by rw [PyData.shown]
    rw [e]
    cases b <;> rfl
  · rw [key fun b z => hb ⟨b, z⟩, e, if_pos ⟨h2, hs, hl⟩]
end Cr
set_option Elab.async false
set_option linter.all false
set_option maxRecDepth 100000
namespace K51
open PySem L2 Cr
def top (i : Nat) : Stmt := PySem.Challenge.pw_flowreprise_k51_written_data.main.body.getD i (.Pass ⟨0, 0, 0, 0⟩)
def mtd (i k : Nat) : Stmt := (clsBody (top i)).getD k (.Pass ⟨0, 0, 0, 0⟩)
def G : Gb := {
  fns := [("encode", 1), ("_number", 3), ("_parts", 3), ("read", 2), ("decode", 1), ("_law_state", 1), ("_law_take", 2), ("_law_bits", 2), ("_law_data", 2), ("_law_form", 1), ("_law_number", 4), ("_law_read", 2), ("_law_items", 3), ("_law_due", 1), ("_law_told", 1), ("law", 1)]
  gls := [("DIGITS", (.str "0123456789")), ("MOST_NUMBER", (.int 16))]
  mts := []
  nws := []
  fls := []
  exc := [("FormError", 1, some ["at"])]
  sub := [("FormError", [1], []), ("FlowError", [1], [])]
  xfs := [(1, "at")] }
/-! encode(data): 0 data, 1 parts, 2 part -/
def b0 : List CS := [
  .ife (.isi (.var 0) "bool") [.ret (.ite (.var 0) (.con (.str "y")) (.con (.str "n")))] [],
  .ife (.cmp .Is (.var 0) (.con .none)) [.ret (.con (.str "z"))] [],
  .ife (.isi (.var 0) "int") [.ret (.bop .Add (.bop .Add (.con (.str "i")) (.blt .str [.var 0])) (.con (.str ";")))] [],
  .ife (.isi (.var 0) "str") [.ret (.bop .Add (.bop .Add (.bop .Add (.con (.str "t")) (.blt .str [.blt .len [.var 0]])) (.con (.str ":"))) (.var 0))] [],
  .asg (.nm 1) (.mth .join (.con (.str "")) [.lcg true false false [2] false [.var 0] [] (.call 0 [.var 2])]),
  .ret (.ite (.isi (.var 0) "tuple") (.bop .Add (.bop .Add (.con (.str "(")) (.var 1)) (.con (.str ")"))) (.bop .Add (.bop .Add (.con (.str "[")) (.var 1)) (.con (.str "]"))))]
def f0 : Fn := ⟨3, 1, false, b0⟩
/-! _number(text, at, end): 0 text, 1 at, 2 end, 3 last, 4 first -/
def b1 : List CS := [
  .asg (.nm 3) (.var 1),
  .ife (.and (.cmp .Eq (.sli (.var 0) (some (.var 3)) (some (.bop .Add (.var 3) (.con (.int 1))))) (.con (.str "-"))) (.cmp .Eq (.var 2) (.con (.str ";")))) [.aug 3 .Add (.con (.int 1))] [],
  .asg (.nm 4) (.var 3),
  .whl (.and (.cmp .NotEq (.sli (.var 0) (some (.var 3)) (some (.bop .Add (.var 3) (.con (.int 1))))) (.con (.str ""))) (.and (.cmp .In (.idx (.var 0) (.var 3)) (.con (.str "0123456789"))) (.cmp .Lt (.bop .Sub (.var 3) (.var 4)) (.con (.int 16))))) [.aug 3 .Add (.con (.int 1))],
  .ife (.or (.cmp .Eq (.var 3) (.var 4)) (.or (.cmp .NotEq (.sli (.var 0) (some (.var 3)) (some (.bop .Add (.var 3) (.con (.int 1))))) (.var 2)) (.or (.and (.cmp .Eq (.idx (.var 0) (.var 4)) (.con (.str "0"))) (.cmp .Gt (.var 3) (.bop .Add (.var 4) (.con (.int 1))))) (.cmp .Eq (.sli (.var 0) (some (.var 1)) (some (.var 3))) (.con (.str "-0")))))) [.rai 1 (some ["at"]) [.var 1]] [],
  .ret (.tup [.blt .int [.sli (.var 0) (some (.var 1)) (some (.var 3))], .bop .Add (.var 3) (.con (.int 1))])]
def f1 : Fn := ⟨5, 3, false, b1⟩
/-! _parts(text, at, end): 0 text, 1 at, 2 end, 3 found, 4 part -/
def b2 : List CS := [
  .asg (.nm 3) (.lst true []),
  .whl (.cmp .NotEq (.sli (.var 0) (some (.var 1)) (some (.bop .Add (.var 1) (.con (.int 1))))) (.var 2)) [.asg (.tup [.nm 4, .nm 1]) (.call 3 [.var 0, .var 1]), .exp (.mth .append (.var 3) [.var 4])],
  .ret (.tup [.var 3, .bop .Add (.var 1) (.con (.int 1))])]
def f2 : Fn := ⟨5, 3, true, b2⟩
/-! read(text, at): 0 text, 1 at, 2 sign, 3 size, 4 first, 5 found, 6 behind -/
def b3 : List CS := [
  .asg (.nm 2) (.sli (.var 0) (some (.var 1)) (some (.bop .Add (.var 1) (.con (.int 1))))),
  .ife (.cmp .In (.var 2) (.tup [.con (.str "y"), .con (.str "n")])) [.ret (.tup [.cmp .Eq (.var 2) (.con (.str "y")), .bop .Add (.var 1) (.con (.int 1))])] [],
  .ife (.cmp .Eq (.var 2) (.con (.str "z"))) [.ret (.tup [.con .none, .bop .Add (.var 1) (.con (.int 1))])] [],
  .ife (.cmp .Eq (.var 2) (.con (.str "i"))) [.ret (.call 1 [.var 0, .bop .Add (.var 1) (.con (.int 1)), .con (.str ";")])] [],
  .ife (.cmp .Eq (.var 2) (.con (.str "t"))) [.asg (.tup [.nm 3, .nm 4]) (.call 1 [.var 0, .bop .Add (.var 1) (.con (.int 1)), .con (.str ":")]), .ife (.cmp .Gt (.bop .Add (.var 4) (.var 3)) (.blt .len [.var 0])) [.rai 1 (some ["at"]) [.bop .Add (.var 1) (.con (.int 1))]] [], .ret (.tup [.sli (.var 0) (some (.var 4)) (some (.bop .Add (.var 4) (.var 3))), .bop .Add (.var 4) (.var 3)])] [],
  .ife (.cmp .Eq (.var 2) (.con (.str "("))) [.asg (.tup [.nm 5, .nm 6]) (.call 2 [.var 0, .bop .Add (.var 1) (.con (.int 1)), .con (.str ")")]), .ret (.tup [.blt .tuple [.var 5], .var 6])] [],
  .ife (.cmp .Eq (.var 2) (.con (.str "["))) [.ret (.call 2 [.var 0, .bop .Add (.var 1) (.con (.int 1)), .con (.str "]")])] [],
  .rai 1 (some ["at"]) [.var 1]]
def f3 : Fn := ⟨7, 2, false, b3⟩
/-! decode(text): 0 text, 1 data, 2 behind -/
def b4 : List CS := [
  .asg (.tup [.nm 1, .nm 2]) (.call 3 [.var 0, .con (.int 0)]),
  .ife (.cmp .Lt (.var 2) (.blt .len [.var 0])) [.rai 1 (some ["at"]) [.var 2]] [],
  .ret (.var 1)]
def f4 : Fn := ⟨3, 1, false, b4⟩
/-! _law_state(_law_script): 0 _law_script, 1 _law_cells, 2 _law_cell -/
def b5 : List CS := [
  .asg (.nm 1) (.lcg true true false [2] false [.sli (.var 0) none (some (.con (.int 63)))] [] (.blt .abs [.var 2])),
  .ife (.cmp .Eq (.blt .len [.var 1]) (.con (.int 0))) [.asg (.nm 1) (.lst true [.con (.int 0)])] [],
  .ret (.lst true [.con (.int 0), .var 1])]
def f5 : Fn := ⟨3, 1, false, b5⟩
/-! _law_take(_law_state_here, _law_most): 0 _law_state_here, 1 _law_most, 2 _law_cells, 3 _law_at, 4 _law_cell, 5 _law_mixed -/
def b6 : List CS := [
  .ife (.cmp .Lt (.var 1) (.con (.int 1))) [.ret (.con (.int 0))] [],
  .asg (.nm 2) (.idx (.var 0) (.con (.int 1))),
  .asg (.nm 3) (.bop .Mod (.idx (.var 0) (.con (.int 0))) (.blt .len [.var 2])),
  .asg (.nm 4) (.idx (.var 2) (.var 3)),
  .ife (.cmp .GtE (.var 4) (.con (.int 1000000000000000000))) [.asg (.sub (.var 2) (.var 3)) (.bop .FloorDiv (.var 4) (.var 1)), .ret (.bop .Mod (.var 4) (.var 1))] [],
  .asg (.sub (.var 0) (.con (.int 0))) (.bop .Add (.idx (.var 0) (.con (.int 0))) (.con (.int 1))),
  .asg (.nm 5) (.bop .Mod (.blt .int [.bop .Add (.bop .Mult (.var 4) (.con (.int 48271))) (.bop .Mult (.idx (.var 0) (.con (.int 0))) (.con (.int 69621)))]) (.con (.int 2147483647))),
  .asg (.nm 5) (.bop .Mod (.blt .int [.bop .Add (.bop .Mult (.var 5) (.con (.int 16807))) (.bop .Mult (.idx (.var 0) (.con (.int 0))) (.con (.int 7919)))]) (.con (.int 1000000007))),
  .ret (.bop .Mod (.bop .FloorDiv (.var 5) (.con (.int 7))) (.var 1))]
def f6 : Fn := ⟨6, 2, false, b6⟩
/-! _law_bits(_law_state_here, _law_count): 0 _law_state_here, 1 _law_count, 2 _law_k -/
def b7 : List CS := [
  .ret (.lcg true false true [2] false [.var 1] [] (.call 6 [.var 0, .con (.int 2)]))]
def f7 : Fn := ⟨3, 2, false, b7⟩
/-! _law_data(_law_state_here, _law_deep): 0 _law_state_here, 1 _law_deep, 2 _law_kind, 3 _law_parts, 4 _law_numbers, 5 _law_k -/
def b8 : List CS := [
  .asg (.nm 2) (.call 6 [.var 0, .con (.int 9)]),
  .ife (.or (.cmp .Eq (.var 1) (.con (.int 0))) (.cmp .Lt (.var 2) (.con (.int 6)))) [.asg (.nm 4) (.lst false [.con (.int 0), .con (.int 1), .neg (.con (.int 1)), .con (.int 10), .con (.int 999999999999), .neg (.con (.int 1000000000000)), .con (.int 9999999999999999)]), .ret (.idx (.lst false [.con .none, .con (.bool true), .con (.bool false), .idx (.var 4) (.call 6 [.var 0, .con (.int 7)]), .idx (.lst false [.con (.str ""), .con (.str "a"), .con (.str "i1;"), .con (.str "(x"), .con (.str "12:")]) (.call 6 [.var 0, .con (.int 5)]), .con (.int 7)]) (.call 6 [.var 0, .con (.int 6)]))] [],
  .asg (.nm 3) (.lcg true false true [5] false [.call 6 [.var 0, .con (.int 4)]] [] (.call 8 [.var 0, .bop .Sub (.var 1) (.con (.int 1))])),
  .ife (.cmp .Lt (.var 2) (.con (.int 8))) [.ret (.blt .tuple [.var 3])] [],
  .ret (.var 3)]
def f8 : Fn := ⟨6, 2, false, b8⟩
/-! _law_form(_law_data_here): 0 _law_data_here, 1 _law_inner, 2 _law_part -/
def b9 : List CS := [
  .ife (.cmp .Is (.var 0) (.con .none)) [.ret (.con (.str "z"))] [],
  .ife (.cmp .Eq (.blt .repr [.var 0]) (.con (.str "True"))) [.ret (.con (.str "y"))] [],
  .ife (.cmp .Eq (.blt .repr [.var 0]) (.con (.str "False"))) [.ret (.con (.str "n"))] [],
  .ife (.isi (.var 0) "int") [.ret (.bop .Add (.bop .Add (.con (.str "i")) (.blt .str [.var 0])) (.con (.str ";")))] [],
  .ife (.isi (.var 0) "str") [.ret (.bop .Add (.bop .Add (.bop .Add (.con (.str "t")) (.blt .str [.blt .len [.var 0]])) (.con (.str ":"))) (.var 0))] [],
  .asg (.nm 1) (.mth .join (.con (.str "")) [.lcg true false false [2] false [.var 0] [] (.call 9 [.var 2])]),
  .ife (.isi (.var 0) "tuple") [.ret (.bop .Add (.bop .Add (.con (.str "(")) (.var 1)) (.con (.str ")")))] [],
  .ret (.bop .Add (.bop .Add (.con (.str "[")) (.var 1)) (.con (.str "]")))]
def f9 : Fn := ⟨3, 1, false, b9⟩
/-! _law_number(_law_text, _law_at, _law_end, _law_minus): 0 _law_text, 1 _law_at, 2 _law_end, 3 _law_minus, 4 _law_last, 5 _law_first, 6 _law_size -/
def b10 : List CS := [
  .asg (.nm 4) (.var 1),
  .ife (.and (.var 3) (.cmp .Eq (.sli (.var 0) (some (.var 4)) (some (.bop .Add (.var 4) (.con (.int 1))))) (.con (.str "-")))) [.asg (.nm 4) (.bop .Add (.var 4) (.con (.int 1)))] [],
  .asg (.nm 5) (.var 4),
  .whl (.and (.cmp .Lt (.var 4) (.blt .len [.var 0])) (.and (.cmp .In (.idx (.var 0) (.var 4)) (.con (.str "0123456789"))) (.cmp .Lt (.bop .Sub (.var 4) (.var 5)) (.con (.int 17))))) [.asg (.nm 4) (.bop .Add (.var 4) (.con (.int 1)))],
  .asg (.nm 6) (.bop .Sub (.var 4) (.var 5)),
  .ife (.or (.cmp .Eq (.var 6) (.con (.int 0))) (.or (.cmp .Gt (.var 6) (.con (.int 16))) (.or (.cmp .NotEq (.sli (.var 0) (some (.var 4)) (some (.bop .Add (.var 4) (.con (.int 1))))) (.var 2)) (.and (.cmp .Eq (.idx (.var 0) (.var 5)) (.con (.str "0"))) (.or (.cmp .Gt (.var 6) (.con (.int 1))) (.cmp .Gt (.var 5) (.var 1))))))) [.ret (.con .none)] [],
  .ret (.tup [.blt .int [.sli (.var 0) (some (.var 1)) (some (.var 4))], .bop .Add (.var 4) (.con (.int 1))])]
def f10 : Fn := ⟨7, 4, false, b10⟩
/-! _law_read(_law_text, _law_at): 0 _law_text, 1 _law_at, 2 _law_sign, 3 _law_told_here -/
def b11 : List CS := [
  .asg (.nm 2) (.sli (.var 0) (some (.var 1)) (some (.bop .Add (.var 1) (.con (.int 1))))),
  .ife (.and (.cmp .NotEq (.var 2) (.con (.str ""))) (.cmp .In (.var 2) (.con (.str "zyn")))) [.ret (.tup [.con (.str "data"), .idx (.dsp [.con (.str "z"), .con .none, .con (.str "y"), .con (.bool true), .con (.str "n"), .con (.bool false)]) (.var 2), .bop .Add (.var 1) (.con (.int 1))])] [],
  .ife (.cmp .Eq (.var 2) (.con (.str "i"))) [.asg (.nm 3) (.call 10 [.var 0, .bop .Add (.var 1) (.con (.int 1)), .con (.str ";"), .con (.bool true)]), .ife (.cmp .Is (.var 3) (.con .none)) [.ret (.tup [.con (.str "wrong"), .bop .Add (.var 1) (.con (.int 1))])] [], .ret (.tup [.con (.str "data"), .idx (.var 3) (.con (.int 0)), .idx (.var 3) (.con (.int 1))])] [],
  .ife (.cmp .Eq (.var 2) (.con (.str "t"))) [.asg (.nm 3) (.call 10 [.var 0, .bop .Add (.var 1) (.con (.int 1)), .con (.str ":"), .con (.bool false)]), .ife (.or (.cmp .Is (.var 3) (.con .none)) (.cmp .Gt (.bop .Add (.idx (.var 3) (.con (.int 1))) (.idx (.var 3) (.con (.int 0)))) (.blt .len [.var 0]))) [.ret (.tup [.con (.str "wrong"), .bop .Add (.var 1) (.con (.int 1))])] [], .ret (.tup [.con (.str "data"), .sli (.var 0) (some (.idx (.var 3) (.con (.int 1)))) (some (.bop .Add (.idx (.var 3) (.con (.int 1))) (.idx (.var 3) (.con (.int 0))))), .bop .Add (.idx (.var 3) (.con (.int 1))) (.idx (.var 3) (.con (.int 0)))])] [],
  .ife (.and (.cmp .NotEq (.var 2) (.con (.str ""))) (.cmp .In (.var 2) (.con (.str "([")))) [.ret (.call 12 [.var 0, .bop .Add (.var 1) (.con (.int 1)), .idx (.lst false [.con (.str ")"), .con (.str "]")]) (.blt .int [.cmp .Eq (.var 2) (.con (.str "["))])])] [],
  .ret (.tup [.con (.str "wrong"), .var 1])]
def f11 : Fn := ⟨4, 2, true, b11⟩
/-! _law_items(_law_text, _law_at, _law_end): 0 _law_text, 1 _law_at, 2 _law_end, 3 _law_parts, 4 _law_turn, 5 _law_told_here -/
def b12 : List CS := [
  .asg (.nm 3) (.lst true []),
  .frr (.nm 4) [.bop .Add (.blt .len [.var 0]) (.con (.int 1))] [.ife (.cmp .Eq (.sli (.var 0) (some (.var 1)) (some (.bop .Add (.var 1) (.con (.int 1))))) (.var 2)) [.ife (.cmp .Eq (.var 2) (.con (.str ")"))) [.ret (.tup [.con (.str "data"), .blt .tuple [.var 3], .bop .Add (.var 1) (.con (.int 1))])] [], .ret (.tup [.con (.str "data"), .var 3, .bop .Add (.var 1) (.con (.int 1))])] [], .asg (.nm 5) (.call 11 [.var 0, .var 1]), .ife (.cmp .Eq (.idx (.var 5) (.con (.int 0))) (.con (.str "wrong"))) [.ret (.var 5)] [], .exp (.mth .append (.var 3) [.idx (.var 5) (.con (.int 1))]), .asg (.nm 1) (.idx (.var 5) (.con (.int 2)))],
  .ret (.tup [.con (.str "wrong"), .var 1])]
def f12 : Fn := ⟨6, 3, true, b12⟩
/-! _law_due(_law_text): 0 _law_text, 1 _law_told_here -/
def b13 : List CS := [
  .asg (.nm 1) (.call 11 [.var 0, .con (.int 0)]),
  .ife (.and (.cmp .Eq (.idx (.var 1) (.con (.int 0))) (.con (.str "data"))) (.cmp .Lt (.idx (.var 1) (.con (.int 2))) (.blt .len [.var 0]))) [.ret (.tup [.con (.str "wrong"), .idx (.var 1) (.con (.int 2))])] [],
  .ret (.sli (.var 1) none (some (.con (.int 2))))]
def f13 : Fn := ⟨2, 1, false, b13⟩
/-! _law_told(_law_text): 0 _law_text, 1 e, 2 .at -/
def b14 : List CS := [
  .tri [.ret (.tup [.con (.str "data"), .call 4 [.var 0]])] (.hnd [1] [] (some 1) [("at", 2)] [.ret (.tup [.con (.str "wrong"), .var 2, .con (.bool true)])] .pss) []]
def f14 : Fn := ⟨3, 1, true, b14⟩
/-! law(_law_script): 0 _law_script, 1 _law_state_here, 2 _law_data_here, 3 _law_kept, 4 _law_text, 5 _law_turn, 6 _law_at, 7 _law_piece, 8 _law_other, 9 _law_due_here -/
def b15 : List CS := [
  .asg (.nm 1) (.call 5 [.var 0]),
  .asg (.nm 2) (.call 8 [.var 1, .con (.int 4)]),
  .asg (.nm 3) (.blt .repr [.var 2]),
  .asg (.nm 4) (.call 0 [.var 2]),
  .ife (.or (.cmp .NotEq (.var 4) (.call 9 [.var 2])) (.or (.cmp .NotEq (.blt .repr [.call 4 [.var 4]]) (.var 3)) (.cmp .NotEq (.blt .repr [.var 2]) (.var 3)))) [.ret (.con (.bool false))] [],
  .frr (.nm 5) [.con (.int 6)] [.asg (.nm 6) (.call 6 [.var 1, .bop .Add (.blt .len [.var 4]) (.con (.int 1))]), .asg (.nm 7) (.idx (.lst false [.con (.str ""), .con (.str "z"), .con (.str "i"), .con (.str "1"), .con (.str "-"), .con (.str "0"), .con (.str ";"), .con (.str "t"), .con (.str ":"), .con (.str "("), .con (.str ")"), .con (.str "["), .con (.str "]"), .con (.str "x")]) (.call 6 [.var 1, .con (.int 14)])), .asg (.nm 8) (.bop .Add (.bop .Add (.sli (.var 4) none (some (.var 6))) (.var 7)) (.sli (.var 4) (some (.bop .Add (.var 6) (.call 6 [.var 1, .con (.int 2)]))) none)), .asg (.nm 9) (.call 13 [.var 8]), .ife (.cmp .Eq (.idx (.var 9) (.con (.int 0))) (.con (.str "wrong"))) [.asg (.nm 9) (.bop .Add (.var 9) (.tup [.con (.bool true)]))] [], .ife (.cmp .NotEq (.blt .repr [.call 14 [.var 8]]) (.blt .repr [.var 9])) [.ret (.con (.bool false))] []],
  .ret (.con (.bool true))]
def f15 : Fn := ⟨10, 1, false, b15⟩
def T (i : Nat) : Option Fn := match i with
  | 0 => some f0
  | 1 => some f1
  | 2 => some f2
  | 3 => some f3
  | 4 => some f4
  | 5 => some f5
  | 6 => some f6
  | 7 => some f7
  | 8 => some f8
  | 9 => some f9
  | 10 => some f10
  | 11 => some f11
  | 12 => some f12
  | 13 => some f13
  | 14 => some f14
  | 15 => some f15
  | _ => none
def cx0 : Cxt := { toGb := G, N := ["data", "parts", "part"], sc := defScope (top 6) }
theorem k0 : chkB cx0 b0 (defBody (top 6)) = true := by decide +kernel
theorem s0 : C8.scC cx0.N ["data"] (defScope (top 6)) = true := by decide +kernel
def cx1 : Cxt := { toGb := G, N := ["text", "at", "end", "last", "first"], sc := defScope (top 7) }
theorem k1 : chkB cx1 b1 (defBody (top 7)) = true := by decide +kernel
theorem s1 : C8.scC cx1.N ["text", "at", "end"] (defScope (top 7)) = true := by decide +kernel
def cx2 : Cxt := { toGb := G, N := ["text", "at", "end", "found", "part"], sc := defScope (top 8) }
theorem k2 : chkB cx2 b2 (defBody (top 8)) = true := by decide +kernel
theorem s2 : C8.scC cx2.N ["text", "at", "end"] (defScope (top 8)) = true := by decide +kernel
def cx3 : Cxt := { toGb := G, N := ["text", "at", "sign", "size", "first", "found", "behind"], sc := defScope (top 9) }
theorem k3 : chkB cx3 b3 (defBody (top 9)) = true := by decide +kernel
theorem s3 : C8.scC cx3.N ["text", "at"] (defScope (top 9)) = true := by decide +kernel
def cx4 : Cxt := { toGb := G, N := ["text", "data", "behind"], sc := defScope (top 10) }
theorem k4 : chkB cx4 b4 (defBody (top 10)) = true := by decide +kernel
theorem s4 : C8.scC cx4.N ["text"] (defScope (top 10)) = true := by decide +kernel
def cx5 : Cxt := { toGb := G, N := ["_law_script", "_law_cells", "_law_cell"], sc := defScope (top 12) }
theorem k5 : chkB cx5 b5 (defBody (top 12)) = true := by decide +kernel
theorem s5 : C8.scC cx5.N ["_law_script"] (defScope (top 12)) = true := by decide +kernel
def cx6 : Cxt := { toGb := G, N := ["_law_state_here", "_law_most", "_law_cells", "_law_at", "_law_cell", "_law_mixed"], sc := defScope (top 13) }
theorem k6 : chkB cx6 b6 (defBody (top 13)) = true := by decide +kernel
theorem s6 : C8.scC cx6.N ["_law_state_here", "_law_most"] (defScope (top 13)) = true := by decide +kernel
def cx7 : Cxt := { toGb := G, N := ["_law_state_here", "_law_count", "_law_k"], sc := defScope (top 14) }
theorem k7 : chkB cx7 b7 (defBody (top 14)) = true := by decide +kernel
theorem s7 : C8.scC cx7.N ["_law_state_here", "_law_count"] (defScope (top 14)) = true := by decide +kernel
def cx8 : Cxt := { toGb := G, N := ["_law_state_here", "_law_deep", "_law_kind", "_law_parts", "_law_numbers", "_law_k"], sc := defScope (top 15) }
theorem k8 : chkB cx8 b8 (defBody (top 15)) = true := by decide +kernel
theorem s8 : C8.scC cx8.N ["_law_state_here", "_law_deep"] (defScope (top 15)) = true := by decide +kernel
def cx9 : Cxt := { toGb := G, N := ["_law_data_here", "_law_inner", "_law_part"], sc := defScope (top 16) }
theorem k9 : chkB cx9 b9 (defBody (top 16)) = true := by decide +kernel
theorem s9 : C8.scC cx9.N ["_law_data_here"] (defScope (top 16)) = true := by decide +kernel
def cx10 : Cxt := { toGb := G, N := ["_law_text", "_law_at", "_law_end", "_law_minus", "_law_last", "_law_first", "_law_size"], sc := defScope (top 17) }
theorem k10 : chkB cx10 b10 (defBody (top 17)) = true := by decide +kernel
theorem s10 : C8.scC cx10.N ["_law_text", "_law_at", "_law_end", "_law_minus"] (defScope (top 17)) = true := by decide +kernel
def cx11 : Cxt := { toGb := G, N := ["_law_text", "_law_at", "_law_sign", "_law_told_here"], sc := defScope (top 18) }
theorem k11 : chkB cx11 b11 (defBody (top 18)) = true := by decide +kernel
theorem s11 : C8.scC cx11.N ["_law_text", "_law_at"] (defScope (top 18)) = true := by decide +kernel
def cx12 : Cxt := { toGb := G, N := ["_law_text", "_law_at", "_law_end", "_law_parts", "_law_turn", "_law_told_here"], sc := defScope (top 19) }
theorem k12 : chkB cx12 b12 (defBody (top 19)) = true := by decide +kernel
theorem s12 : C8.scC cx12.N ["_law_text", "_law_at", "_law_end"] (defScope (top 19)) = true := by decide +kernel
def cx13 : Cxt := { toGb := G, N := ["_law_text", "_law_told_here"], sc := defScope (top 20) }
theorem k13 : chkB cx13 b13 (defBody (top 20)) = true := by decide +kernel
theorem s13 : C8.scC cx13.N ["_law_text"] (defScope (top 20)) = true := by decide +kernel
def cx14 : Cxt := { toGb := G, N := ["_law_text", "e"], sc := defScope (top 21) }
theorem k14 : chkB cx14 b14 (defBody (top 21)) = true := by decide +kernel
theorem s14 : C8.scC cx14.N ["_law_text"] (defScope (top 21)) = true := by decide +kernel
def cx15 : Cxt := { toGb := G, N := ["_law_script", "_law_state_here", "_law_data_here", "_law_kept", "_law_text", "_law_turn", "_law_at", "_law_piece", "_law_other", "_law_due_here"], sc := defScope (top 22) }
theorem k15 : chkB cx15 b15 (defBody (top 22)) = true := by decide +kernel
theorem s15 : C8.scC cx15.N ["_law_script"] (defScope (top 22)) = true := by decide +kernel
end K51
set_option Elab.async false
set_option linter.all false
set_option maxRecDepth 100000
set_option maxHeartbeats 2000000
namespace K51
set_option autoImplicit false
open PySem L2 Cr PyProof.Rows
open PySem.PyData (strOk)
open PySem.NumText (AllDigits digitsVal)
def fuel : Nat := 20000
/-! ### digits -/
def dig (c : Nat) : Bool := decide (48 ≤ c) && decide (c ≤ 57)
def run (l : List Nat) (p : Nat) : Nat := ((l.drop p).takeWhile dig).length
theorem tw_get : ∀ (l : List Nat) (j : Nat), j < (l.takeWhile dig).length → ∃ c, l[j]? = some c ∧ dig c = true
  | [], j, h => by simp at h
  | a :: r, j, h => by
    rw [List.takeWhile_cons] at h
    by_cases ha : dig a = true
    · rw [if_pos ha] at h
      cases j with
      | zero => exact ⟨a, rfl, ha⟩
      | succ j => exact tw_get r j (by simpa using h)
    · rw [if_neg ha] at h; simp at h
theorem tw_end : ∀ (l : List Nat) (c : Nat), l[(l.takeWhile dig).length]? = some c → dig c = false
  | [], c, h => by simp at h
  | a :: r, c, h => by
    rw [List.takeWhile_cons] at h
    by_cases ha : dig a = true
    · rw [if_pos ha] at h
      exact tw_end r c (by simpa using h)
    · rw [if_neg ha] at h
      simp at h
      rw [← h]
      simpa using ha
theorem run_get {l : List Nat} {p j : Nat} (h : j < run l p) : ∃ c, l[p + j]? = some c ∧ dig c = true := by
  obtain ⟨c, h1, h2⟩ := tw_get (l.drop p) j h
  exact ⟨c, by rw [List.getElem?_drop] at h1; exact h1, h2⟩
theorem run_end {l : List Nat} {p c : Nat} (h : l[p + run l p]? = some c) : dig c = false := by
  refine tw_end (l.drop p) c ?_
  rw [List.getElem?_drop]
  exact h
theorem run_le {l : List Nat} {p : Nat} (hp : p ≤ l.length) : p + run l p ≤ l.length := by
  unfold run
  have := (List.takeWhile_sublist dig (l := l.drop p)).length_le
  rw [List.length_drop] at this
  omega
theorem run_all {l : List Nat} {p k : Nat} (h : k ≤ run l p) : AllDigits ((l.drop p).take k) := by
  intro c hc
  obtain ⟨j, hj⟩ := List.mem_iff_getElem?.mp hc
  rw [List.getElem?_take] at hj
  split at hj
  · rename_i hjk
    obtain ⟨d, h1, h2⟩ := run_get (l := l) (p := p) (Nat.lt_of_lt_of_le hjk h)
    rw [List.getElem?_drop] at hj
    rw [h1] at hj
    cases hj
    unfold dig at h2
    simpa using h2
  · cases hj
theorem dig_in {c : Nat} : decide (c ∈ (Str.ofString "0123456789").cps.toList) = dig c := by
  have e : (Str.ofString "0123456789").cps.toList = [48, 49, 50, 51, 52, 53, 54, 55, 56, 57] := by decide +kernel
  rw [e, Bool.eq_iff_iff]
  unfold dig
  simp
  omega
theorem in_digits {c : Nat} {S : Sto} : cmpD .In (.str (sc [c])) (.str "0123456789") S = .ok (.bool (dig c)) S := by rw [in_str1, dig_in]
/-! ### the loops over digits -/
section
variable (R : Nat → List D → Sto → Out D) (l : List Nat) (hz : l.length ≤ sizeLine) (ok : okL l) (S : Sto)
include hz ok
theorem loop1 (o1 o2 : Option D) (f : Nat) : ∀ (m j w : Nat), j + m = min (run l f) 16 → m < w →
    whL (evE R (.and (.cmp .NotEq (.sli (.var 0) (some (.var 3)) (some (.bop .Add (.var 3) (.con (.int 1))))) (.con (.str ""))) (.and (.cmp .In (.idx (.var 0) (.var 3)) (.con (.str "0123456789"))) (.cmp .Lt (.bop .Sub (.var 3) (.var 4)) (.con (.int 16)))))) (evB fuel R [.aug 3 .Add (.con (.int 1))]) w
      [some (.str (sc l)), o1, o2, some (.int ((f + j : Nat) : Int)), some (.int (f : Int))] S = .nx [some (.str (sc l)), o1, o2, some (.int ((f + min (run l f) 16 : Nat) : Int)), some (.int (f : Int))] S := by
  intro m
  induction m with
  | zero =>
    intro j w hj hw
    cases w with
    | zero => omega
    | succ w =>
      have hj : j = min (run l f) 16 := by omega
      rw [← hj]
      have e1 := sli_one (l := l) (p := f + j) (S := S) hz
      have e2 := ne_s1e (l := l) (p := f + j) (S := S) ok
      rw [whL]
      cases hc : l[f + j]? with
      | none =>
        rw [hc] at e2
        simp at e1 e2
        simp [e1, e2]
      | some c =>
        rw [hc] at e2
        have e3 := ix_sc (S := S) hz hc
        have e4 := in_digits (c := c) (S := S)
        by_cases h16 : run l f ≤ 16
        · have hj2 : j = run l f := by omega
          rw [hj2] at hc
          have hd := run_end hc
          simp at e1 e2 e3
          simp [e1, e2, e3, e4, hd]
        · have hj2 : j = 16 := by omega
          have hn : ¬ (((f + j : Nat) : Int) - (f : Int) < 16) := by omega
          simp at e1 e2 e3 hn
          simp [e1, e2, e3, e4, hn]
          cases dig c with
          | false => simp
          | true =>
            simp [hn]
            intro hlt
            omega
  | succ m ih =>
    intro j w hj hw
    cases w with
    | zero => omega
    | succ w =>
      obtain ⟨c, hc, hd⟩ := run_get (l := l) (p := f) (j := j) (by omega)
      have e1 := sli_one (l := l) (p := f + j) (S := S) hz
      have e2 := ne_s1e (l := l) (p := f + j) (S := S) ok
      rw [hc] at e2
      have e3 := ix_sc (S := S) hz hc
      have e4 := in_digits (c := c) (S := S)
      have hn : ((f + j : Nat) : Int) - (f : Int) < 16 := by omega
      have := ih (j + 1) w (by omega) (by omega)
      rw [whL]
      simp at e1 e2 e3 hn
      rw [show ((f + (j + 1) : Nat) : Int) = (f : Int) + (j : Int) + 1 by omega] at this
      simp [e1, e2, e3, e4, hd, hn, augD]
      exact this
theorem loop2 (o1 o2 o3 : Option D) (f : Nat) (o6 : Option D) : ∀ (m j w : Nat), j + m = min (run l f) 17 → m < w →
    whL (evE R (.and (.cmp .Lt (.var 4) (.blt .len [.var 0])) (.and (.cmp .In (.idx (.var 0) (.var 4)) (.con (.str "0123456789"))) (.cmp .Lt (.bop .Sub (.var 4) (.var 5)) (.con (.int 17)))))) (evB fuel R [.asg (.nm 4) (.bop .Add (.var 4) (.con (.int 1)))]) w
      [some (.str (sc l)), o1, o2, o3, some (.int ((f + j : Nat) : Int)), some (.int (f : Int)), o6] S = .nx [some (.str (sc l)), o1, o2, o3, some (.int ((f + min (run l f) 17 : Nat) : Int)), some (.int (f : Int)), o6] S := by
  have e0 := len_sc (l := l) (S := S) hz
  intro m
  induction m with
  | zero =>
    intro j w hj hw
    cases w with
    | zero => omega
    | succ w =>
      have hj : j = min (run l f) 17 := by omega
      rw [← hj]
      rw [whL]
      cases hc : l[f + j]? with
      | none =>
        have hn : ¬ (((f + j : Nat) : Int) < (l.length : Int)) := by
          have := List.getElem?_eq_none_iff.mp hc
          omega
        simp at hn
        simp [e0, hn]
        intro hlt
        omega
      | some c =>
        have hn1 : ((f + j : Nat) : Int) < (l.length : Int) := by
          have := (List.getElem?_eq_some_iff.mp hc).1
          omega
        have e3 := ix_sc (S := S) hz hc
        have e4 := in_digits (c := c) (S := S)
        by_cases h16 : run l f ≤ 17
        · have hj2 : j = run l f := by omega
          rw [hj2] at hc
          have hd := run_end hc
          simp at e3 hn1
          simp [e0, hn1, e3, e4, hd]
        · have hn : ¬ (((f + j : Nat) : Int) - (f : Int) < 17) := by omega
          simp at e3 hn hn1
          simp [e0, hn1, e3, e4, hn]
          cases dig c with
          | false => simp
          | true =>
            simp [hn]
            intro hlt
            omega
  | succ m ih =>
    intro j w hj hw
    cases w with
    | zero => omega
    | succ w =>
      obtain ⟨c, hc, hd⟩ := run_get (l := l) (p := f) (j := j) (by omega)
      have hn1 : ((f + j : Nat) : Int) < (l.length : Int) := by
        have := (List.getElem?_eq_some_iff.mp hc).1
        omega
      have e3 := ix_sc (S := S) hz hc
      have e4 := in_digits (c := c) (S := S)
      have hn : ((f + j : Nat) : Int) - (f : Int) < 17 := by omega
      have := ih (j + 1) w (by omega) (by omega)
      rw [whL]
      simp at e3 hn hn1
      rw [show ((f + (j + 1) : Nat) : Int) = (f : Int) + (j : Int) + 1 by omega] at this
      simp [e0, hn1, e3, e4, hd, hn]
      exact this
end
end K51
set_option Elab.async false
set_option linter.all false
set_option maxRecDepth 100000
set_option maxHeartbeats 4000000
namespace K51
set_option autoImplicit false
open PySem L2 Cr PyProof.Rows
open PySem.PyData (strOk)
open PySem.NumText (AllDigits digitsVal)
/-! ### a number -/
def nf (l : List Nat) (a : Nat) (mi : Bool) : Nat := if mi = true ∧ l[a]? = some 45 then a + 1 else a
def nbad (l : List Nat) (a f e : Nat) : Prop := run l f = 0 ∨ 16 < run l f ∨ l[f + run l f]? ≠ some e ∨ (l[f]? = some 48 ∧ (1 < run l f ∨ a < f))
instance (l : List Nat) (a f e : Nat) : Decidable (nbad l a f e) := by unfold nbad; infer_instance
def nval (l : List Nat) (a f : Nat) : Int := if f = a then (digitsVal ((l.drop a).take (run l f)) : Int) else -(digitsVal ((l.drop f).take (run l f)) : Int)
def num (l : List Nat) (a : Nat) (mi : Bool) (e : Nat) : Option (Int × Nat) := if nbad l a (nf l a mi) e then none else some (nval l a (nf l a mi), nf l a mi + run l (nf l a mi) + 1)
theorem nf_or (l : List Nat) (a : Nat) (mi : Bool) : nf l a mi = a ∨ (nf l a mi = a + 1 ∧ l[a]? = some 45 ∧ mi = true) := by
  unfold nf
  split
  · rename_i h; exact .inr ⟨rfl, h.2, h.1⟩
  · exact .inl rfl
section
variable (l : List Nat) (hz : l.length ≤ sizeLine) (ok : okL l) (S : Sto)
theorem slice_same (a k : Nat) : (l.drop a).take (a + k - a) = (l.drop a).take k := by rw [Nat.add_sub_cancel_left]
theorem slice_neg {a k : Nat} (h : l[a]? = some 45) : (l.drop a).take (a + 1 + k - a) = 45 :: (l.drop (a + 1)).take k := by
  obtain ⟨h1, h2⟩ := List.getElem?_eq_some_iff.mp h
  rw [List.drop_eq_getElem_cons h1, h2, show a + 1 + k - a = k + 1 by omega, List.take_succ_cons]
theorem tk_ne {p k : Nat} (hk : 0 < k) (h : k ≤ run l p) : (l.drop p).take k ≠ [] := by
  intro e
  have h1 := congrArg List.length e
  obtain ⟨c, hc, _⟩ := run_get (l := l) (p := p) (j := 0) (by omega)
  have := (List.getElem?_eq_some_iff.mp hc).1
  rw [List.length_take, List.length_drop, List.length_nil] at h1
  omega
/-- the number that is written -/
theorem int_of {a f : Nat} {mi : Bool} (hf : f = nf l a mi) (h0 : 0 < run l f) (h16 : run l f ≤ 16) : bltD .int [.str (sc ((l.drop a).take (f + run l f - a)))] S = .ok (.int (nval l a f)) S := by
  have bi : ∀ x : D, bltD .int [x] S = Cr.intD x S := fun _ => id rfl
  rw [bi]
  have all := run_all (l := l) (p := f) (Nat.le_refl _)
  have ne := tk_ne l h0 (Nat.le_refl _)
  have len : ((l.drop f).take (run l f)).length ≤ 16 := by rw [List.length_take]; omega
  unfold Cr.intD nval
  rcases nf_or l a mi with h | ⟨h, h1, h2⟩
  · rw [h] at hf
    subst hf
    rw [slice_same, if_pos rfl]
    have := intText_digits (x := sc ((l.drop f).take (run l f))) (by rw [sc_cps]; exact all) (by rw [sc_cps]; exact ne) (by rw [sc_len]; omega)
    rw [sc_cps] at this
    dsimp only
    rw [this]
    dsimp only
    rw [if_pos (by rw [sc_len]; omega)]
  · rw [h] at hf
    subst hf
    rw [slice_neg l h1, if_neg (by omega)]
    have := intText_neg (x := sc (45 :: (l.drop (a + 1)).take (run l (a + 1)))) (by rw [sc_cps]) all ne (by rw [sc_len, List.length_cons]; omega)
    dsimp only
    rw [this]
    dsimp only
    rw [if_pos (by rw [sc_len, List.length_cons]; omega)]
include hz ok
/-- _law_number -/
theorem r_numL (k a e : Nat) (mi : Bool) (he : e = 58 ∨ e = 59) (ha : a ≤ l.length) : callN T fuel (k + 1) 10 [.str (sc l), .int (a : Int), .str (sc [e]), .bool mi] S = .ok (match num l a mi e with
    | some p => .tuple [.int p.1, .int (p.2 : Int)]
    | none => .none) S := by
  have hlen : l.length < 2 ^ 60 := Nat.lt_of_le_of_lt hz (by decide)
  obtain ⟨f, hf⟩ : ∃ f, f = nf l a mi := ⟨_, rfl⟩
  have hm : cmpD .Eq (.str (Cr.s1 l a)) (.str "-") S = .ok (.bool (decide (l[a]? = some 45))) S := eq_s1 ok rfl
  have e1 := sli_one (l := l) (p := a) (S := S) hz
  have lp := loop2 (callN T fuel k) l hz ok S (some (.int (a : Int))) (some (.str (sc [e]))) (some (.bool mi)) f none (min (run l f) 17) 0 fuel (by omega) (by unfold fuel; omega)
  have t0 : evB fuel (callN T fuel k) [.asg (.nm 4) (.var 1), .ife (.and (.var 3) (.cmp .Eq (.sli (.var 0) (some (.var 4)) (some (.bop .Add (.var 4) (.con (.int 1))))) (.con (.str "-")))) [.asg (.nm 4) (.bop .Add (.var 4) (.con (.int 1)))] [], .asg (.nm 5) (.var 4)]
      [some (.str (sc l)), some (.int (a : Int)), some (.str (sc [e])), some (.bool mi), none, none, none] S = .nx [some (.str (sc l)), some (.int (a : Int)), some (.str (sc [e])), some (.bool mi), some (.int (f : Int)), some (.int (f : Int)), none] S := by
    rw [hf]
    unfold nf
    cases mi with
    | false => simp
    | true =>
      by_cases h : l[a]? = some 45
      · simp [e1, hm, h]
      · simp [e1, hm, h]
  rw [Nat.add_zero] at lp
  have e2 := sli_one (l := l) (p := f + min (run l f) 17) (S := S) hz
  have e3 := ne_s1s (l := l) (p := f + min (run l f) 17) (c := e) (S := S) ok (by omega)
  have fin_ : ∀ (rest : List CS) (o : Out D), fin false S (evB fuel (callN T fuel k) rest [some (.str (sc l)), some (.int (a : Int)), some (.str (sc [e])), some (.bool mi), some (.int ((f + min (run l f) 17 : Nat) : Int)), some (.int (f : Int)), none] S) = o →
      fin false S (evB fuel (callN T fuel k) ([.asg (.nm 4) (.var 1), .ife (.and (.var 3) (.cmp .Eq (.sli (.var 0) (some (.var 4)) (some (.bop .Add (.var 4) (.con (.int 1))))) (.con (.str "-")))) [.asg (.nm 4) (.bop .Add (.var 4) (.con (.int 1)))] [], .asg (.nm 5) (.var 4)] ++
        .whl (.and (.cmp .Lt (.var 4) (.blt .len [.var 0])) (.and (.cmp .In (.idx (.var 0) (.var 4)) (.con (.str "0123456789"))) (.cmp .Lt (.bop .Sub (.var 4) (.var 5)) (.con (.int 17))))) [.asg (.nm 4) (.bop .Add (.var 4) (.con (.int 1)))] :: rest)
        [some (.str (sc l)), some (.int (a : Int)), some (.str (sc [e])), some (.bool mi), none, none, none] S) = o := by
    intro rest o h
    have app : ∀ (xs ys : List CS) (σ : Fr) (S : Sto), evB fuel (callN T fuel k) (xs ++ ys) σ S = (evB fuel (callN T fuel k) xs σ S).seq (evB fuel (callN T fuel k) ys) := by
      intro xs
      induction xs with
      | nil => intro ys σ S; simp
      | cons x xs ih =>
        intro ys σ S
        rw [List.cons_append, y_cons, y_cons]
        cases evS fuel (callN T fuel k) x σ S <;> simp [ih]
    rw [app, t0, seq_nx, y_cons, y_whl, lp, seq_nx]
    exact h
  rw [call_eq (fn := f10) rfl rfl]
  refine fin_ _ _ ?_
  unfold num
  rw [← hf]
  by_cases h0 : run l f = 0
  · rw [if_pos (.inl h0)]
    simp [h0]
  by_cases h16 : 16 < run l f
  · rw [if_pos (.inr (.inl h16))]
    have hk : ¬ ((min (run l f) 17 : Nat) : Int) = 0 := by omega
    have hm17 : min (run l f) 17 = 17 := by omega
    have x1 : ((f : Int) + 17 - (f : Int)) = 17 := by omega
    rw [hm17]
    simp [x1]
  have hm17 : min (run l f) 17 = run l f := by omega
  rw [hm17] at e2 e3 ⊢
  have x1 : ((f : Int) + (run l f : Int) - (f : Int)) = (run l f : Int) := by omega
  have x2 : ¬ (run l f : Int) = 0 := by omega
  have x3 : ¬ (16 < (run l f : Int)) := by omega
  by_cases he2 : l[f + run l f]? = some e
  · obtain ⟨c0, hc0, hd0⟩ := run_get (l := l) (p := f) (j := 0) (by omega)
    rw [Nat.add_zero] at hc0
    have e4 := ix_sc (S := S) hz hc0
    have e5 : cmpD .Eq (.str (sc [c0])) (.str "0") S = .ok (.bool (decide (c0 = 48))) S := by
      have := eq_sc (a := [c0]) (b := [48]) (S := S) (by intro x hx; rw [List.mem_singleton.mp hx]; unfold dig at hd0; simp at hd0; omega) (by intro x hx; rw [List.mem_singleton.mp hx]; decide)
      rw [show (Str.ofString "0") = sc [48] from lit "0", this]
      simp
    have e6 := sli_at (l := l) (p := a) (q := f + run l f) (S := S) hz
    have e7 := int_of l S (a := a) hf (by omega) (by omega)
    have e8 : (1 < (run l f : Int)) ↔ 1 < run l f := by omega
    have e9 : ((a : Int) < (f : Int)) ↔ a < f := by omega
    simp at e2 e3 e6
    rw [he2] at e3
    by_cases h48 : c0 = 48
    · subst h48
      by_cases hx : 1 < run l f ∨ a < f
      · rw [if_pos (.inr (.inr (.inr ⟨hc0, hx⟩)))]
        by_cases hA : 1 < run l f
        · simp [x1, x2, x3, e2, e3, e4, e5, e8, e9, h0, hA]
        · have hB : a < f := hx.resolve_left hA
          simp [x1, x2, x3, e2, e3, e4, e5, e8, e9, h0, hA, hB]
      · rw [if_neg (by rintro (h | h | h | ⟨_, h⟩); exact h0 h; exact h16 h; exact h he2; exact hx h)]
        have hx1 : ¬ 1 < run l f := fun h => hx (.inl h)
        have hx2 : ¬ a < f := fun h => hx (.inr h)
        simp [x1, x2, x3, e2, e3, e4, e5, e8, e9, h0, hx1, hx2, e6, e7]
    · rw [if_neg (by rintro (h | h | h | ⟨h, _⟩); exact h0 h; exact h16 h; exact h he2; rw [hc0] at h; exact h48 (Option.some.inj h))]
      simp [x1, x2, x3, e2, e3, e4, e5, h0, h48, e6, e7]
  · rw [if_pos (.inr (.inr (.inl he2)))]
    simp at e2 e3
    simp [x1, x2, x3, e2, e3, h0, he2]
end
end K51
set_option Elab.async false
set_option linter.all false
set_option maxRecDepth 100000
set_option maxHeartbeats 4000000
namespace K51
set_option autoImplicit false
open PySem L2 Cr PyProof.Rows
open PySem.PyData (strOk)
open PySem.NumText (AllDigits digitsVal)
section
variable (l : List Nat) (hz : l.length ≤ sizeLine) (ok : okL l) (S : Sto)
/-- a slice that is "-0" -/
theorem slice_m0 {a f : Nat} {mi : Bool} (hf : f = nf l a mi) (h0 : 0 < run l f) : (l.drop a).take (f + run l f - a) = [45, 48] ↔ a < f ∧ run l f = 1 ∧ l[f]? = some 48 := by
  have all := run_all (l := l) (p := f) (Nat.le_refl _)
  obtain ⟨c0, hc0, hd0⟩ := run_get (l := l) (p := f) (j := 0) h0
  rw [Nat.add_zero] at hc0
  obtain ⟨h1, h2⟩ := List.getElem?_eq_some_iff.mp hc0
  rcases nf_or l a mi with h | ⟨h, h3, h4⟩
  · rw [h] at hf
    subst hf
    rw [slice_same]
    refine ⟨fun e => ?_, fun e => absurd e.1 (by omega)⟩
    rw [e] at all
    have := all 45 List.mem_cons_self
    omega
  · rw [h] at hf
    subst hf
    rw [slice_neg l h3]
    have hl : ((l.drop (a + 1)).take (run l (a + 1))).length = run l (a + 1) := by
      rw [List.length_take, List.length_drop]
      have := run_le (l := l) (p := a + 1) (by omega)
      omega
    constructor
    · intro e
      have e := (List.cons.inj e).2
      have e2 := congrArg List.length e
      rw [hl] at e2
      refine ⟨by omega, e2, ?_⟩
      have e3 := congrArg (fun x : List Nat => x[0]?) e
      rw [List.getElem?_take_of_lt h0, List.getElem?_drop] at e3
      exact e3
    · rintro ⟨_, e2, e3⟩
      rw [e2]
      rw [hc0] at e3
      cases e3
      rw [List.drop_eq_getElem_cons h1, h2]
      rfl
include hz ok
theorem r_num (k a e : Nat) (he : e = 58 ∨ e = 59) (ha : a ≤ l.length) : callN T fuel (k + 1) 1 [.str (sc l), .int (a : Int), .str (sc [e])] S = (match num l a (decide (e = 59)) e with
    | some p => .ok (.tuple [.int p.1, .int (p.2 : Int)]) S
    | none => .ex 1 [("at", .int (a : Int))] S) := by
  have hlen : l.length < 2 ^ 60 := Nat.lt_of_le_of_lt hz (by decide)
  obtain ⟨mi, hmi⟩ : ∃ mi, mi = decide (e = 59) := ⟨_, rfl⟩
  obtain ⟨f, hf⟩ : ∃ f, f = nf l a mi := ⟨_, rfl⟩
  have hok1 : ∀ c, c < 0x110000 → okL [c] := fun c h x hx => by rw [List.mem_singleton.mp hx]; exact h
  have hm : cmpD .Eq (.str (Cr.s1 l a)) (.str "-") S = .ok (.bool (decide (l[a]? = some 45))) S := eq_s1 ok rfl
  have hse : cmpD .Eq (.str (sc [e])) (.str ";") S = .ok (.bool mi) S := by
    rw [show (Str.ofString ";") = sc [59] from lit ";", eq_sc (hok1 e (by omega)) (hok1 59 (by decide)), hmi]
    simp
  have e1 := sli_one (l := l) (p := a) (S := S) hz
  have lp := loop1 (callN T fuel k) l hz ok S (some (.int (a : Int))) (some (.str (sc [e]))) f (min (run l f) 16) 0 fuel (by omega) (by unfold fuel; omega)
  have t0 : evB fuel (callN T fuel k) [.asg (.nm 3) (.var 1), .ife (.and (.cmp .Eq (.sli (.var 0) (some (.var 3)) (some (.bop .Add (.var 3) (.con (.int 1))))) (.con (.str "-"))) (.cmp .Eq (.var 2) (.con (.str ";")))) [.aug 3 .Add (.con (.int 1))] [], .asg (.nm 4) (.var 3)]
      [some (.str (sc l)), some (.int (a : Int)), some (.str (sc [e])), none, none] S = .nx [some (.str (sc l)), some (.int (a : Int)), some (.str (sc [e])), some (.int (f : Int)), some (.int (f : Int))] S := by
    rw [hf]
    unfold nf
    cases mi with
    | false =>
      by_cases h : l[a]? = some 45
      · simp [e1, hm, hse, h]
      · simp [e1, hm, hse, h]
    | true =>
      by_cases h : l[a]? = some 45
      · simp [e1, hm, hse, h, augD]
      · simp [e1, hm, hse, h]
  rw [Nat.add_zero] at lp
  have e2 := sli_one (l := l) (p := f + min (run l f) 16) (S := S) hz
  have e3 := ne_s1s (l := l) (p := f + min (run l f) 16) (c := e) (S := S) ok (by omega)
  have fin_ : ∀ (rest : List CS) (o : Out D), fin false S (evB fuel (callN T fuel k) rest [some (.str (sc l)), some (.int (a : Int)), some (.str (sc [e])), some (.int ((f + min (run l f) 16 : Nat) : Int)), some (.int (f : Int))] S) = o →
      fin false S (evB fuel (callN T fuel k) ([.asg (.nm 3) (.var 1), .ife (.and (.cmp .Eq (.sli (.var 0) (some (.var 3)) (some (.bop .Add (.var 3) (.con (.int 1))))) (.con (.str "-"))) (.cmp .Eq (.var 2) (.con (.str ";")))) [.aug 3 .Add (.con (.int 1))] [], .asg (.nm 4) (.var 3)] ++
        .whl (.and (.cmp .NotEq (.sli (.var 0) (some (.var 3)) (some (.bop .Add (.var 3) (.con (.int 1))))) (.con (.str ""))) (.and (.cmp .In (.idx (.var 0) (.var 3)) (.con (.str "0123456789"))) (.cmp .Lt (.bop .Sub (.var 3) (.var 4)) (.con (.int 16))))) [.aug 3 .Add (.con (.int 1))] :: rest)
        [some (.str (sc l)), some (.int (a : Int)), some (.str (sc [e])), none, none] S) = o := by
    intro rest o h
    have app : ∀ (xs ys : List CS) (σ : Fr) (S : Sto), evB fuel (callN T fuel k) (xs ++ ys) σ S = (evB fuel (callN T fuel k) xs σ S).seq (evB fuel (callN T fuel k) ys) := by
      intro xs
      induction xs with
      | nil => intro ys σ S; simp
      | cons x xs ih =>
        intro ys σ S
        rw [List.cons_append, y_cons, y_cons]
        cases evS fuel (callN T fuel k) x σ S <;> simp [ih]
    rw [app, t0, seq_nx, y_cons, y_whl, lp, seq_nx]
    exact h
  rw [call_eq (fn := f1) rfl rfl]
  refine fin_ _ _ ?_
  unfold num
  rw [← hmi, ← hf]
  by_cases h0 : run l f = 0
  · rw [if_pos (.inl h0)]
    simp [h0]
  by_cases h16 : 16 < run l f
  · rw [if_pos (.inr (.inl h16))]
    have hm17 : min (run l f) 16 = 16 := by omega
    obtain ⟨c, hc, hd⟩ := run_get (l := l) (p := f) (j := 16) h16
    have hce : c ≠ e := by
      rintro rfl
      unfold dig at hd
      simp at hd
      omega
    have x1 : ¬ ((f : Int) + 16 = (f : Int)) := by omega
    rw [hm17] at e2 e3 ⊢
    rw [hc] at e3
    simp [hce] at e2 e3
    simp [x1, e2, e3]
  have hm17 : min (run l f) 16 = run l f := by omega
  rw [hm17] at e2 e3 ⊢
  have x1 : ¬ ((f : Int) + (run l f : Int) = (f : Int)) := by omega
  have x2 : (f : Int) + 1 < (f : Int) + (run l f : Int) ↔ 1 < run l f := by omega
  by_cases he2 : l[f + run l f]? = some e
  · obtain ⟨c0, hc0, hd0⟩ := run_get (l := l) (p := f) (j := 0) (by omega)
    rw [Nat.add_zero] at hc0
    have e4 := ix_sc (S := S) hz hc0
    have e5 : cmpD .Eq (.str (sc [c0])) (.str "0") S = .ok (.bool (decide (c0 = 48))) S := by
      have := eq_sc (a := [c0]) (b := [48]) (S := S) (hok1 c0 (by unfold dig at hd0; simp at hd0; omega)) (hok1 48 (by decide))
      rw [show (Str.ofString "0") = sc [48] from lit "0", this]
      simp
    have e6 := sli_at (l := l) (p := a) (q := f + run l f) (S := S) hz
    have e7 := int_of l S (a := a) hf (by omega) (by omega)
    have e8 : cmpD .Eq (.str (sc ((l.drop a).take (f + run l f - a)))) (.str "-0") S = .ok (.bool (decide (a < f ∧ run l f = 1 ∧ l[f]? = some 48))) S := by
      rw [show (Str.ofString "-0") = sc [45, 48] from lit "-0", eq_sc (okL_take (okL_drop ok a) _) (by intro x hx; simp at hx; omega)]
      congr 2
      exact decide_eq_decide.mpr (slice_m0 l hf (by omega))
    simp at e2 e3 e6
    rw [he2] at e3
    rw [hc0] at e8
    by_cases h48 : c0 = 48
    · subst h48
      by_cases hA : 1 < run l f
      · rw [if_pos (.inr (.inr (.inr ⟨hc0, .inl hA⟩)))]
        simp [x1, x2, e2, e3, e4, e5, h0, hA]
      · have hk1 : run l f = 1 := by omega
        by_cases hB : a < f
        · rw [if_pos (.inr (.inr (.inr ⟨hc0, .inr hB⟩)))]
          simp [hk1] at x1 x2 e2 e3 e6 e8
          simp [x1, x2, e2, e3, e4, e5, e6, e8, hk1, hB]
        · rw [if_neg (by rintro (h | h | h | ⟨_, h⟩); exact h0 h; exact h16 h; exact h he2; exact h.elim hA hB)]
          simp [hk1] at x1 x2 e2 e3 e6 e7 e8
          simp [x1, x2, e2, e3, e4, e5, e6, e7, e8, hk1, hB]
    · rw [if_neg (by rintro (h | h | h | ⟨h, _⟩); exact h0 h; exact h16 h; exact h he2; rw [hc0] at h; exact h48 (Option.some.inj h))]
      simp [h48] at e8
      simp [x1, x2, e2, e3, e4, e5, e6, e7, e8, h0, h48]
  · rw [if_pos (.inr (.inr (.inl he2)))]
    simp at e2 e3
    simp [x1, x2, e2, e3, h0, he2]
end
end K51
set_option Elab.async false
set_option linter.all false
set_option maxRecDepth 100000
set_option maxHeartbeats 4000000
namespace K51
set_option autoImplicit false
open PySem L2 Cr PyProof.Rows
open PySem.PyData (strOk)
open PySem.NumText (AllDigits digitsVal)
/-! ### what is read -/
inductive Rs where
  | ok (d : D) (q : Nat)
  | wr (p : Nat)
inductive Ri where
  | ok (ds : List D) (q : Nat)
  | wr (p : Nat)
def its (l : List Nat) (f : Nat → Option Rs) (e : Nat) : Nat → Nat → List D → Option Ri
  | 0, _, _ => none
  | m + 1, p, acc => if l[p]? = some e then some (.ok acc (p + 1)) else match f p with
    | some (.ok d q) => its l f e m q (acc ++ [d])
    | some (.wr r) => some (.wr r)
    | none => none
def rd (l : List Nat) : Nat → Nat → Option Rs
  | 0, _ => none
  | n + 1, p => match l[p]? with
    | some 121 => some (.ok (.bool true) (p + 1))
    | some 110 => some (.ok (.bool false) (p + 1))
    | some 122 => some (.ok .none (p + 1))
    | some 105 => match num l (p + 1) true 59 with
      | some r => some (.ok (.int r.1) r.2)
      | none => some (.wr (p + 1))
    | some 116 => match num l (p + 1) false 58 with
      | some r => if r.2 + r.1.toNat ≤ l.length then some (.ok (.str (sc ((l.drop r.2).take r.1.toNat))) (r.2 + r.1.toNat)) else some (.wr (p + 1))
      | none => some (.wr (p + 1))
    | some 40 => match its l (rd l n) 41 (l.length + 1) (p + 1) [] with
      | some (.ok ds q) => some (.ok (.tuple ds) q)
      | some (.wr r) => some (.wr r)
      | none => none
    | some 91 => match its l (rd l n) 93 (l.length + 1) (p + 1) [] with
      | some (.ok ds q) => some (.ok (.list ds) q)
      | some (.wr r) => some (.wr r)
      | none => none
    | _ => some (.wr p)
theorem num_q {l : List Nat} {a e : Nat} {mi : Bool} {r : Int × Nat} (h : num l a mi e = some r) : a < r.2 ∧ r.2 ≤ l.length ∧ (mi = false → r.1 = (r.1.toNat : Int)) := by
  unfold num at h
  split at h
  · cases h
  · rename_i hb
    cases h
    have he : l[nf l a mi + run l (nf l a mi)]? = some e := by
      cases q : l[nf l a mi + run l (nf l a mi)]? with
      | none => exact absurd (.inr (.inr (.inl (by rw [q]; simp)))) hb
      | some c =>
        by_cases hc : c = e
        · rw [hc]
        · exact absurd (.inr (.inr (.inl (by rw [q]; simpa using hc)))) hb
    have := (List.getElem?_eq_some_iff.mp he).1
    refine ⟨?_, by dsimp only; omega, fun hm => ?_⟩
    · rcases nf_or l a mi with h | ⟨h, _, _⟩ <;> (dsimp only; omega)
    · have : nf l a mi = a := by unfold nf; rw [hm]; simp
      dsimp only
      unfold nval
      rw [if_pos this]
      omega
theorem its_q {l : List Nat} {f : Nat → Option Rs} (hf : ∀ p d q, f p = some (.ok d q) → p < q ∧ q ≤ l.length) {e : Nat} : ∀ {m p : Nat} {acc ds : List D} {q : Nat}, its l f e m p acc = some (.ok ds q) → p < q ∧ q ≤ l.length
  | 0, p, acc, ds, q, h => by cases h
  | m + 1, p, acc, ds, q, h => by
    unfold its at h
    split at h
    · rename_i hc
      cases h
      exact ⟨Nat.lt_succ_self _, (List.getElem?_eq_some_iff.mp hc).1⟩
    · split at h
      · rename_i d q1 hd
        have h1 := hf _ _ _ hd
        have h2 := its_q hf h
        exact ⟨by omega, h2.2⟩
      · cases h
      · cases h
theorem rd_q {l : List Nat} : ∀ {n p : Nat} {d : D} {q : Nat}, rd l n p = some (.ok d q) → p < q ∧ q ≤ l.length
  | 0, p, d, q, h => by cases h
  | n + 1, p, d, q, h => by
    have one : ∀ {c : Nat}, l[p]? = some c → p < p + 1 ∧ p + 1 ≤ l.length := fun hc => ⟨Nat.lt_succ_self _, (List.getElem?_eq_some_iff.mp hc).1⟩
    unfold rd at h
    split at h
    · rename_i hc; cases h; exact one hc
    · rename_i hc; cases h; exact one hc
    · rename_i hc; cases h; exact one hc
    · split at h
      · rename_i r hr
        cases h
        have := num_q hr
        exact ⟨by omega, this.2.1⟩
      · cases h
    · split at h
      · rename_i r hr
        split at h
        · rename_i hz
          cases h
          have := num_q hr
          exact ⟨by omega, hz⟩
        · cases h
      · cases h
    · split at h
      · rename_i ds q1 hi
        cases h
        have := its_q (fun p d q => rd_q (n := n)) hi
        exact ⟨by omega, this.2⟩
      · cases h
      · cases h
    · split at h
      · rename_i ds q1 hi
        cases h
        have := its_q (fun p d q => rd_q (n := n)) hi
        exact ⟨by omega, this.2⟩
      · cases h
      · cases h
    · cases h
theorem its_pl {l : List Nat} {f : Nat → Option Rs} {n : Nat} (hf : ∀ p d q, f p = some (.ok d q) → pl n d = true) {e : Nat} : ∀ {m p : Nat} {acc ds : List D} {q : Nat}, acc.all (pl n) = true → its l f e m p acc = some (.ok ds q) → ds.all (pl n) = true
  | 0, p, acc, ds, q, ha, h => by cases h
  | m + 1, p, acc, ds, q, ha, h => by
    unfold its at h
    split at h
    · cases h; exact ha
    · split at h
      · rename_i d q1 hd
        refine its_pl hf ?_ h
        rw [List.all_append, ha]
        simp [hf _ _ _ hd]
      · cases h
      · cases h
theorem rd_pl {l : List Nat} (ok : okL l) : ∀ {n p : Nat} {d : D} {q : Nat}, rd l n p = some (.ok d q) → pl n d = true
  | 0, p, d, q, h => by cases h
  | n + 1, p, d, q, h => by
    unfold rd at h
    split at h
    · cases h; simp
    · cases h; simp
    · cases h; simp
    · split at h
      · cases h; simp
      · cases h
    · split at h
      · split at h
        · cases h
          rw [pl_str]
          exact ok_sc (okL_take (okL_drop ok _) _)
        · cases h
      · cases h
    · split at h
      · rename_i ds q1 hi
        cases h
        rw [pl_tup]
        exact its_pl (fun p d q => rd_pl ok (n := n)) rfl hi
      · cases h
      · cases h
    · split at h
      · rename_i ds q1 hi
        cases h
        rw [pl_lst]
        exact its_pl (fun p d q => rd_pl ok (n := n)) rfl hi
      · cases h
      · cases h
    · cases h
/-! ### enough fuel -/
def opn (l : List Nat) (i : Nat) : Bool := (decide (l[i]? = some 40) || decide (l[i]? = some 91)) && !decide (l[i + 1]? = some 120)
def br (l : List Nat) (p : Nat) : Nat := ((List.range l.length).filter fun i => decide (p ≤ i) && opn l i).length
theorem br_mono {l : List Nat} {p q : Nat} (h : p ≤ q) : br l q ≤ br l p := by
  unfold br
  rw [← List.countP_eq_length_filter, ← List.countP_eq_length_filter]
  refine List.countP_mono_left fun i _ hi => ?_
  simp only [Bool.and_eq_true, decide_eq_true_eq] at hi ⊢
  exact ⟨by omega, hi.2⟩
theorem br_step {l : List Nat} {p : Nat} (h : opn l p = true) : br l (p + 1) + 1 ≤ br l p := by
  have hp : p < l.length := by
    unfold opn at h
    simp only [Bool.and_eq_true, Bool.or_eq_true, decide_eq_true_eq] at h
    rcases h.1 with h | h <;> exact (List.getElem?_eq_some_iff.mp h).1
  unfold br
  rw [← List.countP_eq_length_filter, ← List.countP_eq_length_filter]
  have e : List.range l.length = List.range p ++ p :: (List.range (l.length - (p + 1))).map (p + 1 + ·) := by
    have e1 : l.length = p + (1 + (l.length - (p + 1))) := by omega
    rw [e1, List.range_add, List.range_add]
    have e2 : p + (1 + (l.length - (p + 1))) - (p + 1) = l.length - (p + 1) := by omega
    rw [e2]
    simp [List.range_one, Function.comp_def, Nat.add_assoc]
  rw [e, List.countP_append, List.countP_append, List.countP_cons, List.countP_cons]
  have a1 : List.countP (fun i => decide (p + 1 ≤ i) && opn l i) (List.range p) = 0 := by
    rw [List.countP_eq_zero]
    intro i hi
    have := List.mem_range.mp hi
    simp only [Bool.and_eq_true, decide_eq_true_eq]
    omega
  have a2 : List.countP (fun i => decide (p + 1 ≤ i) && opn l i) ((List.range (l.length - (p + 1))).map (p + 1 + ·)) ≤ List.countP (fun i => decide (p ≤ i) && opn l i) ((List.range (l.length - (p + 1))).map (p + 1 + ·)) :=
    List.countP_mono_left fun i _ hi => by
      simp only [Bool.and_eq_true, decide_eq_true_eq] at hi ⊢
      exact ⟨by omega, hi.2⟩
  rw [a1]
  have a3 : (decide (p + 1 ≤ p) && opn l p) = false := by rw [decide_eq_false (by omega : ¬ p + 1 ≤ p)]; rfl
  have a4 : (decide (p ≤ p) && opn l p) = true := by simp [h]
  simp only [a3, a4]
  rw [if_neg Bool.false_ne_true, if_pos trivial]
  omega
theorem its_some {l : List Nat} {f : Nat → Option Rs} {e P : Nat} (hf : ∀ p, P ≤ p → ∃ r, f p = some r) (hq : ∀ p d q, f p = some (.ok d q) → p < q ∧ q ≤ l.length) : ∀ (m p : Nat) (acc : List D), P ≤ p → p ≤ l.length → l.length + 1 ≤ m + p → ∃ r, its l f e m p acc = some r
  | 0, p, acc, h1, h2, h3 => by omega
  | m + 1, p, acc, h1, h2, h3 => by
    unfold its
    split
    · exact ⟨_, rfl⟩
    · obtain ⟨r, hr⟩ := hf p h1
      rw [hr]
      cases r with
      | ok d q =>
        have := hq _ _ _ hr
        exact its_some hf hq m q _ (by omega) this.2 (by omega)
      | wr r => exact ⟨_, rfl⟩
theorem rd_some {l : List Nat} : ∀ (n p : Nat), p ≤ l.length → br l p + 2 ≤ n → ∃ r, rd l n p = some r
  | 0, p, hp, h => by omega
  | n + 1, p, hp, h => by
    have key : ∀ e : Nat, e ≠ 120 → (l[p]? = some 40 ∨ l[p]? = some 91) → ∃ r, its l (rd l n) e (l.length + 1) (p + 1) [] = some r := by
      intro e he hc
      have hp1 : p + 1 ≤ l.length := by rcases hc with hc | hc <;> exact (List.getElem?_eq_some_iff.mp hc).1
      by_cases hx : l[p + 1]? = some 120
      · unfold its
        rw [if_neg (by rw [hx]; simpa using Ne.symm he)]
        cases n with
        | zero => omega
        | succ n =>
          unfold rd
          rw [hx]
          exact ⟨_, rfl⟩
      · have ho : opn l p = true := by
          unfold opn
          rcases hc with hc | hc <;> simp [hc, hx]
        have hb := br_step ho
        by_cases hpl : p + 1 ≤ l.length
        · refine its_some (P := p + 1) (fun p' hp' => ?_) (fun p d q => rd_q) _ _ _ (Nat.le_refl _) hpl (by omega)
          by_cases hl : p' ≤ l.length
          · refine rd_some n p' hl ?_
            have := br_mono (l := l) hp'
            omega
          · cases n with
            | zero => omega
            | succ n =>
              unfold rd
              rw [List.getElem?_eq_none (by omega)]
              exact ⟨_, rfl⟩
        · omega
    unfold rd
    split
    · exact ⟨_, rfl⟩
    · exact ⟨_, rfl⟩
    · exact ⟨_, rfl⟩
    · split <;> exact ⟨_, rfl⟩
    · split
      · split <;> exact ⟨_, rfl⟩
      · exact ⟨_, rfl⟩
    · rename_i hc
      obtain ⟨r, hr⟩ := key 41 (by decide) (.inl hc)
      rw [hr]
      cases r <;> exact ⟨_, rfl⟩
    · rename_i hc
      obtain ⟨r, hr⟩ := key 93 (by decide) (.inr hc)
      rw [hr]
      cases r <;> exact ⟨_, rfl⟩
    · exact ⟨_, rfl⟩
end K51
set_option Elab.async false
set_option linter.all false
set_option maxRecDepth 100000
set_option maxHeartbeats 4000000
namespace K51
set_option autoImplicit false
open PySem L2 Cr PyProof.Rows
open PySem.PyData (strOk)
/-! ### objects let go -/
theorem cut_frz {S T : Sto} {d d' : D} (hT : T ≠ []) (h : frz (phi S.length (S ++ T) 6) d = some d') : cutF true S d (S ++ T) = .ok d' S := by
  unfold cutF
  rw [if_neg (by
    rintro (h | h)
    · cases h
    · rw [List.length_append] at h
      exact hT (List.length_eq_zero_iff.mp (by omega))), h]
  dsimp only
  rw [List.take_left, if_pos (.inl rfl)]
theorem phi_at {S : Sto} {ds : List D} (h : PyData.canLayAll0 ds = true) : phi S.length (S ++ [Ob.lst ds]) 6 (S.length : Int) = some (.list ds) := by
  rw [phi]
  rw [if_neg (by simp), Int.toNat_natCast, List.getElem?_append_right (Nat.le_refl _), Nat.sub_self]
  dsimp only [List.getElem?_cons_zero]
  rw [frzA_lay ds h]
  rfl
theorem frz_at {S : Sto} {ds : List D} (h : PyData.canLayAll0 ds = true) : frz (phi S.length (S ++ [Ob.lst ds]) 6) (loc S.length) = some (.list ds) := phi_at h
theorem lay_of {n : Nat} {ds : List D} (h : ds.all (pl n) = true) : PyData.canLayAll0 ds = true := by
  rw [lay_all, List.all_eq_true]
  intro x hx
  exact pl_lay (List.all_eq_true.mp h x hx)
theorem lst_end {S : Sto} {xs : List D} : (S ++ [Ob.lst xs])[S.length]? = some (.lst xs) := by
  rw [List.getElem?_append_right (Nat.le_refl _), Nat.sub_self]; rfl
theorem set_end {S : Sto} {xs ys : List D} : (S ++ [Ob.lst xs]).set S.length (.lst ys) = S ++ [Ob.lst ys] := by
  rw [List.set_append_right _ _ (Nat.le_refl _), Nat.sub_self]; rfl
/-! ### the program's reader -/
def Rd (l : List Nat) (S : Sto) (r : Rs) (o : Out D) : Prop := match r with
  | .ok d q => o = .ok (.tuple [d, .int (q : Int)]) S
  | .wr r => ∃ T', o = .ex 1 [("at", .int (r : Int))] (S ++ T')
section
variable (l : List Nat) (hz : l.length ≤ 100000) (ok : okL l)
theorem hzl {l : List Nat} (hz : l.length ≤ 100000) : l.length ≤ sizeLine := Nat.le_trans hz (by decide)
include hz ok
theorem loopP (lev n e : Nat) (he : e < 0x110000) (hr : ∀ (p : Nat) (r : Rs) (S : Sto), p ≤ l.length → rd l n p = some r → Rd l S r (callN T fuel lev 3 [.str (sc l), .int (p : Int)] S)) (S : Sto) :
    ∀ (m p w : Nat) (acc : List D) (ri : Ri) (o : Option D), p ≤ l.length → acc.length + m ≤ 200000 → its l (rd l n) e m p acc = some ri → m < w →
      match ri with
      | .ok ds q => ∃ p' o', q = p' + 1 ∧ whL (evE (callN T fuel lev) (.cmp .NotEq (.sli (.var 0) (some (.var 1)) (some (.bop .Add (.var 1) (.con (.int 1))))) (.var 2))) (evB fuel (callN T fuel lev) [.asg (.tup [.nm 4, .nm 1]) (.call 3 [.var 0, .var 1]), .exp (.mth .append (.var 3) [.var 4])]) w
          [some (.str (sc l)), some (.int (p : Int)), some (.str (sc [e])), some (loc S.length), o] (S ++ [Ob.lst acc]) = .nx [some (.str (sc l)), some (.int (p' : Int)), some (.str (sc [e])), some (loc S.length), o'] (S ++ [Ob.lst ds])
      | .wr r => ∃ σ' T', whL (evE (callN T fuel lev) (.cmp .NotEq (.sli (.var 0) (some (.var 1)) (some (.bop .Add (.var 1) (.con (.int 1))))) (.var 2))) (evB fuel (callN T fuel lev) [.asg (.tup [.nm 4, .nm 1]) (.call 3 [.var 0, .var 1]), .exp (.mth .append (.var 3) [.var 4])]) w
          [some (.str (sc l)), some (.int (p : Int)), some (.str (sc [e])), some (loc S.length), o] (S ++ [Ob.lst acc]) = .ex 1 [("at", .int (r : Int))] σ' (S ++ T') := by
  intro m
  induction m with
  | zero => intro p w acc ri o hp ha h hw; cases h
  | succ m ih =>
    intro p w acc ri o hp ha h hw
    cases w with
    | zero => omega
    | succ w =>
      have e1 := sli_one (l := l) (p := p) (S := S ++ [Ob.lst acc]) (hzl hz)
      have e2 := ne_s1s (l := l) (p := p) (c := e) (S := S ++ [Ob.lst acc]) ok he
      unfold its at h
      split at h
      · rename_i hc
        cases h
        refine ⟨p, o, rfl, ?_⟩
        rw [whL]
        simp [e1, e2, hc]
      · rename_i hc
        split at h
        · rename_i d q hd
          have hr1 : callN T fuel lev 3 [.str (sc l), .int (p : Int)] (S ++ [Ob.lst acc]) = .ok (.tuple [d, .int (q : Int)]) (S ++ [Ob.lst acc]) := hr p _ (S ++ [Ob.lst acc]) hp hd
          have hq := rd_q hd
          have rc := recv_loc (S := S ++ [Ob.lst acc]) (m := .append) (.inl rfl) (lst_end (S := S) (xs := acc))
          have ap := app_loc (S := S ++ [Ob.lst acc]) (s := S.length) (y := d) (lst_end (S := S) (xs := acc)) (Nat.lt_of_le_of_lt (by omega : acc.length ≤ 200000) (by decide))
          rw [set_end] at ap
          have := ih q w (acc ++ [d]) ri (some d) hq.2 (by rw [List.length_append]; simp; omega) h (by omega)
          have tg : evG (callN T fuel lev) (.tup [.nm 4, .nm 1]) (.tuple [d, .int (q : Int)]) [some (.str (sc l)), some (.int (p : Int)), some (.str (sc [e])), some (loc S.length), o] (S ++ [Ob.lst acc]) = .nx [some (.str (sc l)), some (.int (q : Int)), some (.str (sc [e])), some (loc S.length), some d] (S ++ [Ob.lst acc]) := by rw [evG] <;> rfl
          have step : whL (evE (callN T fuel lev) (.cmp .NotEq (.sli (.var 0) (some (.var 1)) (some (.bop .Add (.var 1) (.con (.int 1))))) (.var 2))) (evB fuel (callN T fuel lev) [.asg (.tup [.nm 4, .nm 1]) (.call 3 [.var 0, .var 1]), .exp (.mth .append (.var 3) [.var 4])]) (w + 1)
              [some (.str (sc l)), some (.int (p : Int)), some (.str (sc [e])), some (loc S.length), o] (S ++ [Ob.lst acc]) = whL (evE (callN T fuel lev) (.cmp .NotEq (.sli (.var 0) (some (.var 1)) (some (.bop .Add (.var 1) (.con (.int 1))))) (.var 2))) (evB fuel (callN T fuel lev) [.asg (.tup [.nm 4, .nm 1]) (.call 3 [.var 0, .var 1]), .exp (.mth .append (.var 3) [.var 4])]) w
              [some (.str (sc l)), some (.int (q : Int)), some (.str (sc [e])), some (loc S.length), some d] (S ++ [Ob.lst (acc ++ [d])]) := by
            rw [whL]
            simp only [x_cmp, x_sli, x_var, x_bop, x_con, x_osome, List.getElem?_cons_zero, List.getElem?_cons_succ, bind_ok, add_i, prt_i, e1, e2, hc, st_ok, onS_b]
            simp only [decide_false, Bool.not_false, if_true, y_cons, y_asgT, x_call, x_cons, x_nil, x_var, List.getElem?_cons_zero, List.getElem?_cons_succ, bind_ok, hr1, st_ok, tg, seq_nx, y_exp, x_mth, rc, ap, y_nil, again_nx]
          rw [step]
          exact this
        · rename_i r hd
          cases h
          obtain ⟨T', hr1⟩ : ∃ T', callN T fuel lev 3 [.str (sc l), .int (p : Int)] (S ++ [Ob.lst acc]) = .ex 1 [("at", .int (r : Int))] ((S ++ [Ob.lst acc]) ++ T') := hr p _ (S ++ [Ob.lst acc]) hp hd
          refine ⟨[some (.str (sc l)), some (.int (p : Int)), some (.str (sc [e])), some (loc S.length), o], [Ob.lst acc] ++ T', ?_⟩
          rw [whL]
          simp only [x_cmp, x_sli, x_var, x_bop, x_con, x_osome, List.getElem?_cons_zero, List.getElem?_cons_succ, bind_ok, add_i, prt_i, e1, e2, hc, st_ok, onS_b]
          simp only [decide_false, Bool.not_false, if_true, y_cons, y_asgT, x_call, x_cons, x_nil, x_var, List.getElem?_cons_zero, List.getElem?_cons_succ, bind_ok, hr1, st_ex, seq_ex, again_ex, List.append_assoc]
        · cases h
theorem r_parts (lev n e : Nat) (he : e < 0x110000) (hr : ∀ (p : Nat) (r : Rs) (S : Sto), p ≤ l.length → rd l n p = some r → Rd l S r (callN T fuel lev 3 [.str (sc l), .int (p : Int)] S)) (S : Sto) (p : Nat) (ri : Ri) (hp : p ≤ l.length) (hf : l.length + 1 < fuel) (h : its l (rd l n) e (l.length + 1) p [] = some ri) :
    match ri with
    | .ok ds q => callN T fuel (lev + 1) 2 [.str (sc l), .int (p : Int), .str (sc [e])] S = .ok (.tuple [.list ds, .int (q : Int)]) S
    | .wr r => ∃ T', callN T fuel (lev + 1) 2 [.str (sc l), .int (p : Int), .str (sc [e])] S = .ex 1 [("at", .int (r : Int))] (S ++ T') := by
  have L := loopP l hz ok lev n e he hr S (l.length + 1) p fuel [] ri none hp (by simp; omega) h hf
  have mk := mk_n (xs := []) (S := S) (by decide)
  rw [call_eq (fn := f2) rfl rfl]
  cases ri with
  | ok ds q =>
    obtain ⟨p', o', rfl, L⟩ := L
    have lay : PyData.canLayAll0 ds = true := lay_of (n := n) (its_pl (fun p d q => rd_pl ok (n := n)) rfl h)
    have fz : frz (phi S.length (S ++ [Ob.lst ds]) 6) (.tuple [loc S.length, .int ((p' : Int) + 1)]) = some (.tuple [.list ds, .int ((p' : Int) + 1)]) := by
      rw [frz, frzA, frz_at lay]
      rfl
    have ct := cut_frz (S := S) (T := [Ob.lst ds]) (by simp) fz
    simp [f2, b2, start0, mk]
    rw [L]
    simp [ct]
  | wr r =>
    obtain ⟨σ', T', L⟩ := L
    refine ⟨T', ?_⟩
    simp [f2, b2, start0, mk]
    rw [L]
    simp
end
end K51
set_option Elab.async false
set_option linter.all false
set_option maxRecDepth 100000
set_option maxHeartbeats 4000000
namespace K51
set_option autoImplicit false
open PySem L2 Cr PyProof.Rows
open PySem.PyData (strOk)
theorem rd_other {l : List Nat} {n p : Nat} (h1 : l[p]? ≠ some 121) (h2 : l[p]? ≠ some 110) (h3 : l[p]? ≠ some 122) (h4 : l[p]? ≠ some 105) (h5 : l[p]? ≠ some 116) (h6 : l[p]? ≠ some 40) (h7 : l[p]? ≠ some 91) : rd l (n + 1) p = some (.wr p) := by
  unfold rd
  split <;> first
    | rfl
    | contradiction
section
variable (l : List Nat) (hz : l.length ≤ 100000) (ok : okL l) (hf : l.length + 1 < fuel)
include hz ok hf
theorem P_read : ∀ (n p : Nat) (r : Rs) (S : Sto) (e0 : Nat), p ≤ l.length → rd l n p = some r → Rd l S r (callN T fuel (2 * n + e0) 3 [.str (sc l), .int (p : Int)] S)
  | 0, p, r, S, e0, hp, h => by cases h
  | n + 1, p, r, S, e0, hp, h => by
    have ih : ∀ (p : Nat) (r : Rs) (S : Sto), p ≤ l.length → rd l n p = some r → Rd l S r (callN T fuel (2 * n + e0) 3 [.str (sc l), .int (p : Int)] S) := fun p r S hp h => P_read n p r S e0 hp h
    have e1 := sli_one (l := l) (p := p) (S := S) (hzl hz)
    have qy : cmpD .Eq (.str (Cr.s1 l p)) (.str "y") S = .ok (.bool (decide (l[p]? = some 121))) S := eq_s1 ok rfl
    have qz : cmpD .Eq (.str (Cr.s1 l p)) (.str "z") S = .ok (.bool (decide (l[p]? = some 122))) S := eq_s1 ok rfl
    have qi : cmpD .Eq (.str (Cr.s1 l p)) (.str "i") S = .ok (.bool (decide (l[p]? = some 105))) S := eq_s1 ok rfl
    have qt : cmpD .Eq (.str (Cr.s1 l p)) (.str "t") S = .ok (.bool (decide (l[p]? = some 116))) S := eq_s1 ok rfl
    have qo : cmpD .Eq (.str (Cr.s1 l p)) (.str "(") S = .ok (.bool (decide (l[p]? = some 40))) S := eq_s1 ok rfl
    have qb : cmpD .Eq (.str (Cr.s1 l p)) (.str "[") S = .ok (.bool (decide (l[p]? = some 91))) S := eq_s1 ok rfl
    have qin : cmpD .In (.str (Cr.s1 l p)) (.tuple [.str "y", .str "n"]) S = .ok (.bool (decide (l[p]? = some 121) || decide (l[p]? = some 110))) S := by
      rw [in_tup (pl_plain (n := 1) (by simp)) (by rw [plain_str]; exact ok_s1 ok)]
      congr 2
      unfold inD
      rw [Bool.eq_iff_iff]
      simp only [List.any_cons, List.any_nil, eqv_s, Bool.or_false, Bool.or_eq_true, decide_eq_true_eq]
      rw [show (Str.ofString "y") = sc [121] from lit "y", show (Str.ofString "n") = sc [110] from lit "n", eq_comm, s1_iff, eq_comm (a := sc [110]), s1_iff]
    have l1 : (Str.ofString ";") = sc [59] := lit ";"
    have l2 : (Str.ofString ":") = sc [58] := lit ":"
    have l3 : (Str.ofString ")") = sc [41] := lit ")"
    have l4 : (Str.ofString "]") = sc [93] := lit "]"
    have el := len_sc (l := l) (S := S) (hzl hz)
    rw [show 2 * (n + 1) + e0 = (2 * n + e0 + 1) + 1 by omega, call_eq (fn := f3) rfl rfl]
    by_cases c1 : l[p]? = some 121
    · unfold rd at h
      rw [c1] at h
      cases h
      simp [f3, b3, start0, e1, qin, qy, c1, Rd]
    by_cases c2 : l[p]? = some 110
    · unfold rd at h
      rw [c2] at h
      cases h
      simp [f3, b3, start0, e1, qin, qy, c2, Rd]
    by_cases c3 : l[p]? = some 122
    · unfold rd at h
      rw [c3] at h
      cases h
      simp [f3, b3, start0, e1, qin, qz, c3, Rd]
    by_cases c4 : l[p]? = some 105
    · unfold rd at h
      rw [c4] at h
      have hp1 : p + 1 ≤ l.length := (List.getElem?_eq_some_iff.mp c4).1
      have rn := r_num l (hzl hz) ok S (2 * n + e0) (p + 1) 59 (.inr rfl) hp1
      rw [show decide (59 = 59) = true from rfl, Int.natCast_add] at rn
      try dsimp only at h
      cases hn : num l (p + 1) true 59 with
      | none =>
        rw [hn] at h rn
        cases h
        refine ⟨[], ?_⟩
        rw [List.append_nil]
        simp at rn
        simp [f3, b3, start0, e1, qin, qz, qi, c4, l1, rn]
      | some q =>
        rw [hn] at h rn
        cases h
        simp at rn
        simp [f3, b3, start0, e1, qin, qz, qi, c4, l1, rn, Rd]
    by_cases c5 : l[p]? = some 116
    · unfold rd at h
      rw [c5] at h
      have hp1 : p + 1 ≤ l.length := (List.getElem?_eq_some_iff.mp c5).1
      have rn := r_num l (hzl hz) ok S (2 * n + e0) (p + 1) 58 (.inl rfl) hp1
      rw [show decide (58 = 59) = false from rfl, Int.natCast_add] at rn
      try dsimp only at h
      cases hn : num l (p + 1) false 58 with
      | none =>
        rw [hn] at h rn
        cases h
        refine ⟨[], ?_⟩
        rw [List.append_nil]
        simp at rn
        simp [f3, b3, start0, e1, qin, qz, qi, qt, c5, l2, rn]
      | some q =>
        rw [hn] at h rn
        dsimp only at h
        obtain ⟨v, q⟩ := q
        have hv : v = (v.toNat : Int) := (num_q hn).2.2 rfl
        obtain ⟨u, hu⟩ : ∃ u : Nat, u = v.toNat := ⟨_, rfl⟩
        rw [← hu] at hv h
        subst hv
        have tg : evG (callN T fuel (2 * n + e0 + 1)) (.tup [.nm 3, .nm 4]) (.tuple [.int (u : Int), .int (q : Int)]) [some (.str (sc l)), some (.int (p : Int)), some (.str (Cr.s1 l p)), none, none, none, none] S = .nx [some (.str (sc l)), some (.int (p : Int)), some (.str (Cr.s1 l p)), some (.int (u : Int)), some (.int (q : Int)), none, none] S := by rw [evG] <;> rfl
        have e6 := sli_at (l := l) (p := q) (q := q + u) (S := S) (hzl hz)
        rw [Nat.add_sub_cancel_left] at e6
        by_cases hb : q + u ≤ l.length
        · rw [if_pos hb] at h
          cases h
          have hb' : ¬ ((l.length : Int) < (q : Int) + (u : Int)) := by omega
          simp at rn e6
          simp [f3, b3, start0, e1, qin, qz, qi, qt, c5, l2, rn, tg, el, hb', e6, Rd]
        · rw [if_neg hb] at h
          cases h
          have hb' : (l.length : Int) < (q : Int) + (u : Int) := by omega
          refine ⟨[], ?_⟩
          rw [List.append_nil]
          simp at rn
          simp [f3, b3, start0, e1, qin, qz, qi, qt, c5, l2, rn, tg, el, hb']
    by_cases c6 : l[p]? = some 40
    · unfold rd at h
      rw [c6] at h
      have hp1 : p + 1 ≤ l.length := (List.getElem?_eq_some_iff.mp c6).1
      try dsimp only at h
      cases hi : its l (rd l n) 41 (l.length + 1) (p + 1) [] with
      | none => rw [hi] at h; cases h
      | some ri =>
        have rp := r_parts l hz ok (2 * n + e0) n 41 (by decide) ih S (p + 1) ri hp1 hf hi
        rw [hi] at h
        cases ri with
        | ok ds q =>
          cases h
          have tg : evG (callN T fuel (2 * n + e0 + 1)) (.tup [.nm 5, .nm 6]) (.tuple [.list ds, .int (q : Int)]) [some (.str (sc l)), some (.int (p : Int)), some (.str (Cr.s1 l p)), none, none, none, none] S = .nx [some (.str (sc l)), some (.int (p : Int)), some (.str (Cr.s1 l p)), none, none, some (.list ds), some (.int (q : Int))] S := by rw [evG] <;> rfl
          have rp : callN T fuel (2 * n + e0 + 1) 2 [.str (sc l), .int ((p + 1 : Nat) : Int), .str (sc [41])] S = .ok (.tuple [.list ds, .int (q : Int)]) S := rp
          simp at rp
          simp [f3, b3, start0, e1, qin, qz, qi, qt, qo, c6, l3, rp, tg, Rd]
        | wr r =>
          cases h
          obtain ⟨T', rp⟩ := rp
          refine ⟨T', ?_⟩
          simp at rp
          simp [f3, b3, start0, e1, qin, qz, qi, qt, qo, c6, l3, rp]
    by_cases c7 : l[p]? = some 91
    · unfold rd at h
      rw [c7] at h
      have hp1 : p + 1 ≤ l.length := (List.getElem?_eq_some_iff.mp c7).1
      try dsimp only at h
      cases hi : its l (rd l n) 93 (l.length + 1) (p + 1) [] with
      | none => rw [hi] at h; cases h
      | some ri =>
        have rp := r_parts l hz ok (2 * n + e0) n 93 (by decide) ih S (p + 1) ri hp1 hf hi
        rw [hi] at h
        cases ri with
        | ok ds q =>
          cases h
          have rp : callN T fuel (2 * n + e0 + 1) 2 [.str (sc l), .int ((p + 1 : Nat) : Int), .str (sc [93])] S = .ok (.tuple [.list ds, .int (q : Int)]) S := rp
          simp at rp
          simp [f3, b3, start0, e1, qin, qz, qi, qt, qo, qb, c7, l4, rp, Rd]
        | wr r =>
          cases h
          obtain ⟨T', rp⟩ := rp
          refine ⟨T', ?_⟩
          simp at rp
          simp [f3, b3, start0, e1, qin, qz, qi, qt, qo, qb, c7, l4, rp]
    rw [rd_other c1 c2 c3 c4 c5 c6 c7] at h
    cases h
    refine ⟨[], ?_⟩
    rw [List.append_nil]
    simp [f3, b3, start0, e1, qin, qz, qi, qt, qo, qb, c1, c2, c3, c4, c5, c6, c7]
end
end K51
set_option Elab.async false
set_option linter.all false
set_option maxRecDepth 100000
set_option maxHeartbeats 4000000
namespace K51
set_option autoImplicit false
open PySem L2 Cr PyProof.Rows
open PySem.PyData (strOk)
/-! ### the law's reader -/
def told (r : Rs) : D := match r with
  | .ok d q => .tuple [.str "data", d, .int (q : Int)]
  | .wr r => .tuple [.str "wrong", .int (r : Int)]
def bodyI : List CS := [.ife (.cmp .Eq (.sli (.var 0) (some (.var 1)) (some (.bop .Add (.var 1) (.con (.int 1))))) (.var 2)) [.ife (.cmp .Eq (.var 2) (.con (.str ")"))) [.ret (.tup [.con (.str "data"), .blt .tuple [.var 3], .bop .Add (.var 1) (.con (.int 1))])] [], .ret (.tup [.con (.str "data"), .var 3, .bop .Add (.var 1) (.con (.int 1))])] [], .asg (.nm 5) (.call 11 [.var 0, .var 1]), .ife (.cmp .Eq (.idx (.var 5) (.con (.int 0))) (.con (.str "wrong"))) [.ret (.var 5)] [], .exp (.mth .append (.var 3) [.idx (.var 5) (.con (.int 1))]), .asg (.nm 1) (.idx (.var 5) (.con (.int 2)))]
theorem b12_eq : b12 = [.asg (.nm 3) (.lst true []), .frr (.nm 4) [.bop .Add (.blt .len [.var 0]) (.con (.int 1))] bodyI, .ret (.tup [.con (.str "wrong"), .var 1])] := rfl
def kz : List (Key × D) := [(.inr "z", .none), (.inr "y", .bool true), (.inr "n", .bool false)]
theorem dsp_zyn {S : Sto} : mkD [.str "z", .none, .str "y", .bool true, .str "n", .bool false] S = .ok (loc S.length) (S ++ [.dic kz]) := by
  unfold mkD
  rw [show pairsOf [.str "z", .none, .str "y", .bool true, .str "n", .bool false] = some [(.inr "z", .none), (.inr "y", .bool true), (.inr "n", .bool false)] from rfl]
  dsimp only
  rw [if_pos (by decide)]
  have e : mergeD [] [((.inr "z" : Key), PyData.none), (.inr "y", .bool true), (.inr "n", .bool false)] = kz := by
    simp [mergeD, Cr.putK, kz]
  rw [e]
  rfl
theorem dic_end {S : Sto} {k : List (Key × D)} : (S ++ [Ob.dic k])[S.length]? = some (.dic k) := by
  rw [List.getElem?_append_right (Nat.le_refl _), Nat.sub_self]; rfl
section
variable (l : List Nat) (hz : l.length ≤ 100000) (ok : okL l)
include hz ok
theorem loopL (lev n e : Nat) (he : e = 41 ∨ e = 93) (hr : ∀ (p : Nat) (r : Rs) (S : Sto), p ≤ l.length → rd l n p = some r → callN T fuel lev 11 [.str (sc l), .int (p : Int)] S = .ok (told r) S) (S : Sto) (all : List D) :
    ∀ (xs : List D) (p : Nat) (acc : List D) (ri : Ri) (o4 o5 : Option D), p ≤ l.length → acc.length + xs.length ≤ 200000 → its l (rd l n) e xs.length p acc = some ri →
      match ri with
      | .ok ds q => frL .none all (fun x σ1 S2 => (evG (callN T fuel lev) (.nm 4) x σ1 S2).seq (evB fuel (callN T fuel lev) bodyI)) xs [some (.str (sc l)), some (.int (p : Int)), some (.str (sc [e])), some (loc S.length), o4, o5] (S ++ [Ob.lst acc]) = .rt (.tuple [.str "data", if e = 41 then .tuple ds else loc S.length, .int (q : Int)]) (S ++ [Ob.lst ds])
      | .wr r => ∃ ds, frL .none all (fun x σ1 S2 => (evG (callN T fuel lev) (.nm 4) x σ1 S2).seq (evB fuel (callN T fuel lev) bodyI)) xs [some (.str (sc l)), some (.int (p : Int)), some (.str (sc [e])), some (loc S.length), o4, o5] (S ++ [Ob.lst acc]) = .rt (.tuple [.str "wrong", .int (r : Int)]) (S ++ [Ob.lst ds]) := by
  intro xs
  induction xs with
  | nil => intro p acc ri o4 o5 hp ha h; cases h
  | cons x xs ih =>
    intro p acc ri o4 o5 hp ha h
    rw [List.length_cons] at h ha
    have e1 := sli_one (l := l) (p := p) (S := S ++ [Ob.lst acc]) (hzl hz)
    have e2 := eq_s1s (l := l) (p := p) (c := e) (S := S ++ [Ob.lst acc]) ok (by rcases he with rfl | rfl <;> decide)
    have l3 : (Str.ofString ")") = sc [41] := lit ")"
    have e3 : cmpD .Eq (.str (sc [e])) (.str (sc [41])) (S ++ [Ob.lst acc]) = .ok (.bool (decide (e = 41))) (S ++ [Ob.lst acc]) := by
      rw [eq_sc (by intro y hy; rw [List.mem_singleton.mp hy]; rcases he with rfl | rfl <;> decide) (by intro y hy; rw [List.mem_singleton.mp hy]; decide)]
      simp
    have tp : bltD .tuple [loc S.length] (S ++ [Ob.lst acc]) = .ok (.tuple acc) (S ++ [Ob.lst acc]) := by
      show tupleD (loc S.length) _ = _
      unfold tupleD
      rw [lv_loc, lst_end]
    rw [frL_cons (fun _ => stays_non)]
    unfold its at h
    split at h
    · rename_i hc
      cases h
      dsimp only
      rcases he with rfl | rfl
      · simp [bodyI, e1, e2, hc, l3, e3, tp]
      · simp [bodyI, e1, e2, hc, l3, e3, tp]
    · rename_i hc
      split at h
      · rename_i d q hd
        have hr1 := hr p _ (S ++ [Ob.lst acc]) hp hd
        unfold told at hr1
        dsimp only at hr1
        have hq := rd_q hd
        have rc := recv_loc (S := S ++ [Ob.lst acc]) (m := .append) (.inl rfl) (lst_end (S := S) (xs := acc))
        have ap := app_loc (S := S ++ [Ob.lst acc]) (s := S.length) (y := d) (lst_end (S := S) (xs := acc)) (Nat.lt_of_le_of_lt (by omega : acc.length ≤ 200000) (by decide))
        rw [set_end] at ap
        have step : (evG (callN T fuel lev) (.nm 4) x [some (.str (sc l)), some (.int (p : Int)), some (.str (sc [e])), some (loc S.length), o4, o5] (S ++ [Ob.lst acc])).seq (evB fuel (callN T fuel lev) bodyI) = .nx [some (.str (sc l)), some (.int (q : Int)), some (.str (sc [e])), some (loc S.length), some x, some (.tuple [.str "data", d, .int (q : Int)])] (S ++ [Ob.lst (acc ++ [d])]) := by
          simp [bodyI, e1, e2, hc, hr1, rc, ap]
        rw [step, again_nx]
        exact ih q (acc ++ [d]) ri _ _ hq.2 (by rw [List.length_append]; simp; omega) h
      · rename_i r hd
        cases h
        have hr1 := hr p _ (S ++ [Ob.lst acc]) hp hd
        unfold told at hr1
        dsimp only at hr1
        refine ⟨acc, ?_⟩
        simp [bodyI, e1, e2, hc, hr1]
      · cases h
theorem r_items (lev n e : Nat) (he : e = 41 ∨ e = 93) (hr : ∀ (p : Nat) (r : Rs) (S : Sto), p ≤ l.length → rd l n p = some r → callN T fuel lev 11 [.str (sc l), .int (p : Int)] S = .ok (told r) S) (S : Sto) (p : Nat) (ri : Ri) (hp : p ≤ l.length) (h : its l (rd l n) e (l.length + 1) p [] = some ri) :
    callN T fuel (lev + 1) 12 [.str (sc l), .int (p : Int), .str (sc [e])] S = .ok (match ri with
      | .ok ds q => .tuple [.str "data", if e = 41 then .tuple ds else .list ds, .int (q : Int)]
      | .wr r => .tuple [.str "wrong", .int (r : Int)]) S := by
  have lr : (rngL 0 (l.length + 1)).length = l.length + 1 := by simp [rngL]
  have L := loopL l hz ok lev n e he hr S (rngL 0 (l.length + 1)) (rngL 0 (l.length + 1)) p [] ri none none hp (by rw [lr]; simp; omega) (by rw [lr]; exact h)
  have mk := mk_n (xs := []) (S := S) (by decide)
  have el := len_sc (l := l) (S := S ++ [Ob.lst []]) (hzl hz)
  have hr0 : rangeD [.int ((l.length : Int) + 1)] (S ++ [Ob.lst []]) = .ok (.none, rngL 0 (l.length + 1)) (S ++ [Ob.lst []]) := by
    show (if small62 ((l.length : Int) + 1) then Out.ok (PyData.none, rngL 0 ((l.length : Int) + 1).toNat) (S ++ [Ob.lst []]) else Out.bad) = _
    rw [if_pos (show small62 ((l.length : Int) + 1) by unfold small62; omega)]
    rfl
  have t0 : evS fuel (callN T fuel lev) (.asg (.nm 3) (.lst true [])) (start0 6 [.str (sc l), .int (p : Int), .str (sc [e])]) S = .nx [some (.str (sc l)), some (.int (p : Int)), some (.str (sc [e])), some (loc S.length), none, none] (S ++ [Ob.lst []]) := by
    simp [start0, mk]
  have t1 : ((evEs (callN T fuel lev) [.bop .Add (.blt .len [.var 0]) (.con (.int 1))] [some (.str (sc l)), some (.int (p : Int)), some (.str (sc [e])), some (loc S.length), none, none] (S ++ [Ob.lst []])).bind fun x S1 => rangeD x S1) = .ok (.none, rngL 0 (l.length + 1)) (S ++ [Ob.lst []]) := by
    simp [el, hr0]
  rw [call_eq (fn := f12) rfl rfl]
  show fin true S (evB fuel (callN T fuel lev) b12 (start0 6 [.str (sc l), .int (p : Int), .str (sc [e])]) S) = _
  rw [b12_eq, y_cons, t0, seq_nx, y_cons, y_frr, t1, st_ok]
  cases ri with
  | ok ds q =>
    have lay : PyData.canLayAll0 ds = true := lay_of (n := n) (its_pl (fun p d q => rd_pl ok (n := n)) rfl h)
    dsimp only at L ⊢
    rw [L]
    by_cases h41 : e = 41
    · rw [if_pos h41, if_pos h41, seq_rt, fin_rt]
      refine cut_app (.inl rfl) ?_
      rw [PyData.canLay0, PyData.canLayAll0, PyData.canLayAll0, PyData.canLayAll0, PyData.canLayAll0, PyData.canLay0, PyData.canLay0, PyData.canLay0, lay, ok_ofs]
      rfl
    · rw [if_neg h41, if_neg h41, seq_rt, fin_rt]
      refine cut_frz (by simp) ?_
      rw [frz, frzA, frzA, frz_at lay]
      rfl
  | wr r =>
    obtain ⟨ds, L⟩ := L
    dsimp only
    rw [L, seq_rt, fin_rt]
    refine cut_app (.inl rfl) ?_
    rw [PyData.canLay0, PyData.canLayAll0, PyData.canLayAll0, PyData.canLayAll0, PyData.canLay0, PyData.canLay0, ok_ofs]
    rfl
end
end K51
set_option Elab.async false
set_option linter.all false
set_option maxRecDepth 100000
set_option maxHeartbeats 4000000
namespace K51
set_option autoImplicit false
open PySem L2 Cr PyProof.Rows
open PySem.PyData (strOk)
section
variable (l : List Nat) (hz : l.length ≤ 100000) (ok : okL l)
include hz ok
theorem L_read : ∀ (n p : Nat) (r : Rs) (S : Sto) (e0 : Nat), p ≤ l.length → rd l n p = some r → callN T fuel (2 * n + e0) 11 [.str (sc l), .int (p : Int)] S = .ok (told r) S
  | 0, p, r, S, e0, hp, h => by cases h
  | n + 1, p, r, S, e0, hp, h => by
    have ih : ∀ (p : Nat) (r : Rs) (S : Sto), p ≤ l.length → rd l n p = some r → callN T fuel (2 * n + e0) 11 [.str (sc l), .int (p : Int)] S = .ok (told r) S := fun p r S hp h => L_read n p r S e0 hp h
    have e1 := sli_one (l := l) (p := p) (S := S) (hzl hz)
    have qi : cmpD .Eq (.str (Cr.s1 l p)) (.str "i") S = .ok (.bool (decide (l[p]? = some 105))) S := eq_s1 ok rfl
    have qt : cmpD .Eq (.str (Cr.s1 l p)) (.str "t") S = .ok (.bool (decide (l[p]? = some 116))) S := eq_s1 ok rfl
    have qb : cmpD .Eq (.str (Cr.s1 l p)) (.str "[") S = .ok (.bool (decide (l[p]? = some 91))) S := eq_s1 ok rfl
    have qn : cmpD .NotEq (.str (Cr.s1 l p)) (.str "") S = .ok (.bool (!decide (l[p]? = none))) S := ne_s1e ok
    have z1 : (Str.ofString "zyn").cps.toList = [122, 121, 110] := by rw [lit, sc_cps]; rfl
    have z2 : (Str.ofString "([").cps.toList = [40, 91] := by rw [lit, sc_cps]; rfl
    have qz : ∀ c, l[p]? = some c → cmpD .In (.str (Cr.s1 l p)) (.str "zyn") S = .ok (.bool (decide (c ∈ [122, 121, 110]))) S := fun c hc => by rw [s1_some hc, in_str1, z1]
    have qo : ∀ c, l[p]? = some c → cmpD .In (.str (Cr.s1 l p)) (.str "([") S = .ok (.bool (decide (c ∈ [40, 91]))) S := fun c hc => by rw [s1_some hc, in_str1, z2]
    have l1 : (Str.ofString ";") = sc [59] := lit ";"
    have l2 : (Str.ofString ":") = sc [58] := lit ":"
    have l3 : (Str.ofString ")") = sc [41] := lit ")"
    have l4 : (Str.ofString "]") = sc [93] := lit "]"
    have el := len_sc (l := l) (S := S) (hzl hz)
    have ct : ∀ v : D, v.canLay0 = true → ∀ q : Int, cutF true S (.tuple [.str "data", v, .int q]) (S ++ [Ob.dic kz]) = .ok (.tuple [.str "data", v, .int q]) S := fun v hv q => by
      refine cut_app (.inl rfl) ?_
      rw [PyData.canLay0, PyData.canLayAll0, PyData.canLayAll0, PyData.canLayAll0, PyData.canLayAll0, PyData.canLay0, PyData.canLay0, hv, ok_ofs]
      rfl
    have ixk : ∀ (s : String) (v : D), (keyOf (.str (Str.ofString s))).bind (getK kz) = some v → ∀ c, s.toList.map Char.toNat = [c] → l[p]? = some c → idxD (loc S.length) (.str (Cr.s1 l p)) (S ++ [Ob.dic kz]) = .ok v (S ++ [Ob.dic kz]) := fun s v hv c hs hc => by
      refine ix_dic dic_end ?_
      rw [s1_some hc, ← hs, ← lit]
      exact hv
    rw [show 2 * (n + 1) + e0 = (2 * n + e0 + 1) + 1 by omega, call_eq (fn := f11) rfl rfl]
    by_cases c1 : l[p]? = some 121
    · unfold rd at h
      rw [c1] at h
      cases h
      have x := ixk "y" (.bool true) (by simp [getK, kz]) 121 rfl c1
      have y := qz _ c1
      simp at y
      simp [f11, b11, start0, e1, qn, c1, y, dsp_zyn, x, told]
      exact ct (.bool true) (by rw [PyData.canLay0]) _
    by_cases c2 : l[p]? = some 110
    · unfold rd at h
      rw [c2] at h
      cases h
      have x := ixk "n" (.bool false) (by simp [getK, kz]) 110 rfl c2
      have y := qz _ c2
      simp at y
      simp [f11, b11, start0, e1, qn, c2, y, dsp_zyn, x, told]
      exact ct (.bool false) (by rw [PyData.canLay0]) _
    by_cases c3 : l[p]? = some 122
    · unfold rd at h
      rw [c3] at h
      cases h
      have x := ixk "z" .none (by simp [getK, kz]) 122 rfl c3
      have y := qz _ c3
      simp at y
      simp [f11, b11, start0, e1, qn, c3, y, dsp_zyn, x, told]
      exact ct .none (by rw [PyData.canLay0]) _
    by_cases c4 : l[p]? = some 105
    · unfold rd at h
      rw [c4] at h
      have hp1 : p + 1 ≤ l.length := (List.getElem?_eq_some_iff.mp c4).1
      have rn := r_numL l (hzl hz) ok S (2 * n + e0) (p + 1) 59 true (.inr rfl) hp1
      have y := qz _ c4
      simp at y
      try dsimp only at h
      cases hn : num l (p + 1) true 59 with
      | none =>
        rw [hn] at h rn
        cases h
        simp at rn
        simp [f11, b11, start0, e1, qn, qi, c4, y, l1, rn, told]
      | some q =>
        rw [hn] at h rn
        cases h
        simp at rn
        simp [f11, b11, start0, e1, qn, qi, c4, y, l1, rn, told]
    by_cases c5 : l[p]? = some 116
    · unfold rd at h
      rw [c5] at h
      have hp1 : p + 1 ≤ l.length := (List.getElem?_eq_some_iff.mp c5).1
      have rn := r_numL l (hzl hz) ok S (2 * n + e0) (p + 1) 58 false (.inl rfl) hp1
      have y := qz _ c5
      simp at y
      try dsimp only at h
      cases hn : num l (p + 1) false 58 with
      | none =>
        rw [hn] at h rn
        cases h
        simp at rn
        simp [f11, b11, start0, e1, qn, qi, qt, c5, y, l2, rn, told]
      | some q =>
        rw [hn] at h rn
        dsimp only at h
        obtain ⟨v, q⟩ := q
        have hv : v = (v.toNat : Int) := (num_q hn).2.2 rfl
        obtain ⟨u, hu⟩ : ∃ u : Nat, u = v.toNat := ⟨_, rfl⟩
        rw [← hu] at hv h
        subst hv
        have e6 := sli_at (l := l) (p := q) (q := q + u) (S := S) (hzl hz)
        rw [Nat.add_sub_cancel_left] at e6
        by_cases hb : q + u ≤ l.length
        · rw [if_pos hb] at h
          cases h
          have hb' : ¬ ((l.length : Int) < (q : Int) + (u : Int)) := by omega
          simp at rn e6
          simp [f11, b11, start0, e1, qn, qi, qt, c5, y, l2, rn, el, hb', e6, told]
        · rw [if_neg hb] at h
          cases h
          have hb' : (l.length : Int) < (q : Int) + (u : Int) := by omega
          simp at rn
          simp [f11, b11, start0, e1, qn, qi, qt, c5, y, l2, rn, el, hb', told]
    have mk := mk_l (xs := [.str (Str.ofString ")"), .str (Str.ofString "]")]) (S := S) (by decide)
    by_cases c6 : l[p]? = some 40
    · unfold rd at h
      rw [c6] at h
      have hp1 : p + 1 ≤ l.length := (List.getElem?_eq_some_iff.mp c6).1
      have y := qz _ c6
      have y2 := qo _ c6
      simp at y y2
      try dsimp only at h
      cases hi : its l (rd l n) 41 (l.length + 1) (p + 1) [] with
      | none => rw [hi] at h; cases h
      | some ri =>
        have rp := r_items l hz ok (2 * n + e0) n 41 (.inl rfl) ih S (p + 1) ri hp1 hi
        rw [hi] at h
        rw [l3, l4] at mk
        cases ri with
        | ok ds q =>
          cases h
          simp at rp
          simp [f11, b11, start0, e1, qn, qi, qt, qb, c6, y, y2, l3, l4, mk, rp, told]
        | wr r =>
          cases h
          simp at rp
          simp [f11, b11, start0, e1, qn, qi, qt, qb, c6, y, y2, l3, l4, mk, rp, told]
    by_cases c7 : l[p]? = some 91
    · unfold rd at h
      rw [c7] at h
      have hp1 : p + 1 ≤ l.length := (List.getElem?_eq_some_iff.mp c7).1
      have y := qz _ c7
      have y2 := qo _ c7
      simp at y y2
      try dsimp only at h
      cases hi : its l (rd l n) 93 (l.length + 1) (p + 1) [] with
      | none => rw [hi] at h; cases h
      | some ri =>
        have rp := r_items l hz ok (2 * n + e0) n 93 (.inr rfl) ih S (p + 1) ri hp1 hi
        rw [hi] at h
        rw [l3, l4] at mk
        cases ri with
        | ok ds q =>
          cases h
          simp at rp
          simp [f11, b11, start0, e1, qn, qi, qt, qb, c7, y, y2, l3, l4, mk, rp, told]
        | wr r =>
          cases h
          simp at rp
          simp [f11, b11, start0, e1, qn, qi, qt, qb, c7, y, y2, l3, l4, mk, rp, told]
    rw [rd_other c1 c2 c3 c4 c5 c6 c7] at h
    cases h
    cases hc : l[p]? with
    | none =>
      simp [f11, b11, start0, e1, qn, qi, qt, hc, told]
    | some c =>
      have y := qz _ hc
      have y2 := qo _ hc
      rw [hc] at c1 c2 c3 c4 c5 c6 c7
      have d1 : c ≠ 121 := fun z => c1 (by rw [z])
      have d2 : c ≠ 110 := fun z => c2 (by rw [z])
      have d3 : c ≠ 122 := fun z => c3 (by rw [z])
      have d4 : c ≠ 105 := fun z => c4 (by rw [z])
      have d5 : c ≠ 116 := fun z => c5 (by rw [z])
      have d6 : c ≠ 40 := fun z => c6 (by rw [z])
      have d7 : c ≠ 91 := fun z => c7 (by rw [z])
      simp [d1, d2, d3, d4, d5, d6, d7] at y y2
      simp [f11, b11, start0, e1, qn, qi, qt, hc, d4, d5, y, y2, told]
end
end K51
set_option Elab.async false
set_option linter.all false
set_option maxRecDepth 100000
set_option maxHeartbeats 4000000
namespace K51
set_option autoImplicit false
open PySem L2 Cr PyProof.Rows
open PySem.PyData (strOk)
open PySem.NumText (AllDigits digitsVal)
/-! ### how long a form is shown -/
theorem fold_lt : ∀ (cs : List Nat) (a : Nat), AllDigits cs → cs.foldl (fun acc c => acc * 10 + (c - 48)) a < (a + 1) * 10 ^ cs.length
  | [], a, _ => by simp
  | c :: r, a, h => by
    rw [List.foldl_cons, List.length_cons]
    have h1 := fold_lt r (a * 10 + (c - 48)) h.tail
    have h2 := h.head
    have h3 : a * 10 + (c - 48) + 1 ≤ (a + 1) * 10 := by omega
    calc _ < (a * 10 + (c - 48) + 1) * 10 ^ r.length := h1
      _ ≤ ((a + 1) * 10) * 10 ^ r.length := Nat.mul_le_mul_right _ h3
      _ = (a + 1) * 10 ^ (r.length + 1) := by rw [Nat.pow_succ, Nat.mul_assoc, Nat.mul_comm 10]
theorem digits_lt {cs : List Nat} (h : AllDigits cs) (hl : cs.length ≤ 16) : digitsVal cs < 10 ^ 16 := by
  have := fold_lt cs 0 h
  unfold digitsVal
  have h2 : 10 ^ cs.length ≤ 10 ^ 16 := Nat.pow_le_pow_right (by decide) hl
  omega
theorem num_v {l : List Nat} {a e : Nat} {mi : Bool} {r : Int × Nat} (h : num l a mi e = some r) : r.1.natAbs < 10 ^ 16 ∧ a + 2 ≤ r.2 := by
  unfold num at h
  split at h
  · cases h
  · rename_i hb
    cases h
    have k0 : run l (nf l a mi) ≠ 0 := fun z => hb (.inl z)
    have k16 : ¬ 16 < run l (nf l a mi) := fun z => hb (.inr (.inl z))
    refine ⟨?_, ?_⟩
    · dsimp only
      unfold nval
      generalize nf l a mi = f at k0 k16 ⊢
      have all := run_all (l := l) (p := f) (Nat.le_refl _)
      have len : ∀ m : List Nat, (m.take (run l f)).length ≤ 16 := fun m => by rw [List.length_take]; omega
      have := digits_lt all (len _)
      split
      · rename_i hz
        subst hz
        omega
      · omega
    · rcases nf_or l a mi with h | ⟨h, _, _⟩ <;> (dsimp only; omega)
theorem int_len {x : Int} (h : x.natAbs < 10 ^ 20) : (PyData.shown (.int x)).length ≤ 21 := by
  have e : PyData.shown (.int x) = Str.ofString (toString x) := by rw [PyData.shown]
  rw [e, ofs_len]
  have key : ∀ m : Nat, m < 10 ^ 20 → m.repr.length ≤ 20 := fun m hm => by
    rw [Nat.repr, String.length_ofList]
    exact (Nat.length_toDigits_le_iff (by decide) (by decide)).mpr hm
  show x.repr.length ≤ 21
  cases x with
  | ofNat m =>
    have := key m (by simpa using h)
    show m.repr.length ≤ 21
    omega
  | negSucc m =>
    have := key (m + 1) (by simpa using h)
    show ("-" ++ (m + 1).repr).length ≤ 21
    rw [String.length_append]
    have : "-".length = 1 := by decide
    omega
theorem int_sh {x : Int} (h : x.natAbs < 10 ^ 20) : PyData.showable (.int x) = true := by
  rw [PyData.showable]
  have : x.natAbs.log2 ≤ 70 := log_lt (by omega)
  simp
  omega
theorem list_len (ts : List Str) : (listText ts).length ≤ piled ts + 2 := by
  unfold listText
  rw [str_len_app]
  have h1 : (Str.ofString "]").length = 1 := by rw [ofs_len]; rfl
  have h2 : (Str.ofString "[").length = 1 := by rw [ofs_len]; rfl
  rw [h1]
  cases ts with
  | nil =>
    show (Str.ofString "[").length + 1 ≤ _
    omega
  | cons t r =>
    show (textFrom 1 (Str.ofString "[" ++ (if 0 > 0 then ", " else "" : String) ++ t) r).length + 1 ≤ _
    rw [textFrom_length_pos r 1 _ (by decide), piled_cons, str_len_app, str_len_app, h2]
    have h3 : (Str.ofString (if 0 > 0 then ", " else "")).length = 0 := by rw [ofs_len]; rfl
    rw [h3]
    omega
theorem tup_len (ts : List Str) : (tupleText ts).length ≤ piled ts + 3 := by
  unfold tupleText
  rw [str_len_app, str_len_app]
  have h2 : (Str.ofString "(").length = 1 := by rw [ofs_len]; rfl
  have h3 : (Str.ofString (if (ts.length == 1) = true then ",)" else ")")).length ≤ 2 := by
    rw [ofs_len]
    split <;> decide
  rw [h2]
  cases ts with
  | nil =>
    have : (Str.join ", " []).length = 0 := rfl
    omega
  | cons t r =>
    have := join_length_add (t :: r) (by simp)
    omega
theorem shown_app : ∀ (xs ys : List D), PyData.shownAll (xs ++ ys) = PyData.shownAll xs ++ PyData.shownAll ys
  | [], ys => by rw [PyData.shownAll]; rfl
  | x :: xs, ys => by rw [List.cons_append, PyData.shownAll, PyData.shownAll, shown_app xs ys]; rfl
theorem showable_all {xs : List D} : PyData.showableAll xs = xs.all PyData.showable := by
  induction xs with
  | nil => rw [PyData.showableAll]; rfl
  | cons x xs ih => rw [PyData.showableAll, ih]; rfl
theorem its_sh {l : List Nat} {f : Nat → Option Rs} (hf : ∀ p d q, f p = some (.ok d q) → d.showable = true ∧ d.shown.length + 2 ≤ 14 * (q - p) ∧ p < q) {e : Nat} : ∀ {m p : Nat} {acc ds : List D} {q : Nat}, acc.all PyData.showable = true → its l f e m p acc = some (.ok ds q) →
    ds.all PyData.showable = true ∧ p < q ∧ piled (PyData.shownAll ds) ≤ piled (PyData.shownAll acc) + 14 * (q - 1 - p)
  | 0, p, acc, ds, q, ha, h => by cases h
  | m + 1, p, acc, ds, q, ha, h => by
    unfold its at h
    split at h
    · cases h; exact ⟨ha, Nat.lt_succ_self _, by omega⟩
    · split at h
      · rename_i d q1 hd
        obtain ⟨h1, h2, h3⟩ := hf _ _ _ hd
        obtain ⟨i1, i2, i3⟩ := its_sh hf (by rw [List.all_append, ha]; simp [h1]) h
        refine ⟨i1, by omega, ?_⟩
        rw [shown_app, piled_append, PyData.shownAll, PyData.shownAll, piled_cons, piled_nil] at i3
        omega
      · cases h
      · cases h
theorem rd_sh {l : List Nat} (ok : okL l) : ∀ {n p : Nat} {d : D} {q : Nat}, rd l n p = some (.ok d q) → d.showable = true ∧ d.shown.length + 2 ≤ 14 * (q - p)
  | 0, p, d, q, h => by cases h
  | n + 1, p, d, q, h => by
    unfold rd at h
    split at h
    · cases h
      refine ⟨by rw [PyData.showable], ?_⟩
      rw [PyData.shown]
      show (Str.ofString "True").length + 2 ≤ _
      rw [ofs_len]
      have : "True".length = 4 := rfl
      omega
    · cases h
      refine ⟨by rw [PyData.showable], ?_⟩
      rw [PyData.shown]
      show (Str.ofString "False").length + 2 ≤ _
      rw [ofs_len]
      have : "False".length = 5 := rfl
      omega
    · cases h
      refine ⟨by rw [PyData.showable], ?_⟩
      rw [PyData.shown]
      show (Str.ofString "None").length + 2 ≤ _
      rw [ofs_len]
      have : "None".length = 4 := rfl
      omega
    · split at h
      · rename_i r hr
        cases h
        have := num_v hr
        exact ⟨int_sh (by omega), by have := int_len (x := r.1) (by omega); omega⟩
      · cases h
    · split at h
      · rename_i r hr
        split at h
        · rename_i hz
          cases h
          have := num_v hr
          refine ⟨by rw [PyData.showable], ?_⟩
          rw [PyData.shown]
          have h1 := StrLaws.reprText_len (sc ((l.drop r.2).take r.1.toNat)) (by
            rw [sc_cps]
            intro c hc
            have := ok c (List.mem_of_mem_drop (List.mem_of_mem_take hc))
            exact Nat.lt_of_lt_of_le this (by decide))
          rw [sc_len, List.length_take] at h1
          omega
        · cases h
      · cases h
    · split at h
      · rename_i ds q1 hi
        cases h
        obtain ⟨i1, i2, i3⟩ := its_sh (fun p d q hd => ⟨(rd_sh ok (n := n) hd).1, (rd_sh ok (n := n) hd).2, (rd_q hd).1⟩) rfl hi
        rw [PyData.shownAll, piled_nil] at i3
        refine ⟨by rw [PyData.showable, showable_all]; exact i1, ?_⟩
        rw [PyData.shown]
        have := tup_len (PyData.shownAll ds)
        omega
      · cases h
      · cases h
    · split at h
      · rename_i ds q1 hi
        cases h
        obtain ⟨i1, i2, i3⟩ := its_sh (fun p d q hd => ⟨(rd_sh ok (n := n) hd).1, (rd_sh ok (n := n) hd).2, (rd_q hd).1⟩) rfl hi
        rw [PyData.shownAll, piled_nil] at i3
        refine ⟨by rw [PyData.showable, showable_all]; exact i1, ?_⟩
        rw [PyData.shown]
        have := list_len (PyData.shownAll ds)
        omega
      · cases h
      · cases h
    · cases h
end K51
set_option Elab.async false
set_option linter.all false
set_option maxRecDepth 100000
set_option maxHeartbeats 4000000
namespace K51
set_option autoImplicit false
open PySem L2 Cr PyProof.Rows
open PySem.PyData (strOk)
/-! ### a text read whole -/
def endP (l : List Nat) (r : Rs) : D := match r with
  | .ok d q => if q < l.length then .tuple [.str "wrong", .int (q : Int), .bool true] else .tuple [.str "data", d]
  | .wr r => .tuple [.str "wrong", .int (r : Int), .bool true]
def endL (l : List Nat) (r : Rs) : D := match r with
  | .ok d q => if q < l.length then .tuple [.str "wrong", .int (q : Int)] else .tuple [.str "data", d]
  | .wr r => .tuple [.str "wrong", .int (r : Int)]
section
variable (l : List Nat) (hz : l.length ≤ 100000) (ok : okL l) (hf : l.length + 1 < fuel)
include hz ok hf
theorem r_decode (n e0 : Nat) (r : Rs) (S : Sto) (h : rd l n 0 = some r) : match r with
    | .ok d q => if q < l.length then ∃ T', callN T fuel (2 * n + e0 + 1) 4 [.str (sc l)] S = .ex 1 [("at", .int (q : Int))] (S ++ T') else callN T fuel (2 * n + e0 + 1) 4 [.str (sc l)] S = .ok d S
    | .wr r => ∃ T', callN T fuel (2 * n + e0 + 1) 4 [.str (sc l)] S = .ex 1 [("at", .int (r : Int))] (S ++ T') := by
  have R := P_read l hz ok hf n 0 r S e0 (Nat.zero_le _) h
  have el := len_sc (l := l) (S := S) (hzl hz)
  rw [call_eq (fn := f4) rfl rfl]
  cases r with
  | ok d q =>
    have R : callN T fuel (2 * n + e0) 3 [.str (sc l), .int ((0 : Nat) : Int)] S = .ok (.tuple [d, .int (q : Int)]) S := R
    have tg : evG (callN T fuel (2 * n + e0)) (.tup [.nm 1, .nm 2]) (.tuple [d, .int (q : Int)]) [some (.str (sc l)), none, none] S = .nx [some (.str (sc l)), some d, some (.int (q : Int))] S := by rw [evG] <;> rfl
    dsimp only
    by_cases hq : q < l.length
    · rw [if_pos hq]
      have hq' : (q : Int) < (l.length : Int) := by omega
      refine ⟨[], ?_⟩
      rw [List.append_nil]
      simp at R
      simp [f4, b4, start0, R, tg, el, hq']
    · rw [if_neg hq]
      have hq' : ¬ (q : Int) < (l.length : Int) := by omega
      simp at R
      simp [f4, b4, start0, R, tg, el, hq']
  | wr r =>
    obtain ⟨T', R⟩ := R
    refine ⟨T', ?_⟩
    simp at R
    simp [f4, b4, start0, R]
theorem r_told (n e0 : Nat) (r : Rs) (S : Sto) (h : rd l n 0 = some r) : callN T fuel (2 * n + e0 + 2) 14 [.str (sc l)] S = .ok (endP l r) S := by
  have R := r_decode l hz ok hf n e0 r S h
  rw [call_eq (fn := f14) rfl rfl]
  have ct : ∀ (q : Nat) (T' : Sto), cutF true S (.tuple [.str "wrong", .int (q : Int), .bool true]) (S ++ T') = .ok (.tuple [.str "wrong", .int (q : Int), .bool true]) S := fun q T' => by
    refine cut_app (.inl rfl) ?_
    rw [PyData.canLay0, PyData.canLayAll0, PyData.canLayAll0, PyData.canLayAll0, PyData.canLayAll0, PyData.canLay0, PyData.canLay0, PyData.canLay0, ok_ofs]
    rfl
  have ex_ : ∀ (q : Nat) (T' : Sto), callN T fuel (2 * n + e0 + 1) 4 [.str (sc l)] S = .ex 1 [("at", .int (q : Int))] (S ++ T') → fin f14.cut S (evB fuel (callN T fuel (2 * n + e0 + 1)) f14.body (start0 f14.n [.str (sc l)]) S) = .ok (.tuple [.str "wrong", .int (q : Int), .bool true]) S := fun q T' R => by
    have sh : setH [("at", 2)] [("at", PyData.int (q : Int))] (wip (some 1) [some (.str (sc l)), none, none]) = some [some (.str (sc l)), none, some (.int (q : Int))] := by
      simp [setH, wip, List.lookup]
    simp [f14, b14, start0, R, sh]
    exact ct q T'
  cases r with
  | ok d q =>
    unfold endP
    dsimp only at R ⊢
    by_cases hq : q < l.length
    · rw [if_pos hq] at R ⊢
      obtain ⟨T', R⟩ := R
      exact ex_ q T' R
    · rw [if_neg hq] at R ⊢
      simp [f14, b14, start0, R]
  | wr r =>
    obtain ⟨T', R⟩ := R
    exact ex_ r T' R
omit hf in
theorem r_due (n e0 : Nat) (r : Rs) (S : Sto) (h : rd l n 0 = some r) : callN T fuel (2 * n + e0 + 1) 13 [.str (sc l)] S = .ok (endL l r) S := by
  have R := L_read l hz ok n 0 r S e0 (Nat.zero_le _) h
  have el := len_sc (l := l) (S := S) (hzl hz)
  rw [call_eq (fn := f13) rfl rfl]
  have s3 : ∀ a b c : D, sliD (.tuple [a, b, c]) none (some 2) S = .ok (.tuple [a, b]) S := fun _ _ _ => rfl
  have s2 : ∀ a b : D, sliD (.tuple [a, b]) none (some 2) S = .ok (.tuple [a, b]) S := fun _ _ => rfl
  cases r with
  | ok d q =>
    unfold told at R
    unfold endL
    dsimp only at R ⊢
    by_cases hq : q < l.length
    · rw [if_pos hq]
      have hq' : (q : Int) < (l.length : Int) := by omega
      simp at R
      simp [f13, b13, start0, R, el, hq']
    · rw [if_neg hq]
      have hq' : ¬ (q : Int) < (l.length : Int) := by omega
      simp at R
      simp [f13, b13, start0, R, el, hq', s3]
  | wr r =>
    unfold told at R
    unfold endL
    dsimp only at R ⊢
    simp at R
    simp [f13, b13, start0, R, s2]
end
theorem its_wr {l : List Nat} {f : Nat → Option Rs} (hf : ∀ p r, p ≤ l.length → f p = some (.wr r) → r ≤ l.length) (hq : ∀ p d q, f p = some (.ok d q) → q ≤ l.length) {e : Nat} : ∀ {m p : Nat} {acc : List D} {r : Nat}, p ≤ l.length → its l f e m p acc = some (.wr r) → r ≤ l.length
  | 0, p, acc, r, hp, h => by cases h
  | m + 1, p, acc, r, hp, h => by
    unfold its at h
    split at h
    · cases h
    · split at h
      · rename_i d q hd
        exact its_wr hf hq (hq _ _ _ hd) h
      · rename_i q hd
        cases h
        exact hf _ _ hp hd
      · cases h
theorem rd_wr {l : List Nat} : ∀ {n p r : Nat}, p ≤ l.length → rd l n p = some (.wr r) → r ≤ l.length
  | 0, p, r, hp, h => by cases h
  | n + 1, p, r, hp, h => by
    have one : ∀ {c : Nat}, l[p]? = some c → p + 1 ≤ l.length := fun hc => (List.getElem?_eq_some_iff.mp hc).1
    unfold rd at h
    split at h
    · cases h
    · cases h
    · cases h
    · rename_i hc
      split at h
      · cases h
      · cases h; exact one hc
    · rename_i hc
      split at h
      · split at h
        · cases h
        · cases h; exact one hc
      · cases h; exact one hc
    · rename_i hc
      split at h
      · cases h
      · rename_i q hi
        cases h
        exact its_wr (fun p r hp h => rd_wr (n := n) hp h) (fun p d q h => (rd_q (n := n) h).2) (one hc) hi
      · cases h
    · rename_i hc
      split at h
      · cases h
      · rename_i q hi
        cases h
        exact its_wr (fun p r hp h => rd_wr (n := n) hp h) (fun p d q h => (rd_q (n := n) h).2) (one hc) hi
      · cases h
    · cases h; exact hp
/-- the end is shown -/
theorem end_ok {l : List Nat} (ok : okL l) (hz : l.length ≤ 100000) {n : Nat} (hn : n ≤ 60) {r : Rs} (h : rd l n 0 = some r) (hw : ∀ p, r = .wr p → p ≤ 100001) : pl 62 (endP l r) = true ∧ (endP l r).showable = true ∧ (endP l r).shown.length ≤ sizeLine := by
  have three : ∀ p : Nat, p ≤ 100001 → pl 62 (.tuple [.str "wrong", .int (p : Int), .bool true]) = true ∧ PyData.showable (.tuple [.str "wrong", .int (p : Int), .bool true]) = true ∧ (PyData.shown (.tuple [.str "wrong", .int (p : Int), .bool true])).length ≤ sizeLine := fun p hp => by
    refine ⟨by simp, ?_, ?_⟩
    · rw [PyData.showable, showable_all]
      simp [PyData.showable]
      exact Nat.lt_of_le_of_lt (log_lt (k := 20) (by omega)) (by decide)
    · rw [PyData.shown]
      have h1 := tup_len (PyData.shownAll [.str "wrong", .int (p : Int), .bool true])
      have h2 := int_len (x := (p : Int)) (by omega)
      rw [PyData.shownAll, PyData.shownAll, PyData.shownAll, PyData.shownAll, piled_cons, piled_cons, piled_cons, piled_nil] at h1
      have h3 : (PyData.shown (.str "wrong")).length ≤ 52 := by
        rw [PyData.shown]
        have := StrLaws.reprText_len ("wrong" : Str) (by intro c hc; exact Nat.lt_of_lt_of_le (ok_cps ok_ofs c hc) (by decide))
        rw [ofs_len] at this
        exact this
      have h4 : (PyData.shown (.bool true)).length = 4 := by
        rw [PyData.shown]
        show (Str.ofString "True").length = 4
        rw [ofs_len]; rfl
      refine Nat.le_trans h1 (Nat.le_trans ?_ (by decide : 1000 ≤ sizeLine))
      rw [h4]
      omega
  cases r with
  | wr p => exact three p (hw p rfl)
  | ok d q =>
    unfold endP
    dsimp only
    have hq := rd_q h
    split
    · exact three q (by omega)
    · obtain ⟨h1, h2⟩ := rd_sh ok h
      have hp := pl_mono (n := 61) (rd_pl ok h) (by omega)
      refine ⟨by simp [hp], ?_, ?_⟩
      · rw [PyData.showable, showable_all]
        simp [h1, PyData.showable]
      · rw [PyData.shown]
        have h3 := tup_len (PyData.shownAll [.str "data", d])
        rw [PyData.shownAll, PyData.shownAll, PyData.shownAll, piled_cons, piled_cons, piled_nil] at h3
        have h4 : (PyData.shown (.str "data")).length ≤ 42 := by
          rw [PyData.shown]
          have := StrLaws.reprText_len ("data" : Str) (by intro c hc; exact Nat.lt_of_lt_of_le (ok_cps ok_ofs c hc) (by decide))
          rw [ofs_len] at this
          exact this
        refine Nat.le_trans h3 (Nat.le_trans ?_ (by decide : 2000000 ≤ sizeLine))
        omega
end K51
set_option Elab.async false
set_option linter.all false
set_option maxRecDepth 100000
set_option maxHeartbeats 4000000
namespace K51
set_option autoImplicit false
open PySem L2 Cr PyProof.Rows
open PySem.PyData (strOk)
/-! ### the data -/
def codes (s : String) : List Nat := s.toList.map Char.toNat
def lints : List Int := [0, 1, -1, 10, 999999999999, -1000000000000, 9999999999999999, 7]
def lstrs : List String := ["", "a", "i1;", "(x", "12:"]
def Lf (d : D) : Prop := d = .none ∨ d = .bool true ∨ d = .bool false ∨ (∃ i, d = .int i ∧ i ∈ lints) ∨ ∃ s : String, d = .str s ∧ s ∈ lstrs
def Sh : Nat → D → Prop
  | 0, d => Lf d
  | n + 1, d => Lf d ∨ ∃ xs, xs.length ≤ 3 ∧ (d = .list xs ∨ d = .tuple xs) ∧ ∀ x ∈ xs, Sh n x
theorem Sh.leaf {n : Nat} {d : D} (h : Lf d) : Sh n d := by
  cases n with
  | zero => exact h
  | succ n => exact .inl h
mutual
def enc : D → List Nat
  | .none => [122]
  | .bool b => if b = true then [121] else [110]
  | .int i => 105 :: codes i.repr ++ [59]
  | .str x => 116 :: codes (x.length : Int).repr ++ [58] ++ x.cps.toList
  | .list xs => 91 :: encs xs ++ [93]
  | .tuple xs => 40 :: encs xs ++ [41]
  | .dict _ => []
def encs : List D → List Nat
  | [] => []
  | x :: xs => enc x ++ encs xs
end
theorem encs_map : ∀ xs : List D, encs xs = (xs.map enc).flatten
  | [] => by rw [encs]; rfl
  | x :: xs => by rw [encs, encs_map xs]; rfl
theorem lf_all {P : D → Prop} (h1 : P .none) (h2 : P (.bool true)) (h3 : P (.bool false)) (h4 : ∀ i ∈ lints, P (.int i)) (h5 : ∀ s ∈ lstrs, P (.str (Str.ofString s))) {d : D} (h : Lf d) : P d := by
  rcases h with rfl | rfl | rfl | ⟨i, rfl, hi⟩ | ⟨s, rfl, hs⟩
  · exact h1
  · exact h2
  · exact h3
  · exact h4 i hi
  · exact h5 s hs
theorem ints_lt {i : Int} (h : i ∈ lints) : i.natAbs < 10 ^ 16 := by
  revert i
  decide
theorem strs_len {s : String} (h : s ∈ lstrs) : s.length ≤ 3 := by
  revert s
  decide
theorem ints_enc {i : Int} (h : i ∈ lints) : (codes i.repr).length ≤ 16 := by
  revert i
  decide +kernel
theorem strs_enc {s : String} (h : s ∈ lstrs) : (codes (s.length : Int).repr).length ≤ 1 := by
  revert s
  decide +kernel
theorem enc_len : ∀ (n : Nat) (d : D), Sh n d → (enc d).length ≤ 20 * 4 ^ n := by
  have lf : ∀ d, Lf d → (enc d).length ≤ 20 := fun d h => by
    refine lf_all (P := fun d => (enc d).length ≤ 20) ?_ ?_ ?_ (fun i hi => ?_) (fun s hs => ?_) h
    · rw [enc]; decide
    · rw [enc]; decide
    · rw [enc]; decide
    · rw [enc]
      have := ints_enc hi
      simp only [List.length_append, List.length_cons, List.length_nil]
      omega
    · rw [enc]
      have h1 := strs_len hs
      have h2 := strs_enc hs
      rw [ofs_len]
      have h3 : (Str.ofString s).cps.toList.length = s.length := by rw [lit, sc_cps, List.length_map, String.length_toList]
      simp only [List.length_append, List.length_cons, List.length_nil, h3]
      omega
  intro n
  induction n with
  | zero => intro d h; simpa using lf d h
  | succ n ih =>
    intro d h
    have hp : 1 ≤ 4 ^ n := Nat.pow_pos (by decide)
    rcases h with h | ⟨xs, hl, hd, hx⟩
    · have := lf d h
      rw [Nat.pow_succ]
      omega
    · have key : (encs xs).length ≤ xs.length * (20 * 4 ^ n) := by
        clear hl hd
        induction xs with
        | nil => rw [encs]; simp
        | cons x xs ihx =>
          rw [encs, List.length_append, List.length_cons, Nat.succ_mul]
          have h1 := ih x (hx x List.mem_cons_self)
          have h2 := ihx fun y hy => hx y (List.mem_cons_of_mem _ hy)
          omega
      have h3 : xs.length * (20 * 4 ^ n) ≤ 3 * (20 * 4 ^ n) := Nat.mul_le_mul_right _ hl
      rw [Nat.pow_succ]
      rcases hd with rfl | rfl <;> (rw [enc]; simp only [List.length_append, List.length_cons, List.length_nil]; omega)
theorem codes_ok (s : String) : okL (codes s) := okL_lit s
theorem enc_ok : ∀ (n : Nat) (d : D), Sh n d → okL (enc d) := by
  have one : ∀ c : Nat, c < 0x110000 → okL [c] := fun c h x hx => by rw [List.mem_singleton.mp hx]; exact h
  have cons : ∀ {c : Nat} {l : List Nat}, c < 0x110000 → okL l → okL (c :: l) := fun {c l} h hl x hx => by
    rcases List.mem_cons.mp hx with rfl | hx
    · exact h
    · exact hl x hx
  have lf : ∀ d, Lf d → okL (enc d) := fun d h => by
    refine lf_all (P := fun d => okL (enc d)) ?_ ?_ ?_ (fun i hi => ?_) (fun s hs => ?_) h
    · rw [enc]; exact one _ (by decide)
    · rw [enc]; exact one _ (by decide)
    · rw [enc]; exact one _ (by decide)
    · rw [enc]
      exact okL_app (cons (by decide) (codes_ok _)) (one _ (by decide))
    · rw [enc]
      refine okL_app (okL_app (cons (by decide) (codes_ok _)) (one _ (by decide))) ?_
      rw [lit, sc_cps]
      exact codes_ok s
  intro n
  induction n with
  | zero => intro d h; exact lf d h
  | succ n ih =>
    intro d h
    rcases h with h | ⟨xs, hl, hd, hx⟩
    · exact lf d h
    · have key : okL (encs xs) := by
        clear hl hd
        induction xs with
        | nil => rw [encs]; exact fun _ z => nomatch z
        | cons x xs ihx =>
          rw [encs]
          exact okL_app (ih x (hx x List.mem_cons_self)) (ihx fun y hy => hx y (List.mem_cons_of_mem _ hy))
      rcases hd with rfl | rfl <;> (rw [enc]; exact okL_app (cons (by decide) key) (one _ (by decide)))
/-! ### what is shown of it -/
theorem sh_ok : ∀ (n : Nat) (d : D), Sh n d → pl n d = true ∧ d.showable = true ∧ d.shown.length + 2 ≤ 60 * 4 ^ n := by
  have lf : ∀ d, Lf d → (∀ n, pl n d = true) ∧ d.showable = true ∧ d.shown.length + 2 ≤ 60 := fun d h => by
    refine lf_all (P := fun d => (∀ n, pl n d = true) ∧ d.showable = true ∧ d.shown.length + 2 ≤ 60) ⟨fun _ => by simp, by rw [PyData.showable], ?_⟩ ⟨fun _ => by simp, by rw [PyData.showable], ?_⟩ ⟨fun _ => by simp, by rw [PyData.showable], ?_⟩ (fun i hi => ⟨fun _ => by simp, int_sh (by have := ints_lt hi; omega), ?_⟩) (fun s hs => ⟨fun _ => by simp, by rw [PyData.showable], ?_⟩) h
    · rw [PyData.shown]; show (Str.ofString "None").length + 2 ≤ 60; rw [ofs_len]; decide
    · rw [PyData.shown]; show (Str.ofString "True").length + 2 ≤ 60; rw [ofs_len]; decide
    · rw [PyData.shown]; show (Str.ofString "False").length + 2 ≤ 60; rw [ofs_len]; decide
    · have := int_len (x := i) (by have := ints_lt hi; omega)
      omega
    · rw [PyData.shown]
      have := StrLaws.reprText_len (Str.ofString s) (fun c hc => Nat.lt_of_lt_of_le (ok_cps ok_ofs c hc) (by decide))
      rw [ofs_len] at this
      have := strs_len hs
      omega
  intro n
  induction n with
  | zero => intro d h; have := lf d h; exact ⟨this.1 0, this.2.1, by simpa using this.2.2⟩
  | succ n ih =>
    intro d h
    have hp : 1 ≤ 4 ^ n := Nat.pow_pos (by decide)
    rcases h with h | ⟨xs, hl, hd, hx⟩
    · have := lf d h
      refine ⟨this.1 _, this.2.1, ?_⟩
      rw [Nat.pow_succ]
      omega
    · have k1 : xs.all (pl n) = true := by
        rw [List.all_eq_true]
        exact fun x hxm => (ih x (hx x hxm)).1
      have k2 : xs.all PyData.showable = true := by
        rw [List.all_eq_true]
        exact fun x hxm => (ih x (hx x hxm)).2.1
      have k3 : piled (PyData.shownAll xs) ≤ xs.length * (60 * 4 ^ n) := by
        clear hl hd k1 k2
        induction xs with
        | nil => rw [PyData.shownAll, piled_nil]; simp
        | cons x xs ihx =>
          rw [PyData.shownAll, piled_cons, List.length_cons, Nat.succ_mul]
          have h1 := (ih x (hx x List.mem_cons_self)).2.2
          have h2 := ihx fun y hy => hx y (List.mem_cons_of_mem _ hy)
          omega
      have h3 : xs.length * (60 * 4 ^ n) ≤ 3 * (60 * 4 ^ n) := Nat.mul_le_mul_right _ hl
      have t1 := tup_len (PyData.shownAll xs)
      have t2 := list_len (PyData.shownAll xs)
      rcases hd with rfl | rfl
      · refine ⟨by rw [pl_lst]; exact k1, by rw [PyData.showable, showable_all]; exact k2, ?_⟩
        rw [PyData.shown, Nat.pow_succ]
        omega
      · refine ⟨by rw [pl_tup]; exact k1, by rw [PyData.showable, showable_all]; exact k2, ?_⟩
        rw [PyData.shown, Nat.pow_succ]
        omega
end K51
set_option Elab.async false
set_option linter.all false
set_option maxRecDepth 100000
set_option maxHeartbeats 4000000
namespace K51
set_option autoImplicit false
open PySem L2 Cr PyProof.Rows
open PySem.PyData (strOk)
/-! ### isinstance -/
section
variable {S : Sto} {b : Bool} {i : Int} {x : Str} {xs : List D}
@[simp] theorem ib_n : isiD "bool" .none S = .ok (.bool false) S := id rfl
@[simp] theorem ib_b : isiD "bool" (.bool b) S = .ok (.bool true) S := id rfl
@[simp] theorem ib_i : isiD "bool" (.int i) S = .ok (.bool false) S := id rfl
@[simp] theorem ib_s : isiD "bool" (.str x) S = .ok (.bool false) S := id rfl
@[simp] theorem ib_l : isiD "bool" (.list xs) S = .ok (.bool false) S := id rfl
@[simp] theorem ib_t : isiD "bool" (.tuple xs) S = .ok (.bool false) S := id rfl
@[simp] theorem ii_i : isiD "int" (.int i) S = .ok (.bool true) S := id rfl
@[simp] theorem ii_s : isiD "int" (.str x) S = .ok (.bool false) S := id rfl
@[simp] theorem ii_l : isiD "int" (.list xs) S = .ok (.bool false) S := id rfl
@[simp] theorem ii_t : isiD "int" (.tuple xs) S = .ok (.bool false) S := id rfl
@[simp] theorem is_s : isiD "str" (.str x) S = .ok (.bool true) S := id rfl
@[simp] theorem is_l : isiD "str" (.list xs) S = .ok (.bool false) S := id rfl
@[simp] theorem is_t : isiD "str" (.tuple xs) S = .ok (.bool false) S := id rfl
@[simp] theorem it_l : isiD "tuple" (.list xs) S = .ok (.bool false) S := id rfl
@[simp] theorem non_i : cmpD .Is (.int i) .none S = .ok (.bool false) S := id rfl
@[simp] theorem non_l : cmpD .Is (.list xs) .none S = .ok (.bool false) S := id rfl
end
/-! ### the forms of parts, joined -/
theorem strs_map (xs : List D) : strsOf (xs.map fun x => .str (sc (enc x))) = some (xs.map fun x => sc (enc x)) := by
  induction xs with
  | nil => rfl
  | cons x xs ih => rw [List.map_cons, strsOf, ih]; rfl
theorem join_sc : ∀ xs : List D, Str.join (Str.ofString "") (xs.map fun x => sc (enc x)) = sc (encs xs)
  | [] => by rw [encs]; rfl
  | [x] => by
    rw [encs, encs, List.append_nil]; rfl
  | x :: y :: r => by
    show sc (enc x) ++ Str.ofString "" ++ Str.join (Str.ofString "") ((y :: r).map fun x => sc (enc x)) = _
    rw [join_sc (y :: r), show Str.ofString "" = sc [] from lit "", sc_app, sc_app, List.append_nil, encs.eq_2 x (y :: r)]
theorem sum_len : ∀ xs : List D, ((xs.map fun x => sc (enc x)).map (·.length)).sum = (encs xs).length
  | [] => by rw [encs]; rfl
  | x :: xs => by rw [List.map_cons, List.map_cons, List.sum_cons, sum_len xs, encs, List.length_append, sc_len]
theorem join_all (xs : List D) (S : Sto) (h : (encs xs).length ≤ sizeLine) : mthD .join (.str (Str.ofString "")) [.list (xs.map fun x => .str (sc (enc x)))] S = .ok (.str (sc (encs xs))) S := by
  have e := join_str (x := Str.ofString "") (ys := xs.map fun x => sc (enc x)) (d := .list (xs.map fun x => .str (sc (enc x)))) (S := S) (by
    show (some (xs.map fun x => .str (sc (enc x)))).bind strsOf = _
    exact strs_map xs) (by
    rw [sum_len, ofs_len]
    show (encs xs).length + _ * 0 ≤ _
    omega)
  rw [e, join_sc]
theorem comp_ok (f lev : Nat) (d : D) (xs : List D) (S : Sto) (hd : stays d xs S = true) (σ : Cr.Fr) (hσ : σ.length = 3) (hx : ∀ x ∈ xs, callN T fuel lev f [x] S = .ok (.str (sc (enc x))) S) :
    lcL d xs (trn (callN T fuel lev) true [2] false [] (.call f [.var 2]) σ) xs S = .ok (xs.map fun x => .str (sc (enc x))) S := by
  have := lcL_pure (d := d) (all := xs) (step := trn (callN T fuel lev) true [2] false [] (.call f [.var 2]) σ) (S := S) hd (fun x => some (.str (sc (enc x)))) xs fun x hxm => by
    match σ, hσ with
    | [a, b, c], _ => simp [trn, bndT, setAll, wipF, hx x hxm]
  rw [this]
  congr 1
  simp
section
theorem int_form {i : Int} : Str.ofString "i" ++ Str.ofString i.repr ++ Str.ofString ";" = sc (105 :: codes i.repr ++ [59]) := by
  rw [lit "i", lit ";", lit i.repr, sc_app, sc_app]; rfl
theorem str_form {x : Str} : Str.ofString "t" ++ Str.ofString (x.length : Int).repr ++ Str.ofString ":" ++ x = sc (116 :: codes (x.length : Int).repr ++ [58] ++ x.cps.toList) := by
  rw [lit "t", lit ":", lit (x.length : Int).repr, sc_app, sc_app]
  have e : ∀ l : List Nat, sc l ++ x = sc (l ++ x.cps.toList) := fun l => by
    have h : x = sc x.cps.toList := sc_of x
    generalize x.cps.toList = m at h
    subst h
    exact sc_app
  rw [e]; rfl
theorem tup_form {l : List Nat} : Str.ofString "(" ++ sc l ++ Str.ofString ")" = sc (40 :: l ++ [41]) := by
  rw [lit "(", lit ")", sc_app, sc_app]; rfl
theorem lst_form {l : List Nat} : Str.ofString "[" ++ sc l ++ Str.ofString "]" = sc (91 :: l ++ [93]) := by
  rw [lit "[", lit "]", sc_app, sc_app]; rfl
theorem cat3 {a b c : Str} {S : Sto} (h : a.length + b.length + c.length ≤ 1000000) : binD .Add (.str a) (.str b) S = .ok (.str (a ++ b)) S ∧ binD .Add (.str (a ++ b)) (.str c) S = .ok (.str (a ++ b ++ c)) S := by
  have : (1000000 : Nat) ≤ sizeLine := by decide
  exact ⟨cat_s (by omega), cat_s (by rw [str_len_app]; omega)⟩
theorem one_len (s : String) (h : s.length = 1) : (Str.ofString s).length = 1 := by rw [ofs_len]; exact h
theorem codes_len (s : String) : (codes s).length = s.length := by unfold codes; rw [List.length_map, String.length_toList]
theorem pow_le4 {n : Nat} (h : n ≤ 4) : 4 ^ n ≤ 256 := Nat.pow_le_pow_right (by decide) h
theorem r_enc : ∀ (n : Nat) (d : D), Sh n d → n ≤ 4 → ∀ k S, callN T fuel (k + n + 1) 0 [d] S = .ok (.str (sc (enc d))) S := by
  have lf : ∀ d, Lf d → ∀ k S, callN T fuel (k + 1) 0 [d] S = .ok (.str (sc (enc d))) S := fun d h k S => by
    rw [call_eq (fn := f0) rfl rfl]
    refine lf_all (P := fun d => fin f0.cut S (evB fuel (callN T fuel k) f0.body (start0 f0.n [d]) S) = .ok (.str (sc (enc d))) S) ?_ ?_ ?_ (fun i hi => ?_) (fun s hs => ?_) h
    · rw [enc]; simp [f0, b0, start0]; exact lit "z"
    · rw [enc]; simp [f0, b0, start0]; exact lit "y"
    · rw [enc]; simp [f0, b0, start0]; exact lit "n"
    · rw [enc]
      have h1 := ints_lt hi
      have h2 := str_i (i := i) (S := S) (Nat.lt_of_le_of_lt (log_lt (k := 60) (by omega)) (by decide))
      have h3 := ints_enc hi
      rw [codes_len] at h3
      obtain ⟨c1, c2⟩ := cat3 (a := Str.ofString "i") (b := Str.ofString i.repr) (c := Str.ofString ";") (S := S) (by rw [one_len "i" rfl, one_len ";" rfl, ofs_len]; omega)
      simp [f0, b0, start0, h2, c1, c2]
      exact int_form
    · rw [enc]
      have h1 := strs_len hs
      have h2 := strs_enc hs
      rw [codes_len] at h2
      have h3 := len_s (x := Str.ofString s) (S := S) (by rw [ofs_len]; exact Nat.le_trans (by omega : s.length ≤ 1000) (by decide))
      have h4 := str_i (i := ((Str.ofString s).length : Int)) (S := S) (by rw [ofs_len]; exact Nat.lt_of_le_of_lt (log_lt (k := 60) (by simp; omega)) (by decide))
      have h5 : (Str.ofString ((Str.ofString s).length : Int).repr).length ≤ 1 := by rw [ofs_len, ofs_len]; exact h2
      have hl : (Str.ofString s).length = s.length := ofs_len
      obtain ⟨c1, c2⟩ := cat3 (a := Str.ofString "t") (b := Str.ofString ((Str.ofString s).length : Int).repr) (c := Str.ofString ":") (S := S) (by rw [one_len "t" rfl, one_len ":" rfl]; omega)
      have c3 := cat_s (a := Str.ofString "t" ++ Str.ofString ((Str.ofString s).length : Int).repr ++ Str.ofString ":") (b := Str.ofString s) (S := S) (by
        rw [str_len_app, str_len_app, one_len "t" rfl, one_len ":" rfl]
        exact Nat.le_trans (by omega) (by decide : 1000 ≤ sizeLine))
      have fm := str_form (x := Str.ofString s)
      generalize Str.ofString s = x at *
      simp only [f0, b0, start0]
      simp [h3, h4, c1, c2, c3]
      rw [fm]
      simp
  intro n
  induction n with
  | zero => intro d h hn k S; exact lf d h k S
  | succ n ih =>
    intro d h hn k S
    have hl20 := enc_len (n + 1) d h
    have hp := pow_le4 hn
    rcases h with h | ⟨xs, hl, hd, hx⟩
    · rw [show k + (n + 1) + 1 = (k + n + 1) + 1 by omega]
      exact lf d h (k + n + 1) S
    · have hxs : ∀ x ∈ xs, callN T fuel (k + n + 1) 0 [x] S = .ok (.str (sc (enc x))) S := fun x hxm => ih x (hx x hxm) (by omega) k S
      have hz3 : xs.length ≤ sizeLine := Nat.le_trans hl (by decide)
      have hm := mk_l (xs := xs.map fun x => PyData.str (sc (enc x))) (S := S) (by rw [List.length_map]; exact hz3)
      rw [show k + (n + 1) + 1 = (k + n + 1) + 1 by omega, call_eq (fn := f0) rfl rfl]
      rcases hd with rfl | rfl
      · rw [enc] at hl20 ⊢
        simp only [List.length_append, List.length_cons, List.length_nil] at hl20
        have cp := comp_ok 0 (k + n + 1) (.list xs) xs S stays_list [some (.list xs), none, none] rfl hxs
        have jn := join_all xs S (Nat.le_trans (by omega : (encs xs).length ≤ 1000000) (by decide))
        obtain ⟨c1, c2⟩ := cat3 (a := Str.ofString "[") (b := sc (encs xs)) (c := Str.ofString "]") (S := S) (by rw [one_len "[" rfl, one_len "]" rfl, sc_len]; omega)
        simp [f0, b0, start0, hz3, cp, hm, jn, c1, c2]
        exact lst_form
      · rw [enc] at hl20 ⊢
        simp only [List.length_append, List.length_cons, List.length_nil] at hl20
        have cp := comp_ok 0 (k + n + 1) (.tuple xs) xs S stays_tup [some (.tuple xs), none, none] rfl hxs
        have jn := join_all xs S (Nat.le_trans (by omega : (encs xs).length ≤ 1000000) (by decide))
        obtain ⟨c1, c2⟩ := cat3 (a := Str.ofString "(") (b := sc (encs xs)) (c := Str.ofString ")") (S := S) (by rw [one_len "(" rfl, one_len ")" rfl, sc_len]; omega)
        simp [f0, b0, start0, hz3, cp, hm, jn, c1, c2]
        exact tup_form
end
end K51
set_option Elab.async false
set_option linter.all false
set_option maxRecDepth 100000
set_option maxHeartbeats 4000000
namespace K51
set_option autoImplicit false
open PySem L2 Cr PyProof.Rows
open PySem.PyData (strOk)
/-! ### _law_form -/
theorem head_from : ∀ (ts : List Str) (k : Nat) (acc : Str) (c : Nat), acc.cps.toList.head? = some c → (textFrom k acc ts).cps.toList.head? = some c
  | [], _, _, _, h => h
  | t :: r, k, acc, c, h => by
    show (textFrom (k + 1) (acc ++ (if k > 0 then ", " else "" : String) ++ t) r).cps.toList.head? = some c
    refine head_from r (k + 1) _ c ?_
    show ((acc.cps ++ _) ++ t.cps).toList.head? = some c
    rw [Array.toList_append, Array.toList_append, List.append_assoc, List.head?_append, h]
    rfl
theorem head_list (ts : List Str) : (listText ts).cps.toList.head? = some 91 := by
  unfold listText
  show ((textFrom 0 (Str.ofString "[") ts).cps ++ _).toList.head? = some 91
  rw [Array.toList_append, List.head?_append, head_from ts 0 _ 91 (by rw [lit, sc_cps]; rfl)]
  rfl
theorem head_tup (ts : List Str) : (tupleText ts).cps.toList.head? = some 40 := by
  unfold tupleText
  show (((Str.ofString "(").cps ++ _) ++ _).toList.head? = some 40
  rw [Array.toList_append, Array.toList_append, List.append_assoc, List.head?_append]
  have : (Str.ofString "(").cps.toList.head? = some 40 := by rw [lit, sc_cps]; rfl
  rw [this]
  rfl
theorem not_word {x : Str} {c : Nat} (h : x.cps.toList.head? = some c) {s : String} {d : Nat} (hs : (codes s).head? = some d) (hc : c ≠ d) : x ≠ Str.ofString s := by
  rintro rfl
  rw [lit, sc_cps] at h
  rw [show s.toList.map Char.toNat = codes s from rfl, hs] at h
  exact hc (Option.some.inj h).symm
theorem lf_word : (∀ i ∈ lints, i.repr ≠ "True" ∧ i.repr ≠ "False") ∧ ∀ s ∈ lstrs, reprText (Str.ofString s) ≠ Str.ofString "True" ∧ reprText (Str.ofString s) ≠ Str.ofString "False" := by
  constructor <;> decide +kernel
theorem eq_word {n : Nat} {d : D} {S : Sto} (hp : pl n d = true) {s : String} (h : d.shown ≠ Str.ofString s) : cmpD .Eq (.str d.shown) (.str (Str.ofString s)) S = .ok (.bool false) S := by
  rw [eq_s (shown_ok d (pl_lay hp)) ok_ofs, decide_eq_false h]
theorem r_form : ∀ (n : Nat) (d : D), Sh n d → n ≤ 4 → ∀ k S, callN T fuel (k + n + 1) 9 [d] S = .ok (.str (sc (enc d))) S := by
  have rp : ∀ (n : Nat) (d : D) (S : Sto), Sh n d → n ≤ 4 → bltD .repr [d] S = .ok (.str d.shown) S := fun n d S h hn => by
    obtain ⟨h1, h2, h3⟩ := sh_ok n d h
    have := pow_le4 hn
    exact repr_ok h1 (by omega) h2 (Nat.le_trans (by omega : d.shown.length ≤ 20000) (by decide))
  have lf : ∀ d, Lf d → ∀ k S, callN T fuel (k + 1) 9 [d] S = .ok (.str (sc (enc d))) S := fun d h k S => by
    have rpd := rp 0 d S h (by decide)
    rw [call_eq (fn := f9) rfl rfl]
    have sb : ∀ b : Bool, PyData.shown (.bool b) = (if b then "True" else "False" : Str) := fun b => by rw [PyData.shown]
    revert rpd
    refine lf_all (P := fun d => bltD .repr [d] S = .ok (.str d.shown) S → fin f9.cut S (evB fuel (callN T fuel k) f9.body (start0 f9.n [d]) S) = .ok (.str (sc (enc d))) S) (fun rpd => ?_) (fun rpd => ?_) (fun rpd => ?_) (fun i hi rpd => ?_) (fun s hs rpd => ?_) h
    · rw [enc]; simp [f9, b9, start0]; exact lit "z"
    · have nn : cmpD .Is (.bool true) .none S = .ok (.bool false) S := id rfl
      rw [enc]
      simp [f9, b9, start0, nn]; exact lit "y"
    · have nn : cmpD .Is (.bool false) .none S = .ok (.bool false) S := id rfl
      rw [enc]
      simp [f9, b9, start0, nn]; exact lit "n"
    · have sh : PyData.shown (.int i) = Str.ofString i.repr := by rw [PyData.shown]; rfl
      obtain ⟨w1, w2⟩ := lf_word.1 i hi
      have q1 := eq_word (n := 0) (d := .int i) (S := S) (by simp) (s := "True") (by rw [sh]; exact fun z => w1 (ofs_inj.mp z))
      have q2 := eq_word (n := 0) (d := .int i) (S := S) (by simp) (s := "False") (by rw [sh]; exact fun z => w2 (ofs_inj.mp z))
      rw [enc]
      have h1 := ints_lt hi
      have h2 := str_i (i := i) (S := S) (Nat.lt_of_le_of_lt (log_lt (k := 60) (by omega)) (by decide))
      have h3 := ints_enc hi
      rw [codes_len] at h3
      obtain ⟨c1, c2⟩ := cat3 (a := Str.ofString "i") (b := Str.ofString i.repr) (c := Str.ofString ";") (S := S) (by rw [one_len "i" rfl, one_len ";" rfl, ofs_len]; omega)
      simp only [f9, b9, start0]
      simp [rpd, q1, q2, h2, c1, c2]
      exact int_form
    · have sh : PyData.shown (.str (Str.ofString s)) = reprText (Str.ofString s) := by rw [PyData.shown]
      obtain ⟨w1, w2⟩ := lf_word.2 s hs
      have q1 := eq_word (n := 0) (d := .str (Str.ofString s)) (S := S) (by simp) (s := "True") (by rw [sh]; exact w1)
      have q2 := eq_word (n := 0) (d := .str (Str.ofString s)) (S := S) (by simp) (s := "False") (by rw [sh]; exact w2)
      rw [enc]
      have h1 := strs_len hs
      have h2 := strs_enc hs
      rw [codes_len] at h2
      have h3 := len_s (x := Str.ofString s) (S := S) (by rw [ofs_len]; exact Nat.le_trans (by omega : s.length ≤ 1000) (by decide))
      have h4 := str_i (i := ((Str.ofString s).length : Int)) (S := S) (by rw [ofs_len]; exact Nat.lt_of_le_of_lt (log_lt (k := 60) (by simp; omega)) (by decide))
      have h5 : (Str.ofString ((Str.ofString s).length : Int).repr).length ≤ 1 := by rw [ofs_len, ofs_len]; exact h2
      have hl : (Str.ofString s).length = s.length := ofs_len
      obtain ⟨c1, c2⟩ := cat3 (a := Str.ofString "t") (b := Str.ofString ((Str.ofString s).length : Int).repr) (c := Str.ofString ":") (S := S) (by rw [one_len "t" rfl, one_len ":" rfl]; omega)
      have c3 := cat_s (a := Str.ofString "t" ++ Str.ofString ((Str.ofString s).length : Int).repr ++ Str.ofString ":") (b := Str.ofString s) (S := S) (by
        rw [str_len_app, str_len_app, one_len "t" rfl, one_len ":" rfl]
        exact Nat.le_trans (by omega) (by decide : 1000 ≤ sizeLine))
      have fm := str_form (x := Str.ofString s)
      clear sh w1 w2 hs h1 h2 hl
      generalize Str.ofString s = x at *
      simp only [f9, b9, start0]
      simp [rpd, q1, q2, h3, h4, c1, c2, c3]
      rw [fm]
      simp
  intro n
  induction n with
  | zero => intro d h hn k S; exact lf d h k S
  | succ n ih =>
    intro d h hn k S
    have hl20 := enc_len (n + 1) d h
    have hp := pow_le4 hn
    have rpd := rp (n + 1) d S h hn
    have hpl := (sh_ok (n + 1) d h).1
    rcases h with h | ⟨xs, hl, hd, hx⟩
    · rw [show k + (n + 1) + 1 = (k + n + 1) + 1 by omega]
      exact lf d h (k + n + 1) S
    · have hxs : ∀ x ∈ xs, callN T fuel (k + n + 1) 9 [x] S = .ok (.str (sc (enc x))) S := fun x hxm => ih x (hx x hxm) (by omega) k S
      have hz3 : xs.length ≤ sizeLine := Nat.le_trans hl (by decide)
      have hm := mk_l (xs := xs.map fun x => PyData.str (sc (enc x))) (S := S) (by rw [List.length_map]; exact hz3)
      rw [show k + (n + 1) + 1 = (k + n + 1) + 1 by omega, call_eq (fn := f9) rfl rfl]
      rcases hd with rfl | rfl
      · have sh : (PyData.shown (.list xs)).cps.toList.head? = some 91 := by rw [PyData.shown]; exact head_list _
        have q1 := eq_word (S := S) hpl (s := "True") (not_word sh (d := 84) rfl (by decide))
        have q2 := eq_word (S := S) hpl (s := "False") (not_word sh (d := 70) rfl (by decide))
        rw [enc] at hl20 ⊢
        simp only [List.length_append, List.length_cons, List.length_nil] at hl20
        have cp := comp_ok 9 (k + n + 1) (.list xs) xs S stays_list [some (.list xs), none, none] rfl hxs
        have jn := join_all xs S (Nat.le_trans (by omega : (encs xs).length ≤ 1000000) (by decide))
        obtain ⟨c1, c2⟩ := cat3 (a := Str.ofString "[") (b := sc (encs xs)) (c := Str.ofString "]") (S := S) (by rw [one_len "[" rfl, one_len "]" rfl, sc_len]; omega)
        simp [f9, b9, start0, rpd, q1, q2, hz3, cp, hm, jn, c1, c2]
        exact lst_form
      · have sh : (PyData.shown (.tuple xs)).cps.toList.head? = some 40 := by rw [PyData.shown]; exact head_tup _
        have q1 := eq_word (S := S) hpl (s := "True") (not_word sh (d := 84) rfl (by decide))
        have q2 := eq_word (S := S) hpl (s := "False") (not_word sh (d := 70) rfl (by decide))
        rw [enc] at hl20 ⊢
        simp only [List.length_append, List.length_cons, List.length_nil] at hl20
        have cp := comp_ok 9 (k + n + 1) (.tuple xs) xs S stays_tup [some (.tuple xs), none, none] rfl hxs
        have jn := join_all xs S (Nat.le_trans (by omega : (encs xs).length ≤ 1000000) (by decide))
        obtain ⟨c1, c2⟩ := cat3 (a := Str.ofString "(") (b := sc (encs xs)) (c := Str.ofString ")") (S := S) (by rw [one_len "(" rfl, one_len ")" rfl, sc_len]; omega)
        simp [f9, b9, start0, rpd, q1, q2, hz3, cp, hm, jn, c1, c2]
        exact tup_form
end K51
set_option Elab.async false
set_option linter.all false
set_option maxRecDepth 100000
set_option maxHeartbeats 4000000
namespace K51
set_option autoImplicit false
open PySem L2 Cr PyProof.Rows
open PySem.PyData (strOk)
open PySem.NumText (AllDigits digitsVal)
/-! ### what is written is read -/
theorem dig_of {c : Nat} (h : 48 ≤ c ∧ c ≤ 57) : dig c = true := by unfold dig; simp; exact h
theorem run_at {A ds R : List Nat} {e : Nat} (hd : AllDigits ds) (he : dig e = false) : run (A ++ ds ++ e :: R) A.length = ds.length := by
  unfold run
  rw [List.append_assoc, List.drop_left]
  have : (ds ++ e :: R).takeWhile dig = ds := by
    rw [List.takeWhile_append_of_pos fun c hc => dig_of (hd c hc), List.takeWhile_cons, he]
    simp
  rw [this]
theorem get_mid {A R : List Nat} {c : Nat} : (A ++ c :: R)[A.length]? = some c := by
  rw [List.getElem?_append_right (Nat.le_refl _), Nat.sub_self]; rfl
theorem num_pos {A ds R : List Nat} {e : Nat} {mi : Bool} (hd : AllDigits ds) (hn : ds ≠ []) (hl : ds.length ≤ 16) (h0 : ds.head? = some 48 → ds.length = 1) (he : dig e = false) : num (A ++ ds ++ e :: R) A.length mi e = some ((digitsVal ds : Int), A.length + ds.length + 1) := by
  have hr := run_at (A := A) (R := R) hd he
  cases ds with
  | nil => exact absurd rfl hn
  | cons d r =>
    have hg : (A ++ d :: r ++ e :: R)[A.length]? = some d := by rw [List.append_assoc]; exact get_mid
    have hd1 := hd d List.mem_cons_self
    have hf : nf (A ++ d :: r ++ e :: R) A.length mi = A.length := by
      unfold nf
      rw [if_neg]
      rintro ⟨_, h⟩
      rw [hg] at h
      cases h
      omega
    have hend : (A ++ d :: r ++ e :: R)[A.length + (d :: r).length]? = some e := by
      rw [← List.length_append]; exact get_mid
    unfold num
    rw [hf, hr, if_neg]
    · congr 2
      unfold nval
      rw [if_pos rfl, hr, List.append_assoc, List.drop_left, List.take_left]
    · rintro (h | h | h | ⟨h1, h2⟩)
      · rw [hr] at h; simp at h
      · rw [hr] at h; omega
      · rw [hr, hend] at h; exact h rfl
      · rw [hg] at h1
        rw [hr] at h2
        have := h0 (by rw [List.head?_cons, Option.some.inj h1])
        omega
theorem num_neg {A ds R : List Nat} {e : Nat} (hd : AllDigits ds) (hn : ds ≠ []) (hl : ds.length ≤ 16) (h0 : ds.head? ≠ some 48) (he : dig e = false) : num (A ++ 45 :: ds ++ e :: R) A.length true e = some (-(digitsVal ds : Int), A.length + 1 + ds.length + 1) := by
  have e1 : A ++ 45 :: ds ++ e :: R = (A ++ [45]) ++ ds ++ e :: R := by simp
  have hr := run_at (A := A ++ [45]) (R := R) hd he
  have hA : (A ++ [45]).length = A.length + 1 := by simp
  have hg0 : (A ++ 45 :: ds ++ e :: R)[A.length]? = some 45 := by rw [List.append_assoc]; exact get_mid
  have hf : nf (A ++ 45 :: ds ++ e :: R) A.length true = A.length + 1 := by
    unfold nf
    rw [if_pos ⟨rfl, hg0⟩]
  have hend : (A ++ 45 :: ds ++ e :: R)[A.length + 1 + ds.length]? = some e := by
    rw [e1, ← hA, ← List.length_append]; exact get_mid
  rw [← e1, hA] at hr
  unfold num
  rw [hf, hr, if_neg]
  · congr 2
    unfold nval
    rw [if_neg (by omega), hr, e1, List.append_assoc, ← hA, List.drop_left, List.take_left]
  · rintro (h | h | h | ⟨h1, h2⟩)
    · rw [hr] at h; exact hn (List.length_eq_zero_iff.mp h)
    · rw [hr] at h; omega
    · rw [hr, hend] at h; exact h rfl
    · cases ds with
      | nil => exact hn rfl
      | cons d r =>
        have : (A ++ 45 :: d :: r ++ e :: R)[A.length + 1]? = some d := by
          rw [e1, List.append_assoc, ← hA]; exact get_mid
        rw [this] at h1
        exact h0 (by rw [List.head?_cons, Option.some.inj h1])
def goodB (ds : List Nat) : Bool := ds.all (fun c => decide (48 ≤ c) && decide (c ≤ 57)) && (!ds.isEmpty && decide (ds.length ≤ 16))
theorem goodB_ok {ds : List Nat} (h : goodB ds = true) : AllDigits ds ∧ ds ≠ [] ∧ ds.length ≤ 16 := by
  unfold goodB at h
  simp only [Bool.and_eq_true, List.all_eq_true, decide_eq_true_eq, Bool.not_eq_true', List.isEmpty_eq_false_iff] at h
  exact ⟨fun c hc => h.1 c hc, h.2.1, h.2.2⟩
def okI (i : Int) : Bool := match codes i.repr with
  | 45 :: ds => goodB ds && (decide (ds.head? ≠ some 48) && decide (-(digitsVal ds : Int) = i))
  | ds => goodB ds && ((decide (ds.head? ≠ some 48) || decide (ds.length = 1)) && decide ((digitsVal ds : Int) = i))
theorem lints_ok : ∀ i ∈ lints, okI i = true := by decide +kernel
theorem lstrs_ok : ∀ s ∈ lstrs, okI (s.length : Int) = true ∧ (codes (s.length : Int).repr).head? ≠ some 45 := by decide +kernel
theorem num_int {i : Int} (h : okI i = true) {A R : List Nat} {e : Nat} (he : dig e = false) : num (A ++ codes i.repr ++ e :: R) A.length true e = some (i, A.length + (codes i.repr).length + 1) := by
  unfold okI at h
  split at h
  · rename_i ds hc
    simp only [Bool.and_eq_true, decide_eq_true_eq] at h
    obtain ⟨h1, h2, h3⟩ := goodB_ok h.1
    rw [hc, num_neg h1 h2 h3 h.2.1 he, h.2.2, List.length_cons]
    congr 2
    omega
  · simp only [Bool.and_eq_true, Bool.or_eq_true, decide_eq_true_eq] at h
    obtain ⟨h1, h2, h3⟩ := goodB_ok h.1
    rw [num_pos h1 h2 h3 (fun z => h.2.1.elim (fun y => absurd z y) id) he, h.2.2]
theorem num_len {i : Int} (h : okI i = true) (h45 : (codes i.repr).head? ≠ some 45) {A R : List Nat} {e : Nat} (he : dig e = false) : num (A ++ codes i.repr ++ e :: R) A.length false e = some (i, A.length + (codes i.repr).length + 1) := by
  unfold okI at h
  split at h
  · rename_i ds hc
    rw [hc] at h45
    exact absurd rfl h45
  · simp only [Bool.and_eq_true, Bool.or_eq_true, decide_eq_true_eq] at h
    obtain ⟨h1, h2, h3⟩ := goodB_ok h.1
    rw [num_pos h1 h2 h3 (fun z => h.2.1.elim (fun y => absurd z y) id) he, h.2.2]
theorem enc_head : ∀ (n : Nat) (d : D), Sh n d → ∃ c r, enc d = c :: r ∧ c ≠ 41 ∧ c ≠ 93 := by
  have lf : ∀ d, Lf d → ∃ c r, enc d = c :: r ∧ c ≠ 41 ∧ c ≠ 93 := fun d h => by
    refine lf_all (P := fun d => ∃ c r, enc d = c :: r ∧ c ≠ 41 ∧ c ≠ 93) ?_ ?_ ?_ (fun i hi => ?_) (fun s hs => ?_) h
    · exact ⟨122, [], by rw [enc], by decide, by decide⟩
    · exact ⟨121, [], by rw [enc]; rfl, by decide, by decide⟩
    · exact ⟨110, [], by rw [enc]; rfl, by decide, by decide⟩
    · exact ⟨105, _, by rw [enc]; rfl, by decide, by decide⟩
    · exact ⟨116, _, by rw [enc]; rfl, by decide, by decide⟩
  intro n d h
  cases n with
  | zero => exact lf d h
  | succ n =>
    rcases h with h | ⟨xs, _, hd, _⟩
    · exact lf d h
    · rcases hd with rfl | rfl
      · exact ⟨91, _, by rw [enc]; rfl, by decide, by decide⟩
      · exact ⟨40, _, by rw [enc]; rfl, by decide, by decide⟩
theorem its_rt {f : List Nat → Nat → Option Rs} {e : Nat} (he : e = 41 ∨ e = 93) : ∀ (xs : List D) (A R : List Nat) (acc : List D) (M : Nat), (∀ x ∈ xs, (∃ c r, enc x = c :: r ∧ c ≠ 41 ∧ c ≠ 93) ∧ ∀ A B, f (A ++ enc x ++ B) A.length = some (.ok x (A.length + (enc x).length))) → xs.length < M →
    its (A ++ encs xs ++ e :: R) (f (A ++ encs xs ++ e :: R)) e M A.length acc = some (.ok (acc ++ xs) (A.length + (encs xs).length + 1))
  | [], A, R, acc, M, h, hM => by
    cases M with
    | zero => omega
    | succ M =>
      unfold its
      rw [encs, List.append_nil, get_mid, if_pos rfl, List.append_nil]
      rfl
  | x :: xs, A, R, acc, M, h, hM => by
    cases M with
    | zero => omega
    | succ M =>
      obtain ⟨⟨c, r, hc, hc1, hc2⟩, hf⟩ := h x List.mem_cons_self
      have e1 : A ++ encs (x :: xs) ++ e :: R = A ++ enc x ++ (encs xs ++ e :: R) := by rw [encs.eq_2]; simp
      have e2 : A ++ encs (x :: xs) ++ e :: R = (A ++ enc x) ++ encs xs ++ e :: R := by rw [e1]; simp
      have hg : (A ++ enc x ++ (encs xs ++ e :: R))[A.length]? = some c := by rw [hc, List.append_assoc]; exact get_mid
      have hr := hf A (encs xs ++ e :: R)
      unfold its
      rw [e1, hg, if_neg (by intro z; cases z; rcases he with h | h <;> omega), hr]
      try dsimp only
      have ih := its_rt (f := f) he xs (A ++ enc x) R (acc ++ [x]) M (fun y hy => h y (List.mem_cons_of_mem _ hy)) (by simpa using hM)
      rw [List.length_append] at ih
      rw [← e1, e2, ih, encs.eq_2, List.length_append]
      congr 2
      · simp
      · omega
theorem rt : ∀ (n : Nat) (d : D), Sh n d → ∀ (A B : List Nat) (m : Nat), n < m → rd (A ++ enc d ++ B) m A.length = some (.ok d (A.length + (enc d).length)) := by
  have lf : ∀ d, Lf d → ∀ (A B : List Nat) (m : Nat), 0 < m → rd (A ++ enc d ++ B) m A.length = some (.ok d (A.length + (enc d).length)) := fun d h A B m hm => by
    cases m with
    | zero => omega
    | succ m =>
      refine lf_all (P := fun d => rd (A ++ enc d ++ B) (m + 1) A.length = some (.ok d (A.length + (enc d).length))) ?_ ?_ ?_ (fun i hi => ?_) (fun s hs => ?_) h
      · rw [enc, List.append_assoc]
        unfold rd
        rw [show A ++ ([122] ++ B) = A ++ 122 :: B from rfl, get_mid]
        rfl
      · rw [enc, if_pos rfl, List.append_assoc]
        unfold rd
        rw [show A ++ ([121] ++ B) = A ++ 121 :: B from rfl, get_mid]
        rfl
      · rw [enc, if_neg Bool.false_ne_true, List.append_assoc]
        unfold rd
        rw [show A ++ ([110] ++ B) = A ++ 110 :: B from rfl, get_mid]
        rfl
      · rw [enc]
        have e1 : A ++ (105 :: codes i.repr ++ [59]) ++ B = (A ++ [105]) ++ codes i.repr ++ 59 :: B := by simp
        have hg : ((A ++ [105]) ++ codes i.repr ++ 59 :: B)[A.length]? = some 105 := by rw [← e1, List.append_assoc]; exact get_mid
        have hn := num_int (lints_ok i hi) (A := A ++ [105]) (R := B) (e := 59) (by decide)
        rw [show List.length (A ++ [105] : List Nat) = A.length + 1 by simp] at hn
        unfold rd
        rw [e1, hg]
        try dsimp only
        rw [hn]
        try dsimp only
        congr 2
        simp
        omega
      · rw [enc]
        obtain ⟨k1, k2⟩ := lstrs_ok s hs
        have hx : (Str.ofString s).cps.toList = codes s := by rw [lit, sc_cps]; rfl
        have hl : (Str.ofString s).length = s.length := ofs_len
        rw [hx, hl]
        have e1 : A ++ (116 :: codes (s.length : Int).repr ++ [58] ++ codes s) ++ B = (A ++ [116]) ++ codes (s.length : Int).repr ++ 58 :: (codes s ++ B) := by simp
        have hg : ((A ++ [116]) ++ codes (s.length : Int).repr ++ 58 :: (codes s ++ B))[A.length]? = some 116 := by rw [← e1, List.append_assoc]; exact get_mid
        have hn := num_len k1 k2 (A := A ++ [116]) (R := codes s ++ B) (e := 58) (by decide)
        rw [show List.length (A ++ [116] : List Nat) = A.length + 1 by simp] at hn
        have e3 : (A ++ [116]) ++ codes (s.length : Int).repr ++ 58 :: (codes s ++ B) = (A ++ [116] ++ codes (s.length : Int).repr ++ [58]) ++ codes s ++ B := by simp
        have hlen : (A ++ [116] ++ codes (s.length : Int).repr ++ [58]).length = A.length + 1 + (codes (s.length : Int).repr).length + 1 := by simp; omega
        have hcl : (codes s).length = s.length := codes_len s
        unfold rd
        rw [e1, hg]
        try dsimp only
        rw [hn]
        try dsimp only
        rw [if_pos (by simp [hcl]; omega)]
        have e4 : (List.drop (A.length + 1 + (codes (s.length : Int).repr).length + 1) (A ++ [116] ++ codes (s.length : Int).repr ++ 58 :: (codes s ++ B))).take (s.length : Int).toNat = codes s := by
          rw [e3, ← hlen, List.append_assoc (A ++ [116] ++ codes (s.length : Int).repr ++ [58]), List.drop_left, Int.toNat_natCast, ← hcl, List.take_left]
        rw [e4]
        show some (Rs.ok (.str (sc (codes s))) (A.length + 1 + (codes (s.length : Int).repr).length + 1 + (s.length : Int).toNat)) = some (Rs.ok (.str (Str.ofString s)) (A.length + (116 :: codes (s.length : Int).repr ++ [58] ++ codes s).length))
        have ex : Str.ofString s = sc (codes s) := lit s
        have eq : A.length + 1 + (codes (s.length : Int).repr).length + 1 + (s.length : Int).toNat = A.length + (116 :: codes (s.length : Int).repr ++ [58] ++ codes s).length := by
          simp [hcl]
          omega
        rw [ex, eq]
  intro n
  induction n with
  | zero => intro d h A B m hm; exact lf d h A B m hm
  | succ n ih =>
    intro d h A B m hm
    rcases h with h | ⟨xs, hl, hd, hx⟩
    · exact lf d h A B m (by omega)
    · cases m with
      | zero => omega
      | succ m =>
        have hxs : ∀ x ∈ xs, (∃ c r, enc x = c :: r ∧ c ≠ 41 ∧ c ≠ 93) ∧ ∀ A B, rd (A ++ enc x ++ B) m A.length = some (.ok x (A.length + (enc x).length)) := fun x hxm => ⟨enc_head n x (hx x hxm), fun A B => ih x (hx x hxm) A B m (by omega)⟩
        have hlen : ∀ x ∈ xs, 1 ≤ (enc x).length := fun x hxm => by
          obtain ⟨⟨c, r, hc, _⟩, _⟩ := hxs x hxm
          rw [hc]; simp
        have hle : xs.length ≤ (encs xs).length := by
          clear hl hd hxs ih hx
          induction xs with
          | nil => simp
          | cons x xs ihx =>
            rw [encs.eq_2, List.length_append, List.length_cons]
            have h1 := hlen x List.mem_cons_self
            have h2 := ihx fun y hy => hlen y (List.mem_cons_of_mem _ hy)
            omega
        rcases hd with rfl | rfl
        · rw [enc]
          have e1 : A ++ (91 :: encs xs ++ [93]) ++ B = (A ++ [91]) ++ encs xs ++ 93 :: B := by simp
          have hg : ((A ++ [91]) ++ encs xs ++ 93 :: B)[A.length]? = some 91 := by rw [← e1, List.append_assoc]; exact get_mid
          have hi := its_rt (f := fun l => rd l m) (e := 93) (.inr rfl) xs (A ++ [91]) B [] (((A ++ [91]) ++ encs xs ++ 93 :: B).length + 1) hxs (by simp; omega)
          rw [show List.length (A ++ [91] : List Nat) = A.length + 1 by simp] at hi
          unfold rd
          rw [e1, hg]
          try dsimp only
          rw [hi]
          try dsimp only
          congr 2
          simp
          omega
        · rw [enc]
          have e1 : A ++ (40 :: encs xs ++ [41]) ++ B = (A ++ [40]) ++ encs xs ++ 41 :: B := by simp
          have hg : ((A ++ [40]) ++ encs xs ++ 41 :: B)[A.length]? = some 40 := by rw [← e1, List.append_assoc]; exact get_mid
          have hi := its_rt (f := fun l => rd l m) (e := 41) (.inl rfl) xs (A ++ [40]) B [] (((A ++ [40]) ++ encs xs ++ 41 :: B).length + 1) hxs (by simp; omega)
          rw [show List.length (A ++ [40] : List Nat) = A.length + 1 by simp] at hi
          unfold rd
          rw [e1, hg]
          try dsimp only
          rw [hi]
          try dsimp only
          congr 2
          simp
          omega
end K51
set_option Elab.async false
set_option linter.all false
set_option maxRecDepth 100000
set_option maxHeartbeats 4000000
namespace K51
set_option autoImplicit false
open PySem L2 Cr PyProof.Rows
open PySem.PyData (strOk)
/-! ### brackets -/
def isO (c : Nat) (r : List Nat) : Bool := (decide (c = 40) || decide (c = 91)) && !decide (r.head? = some 120)
def cnt : List Nat → Nat
  | [] => 0
  | c :: r => (if isO c r = true then 1 else 0) + cnt r
theorem br_cnt : ∀ l : List Nat, br l 0 = cnt l := by
  have e : ∀ l : List Nat, br l 0 = (List.range l.length).countP (opn l) := fun l => by
    unfold br
    rw [← List.countP_eq_length_filter]
    congr 1
  intro l
  rw [e]
  induction l with
  | nil => rfl
  | cons c r ih =>
    rw [List.length_cons, List.range_succ_eq_map, List.countP_cons, List.countP_map]
    have h1 : (opn (c :: r)) ∘ Nat.succ = opn r := by
      funext i
      unfold opn
      simp only [Function.comp_apply, Nat.succ_eq_add_one, List.getElem?_cons_succ]
    have h2 : opn (c :: r) 0 = isO c r := by
      unfold opn isO
      rw [List.getElem?_cons_zero, List.getElem?_cons_succ, List.head?_eq_getElem?]
      simp
    rw [h1, h2, ih, cnt]
    omega
theorem cnt_app : ∀ A B : List Nat, cnt (A ++ B) ≤ cnt A + cnt B
  | [], B => by rw [cnt]; simp
  | [c], B => by
    rw [List.singleton_append, cnt, cnt, cnt]
    have : isO c B = true → isO c [] = true := fun h => by
      unfold isO at h ⊢
      simp only [Bool.and_eq_true] at h ⊢
      exact ⟨h.1, by simp⟩
    split
    · rw [if_pos (this (by assumption))]; omega
    · omega
  | c :: d :: r, B => by
    have ih := cnt_app (d :: r) B
    rw [List.cons_append, cnt, cnt]
    have : isO c (d :: r ++ B) = isO c (d :: r) := rfl
    rw [this]
    omega
theorem cnt_app' : ∀ A B : List Nat, cnt A + cnt B ≤ cnt (A ++ B) + 1
  | [], B => by rw [cnt]; simp
  | [c], B => by
    rw [List.singleton_append, cnt, cnt, cnt]
    split <;> omega
  | c :: d :: r, B => by
    have ih := cnt_app' (d :: r) B
    have e1 : cnt (c :: d :: r) = (if isO c (d :: r) = true then 1 else 0) + cnt (d :: r) := by rw [cnt]
    have e2 : cnt (c :: (d :: r ++ B)) = (if isO c (d :: r) = true then 1 else 0) + cnt (d :: r ++ B) := by rw [cnt]; rfl
    rw [List.cons_append, e1, e2]
    omega
theorem cnt_drop : ∀ (k : Nat) (l : List Nat), cnt (l.drop k) ≤ cnt l
  | 0, l => by rw [List.drop_zero]; exact Nat.le_refl _
  | k + 1, [] => by rw [List.drop_nil]; exact Nat.le_refl _
  | k + 1, c :: r => by
    rw [List.drop_succ_cons]
    have := cnt_drop k r
    rw [cnt]
    omega
theorem cnt_lf : (∀ i ∈ lints, cnt (105 :: codes i.repr ++ [59]) = 0) ∧ ∀ s ∈ lstrs, cnt (116 :: codes (s.length : Int).repr ++ [58] ++ codes s) = 0 := by
  constructor <;> decide +kernel
theorem cnt_enc : ∀ (n : Nat) (d : D), Sh n d → 2 * cnt (enc d) + 1 ≤ 3 ^ n := by
  have lf : ∀ d, Lf d → cnt (enc d) = 0 := fun d h => by
    refine lf_all (P := fun d => cnt (enc d) = 0) ?_ ?_ ?_ (fun i hi => ?_) (fun s hs => ?_) h
    · rw [enc]; decide
    · rw [enc]; decide
    · rw [enc]; decide
    · rw [enc]; exact cnt_lf.1 i hi
    · rw [enc]
      have hx : (Str.ofString s).cps.toList = codes s := by rw [lit, sc_cps]; rfl
      have hl : (Str.ofString s).length = s.length := ofs_len
      rw [hx, hl]
      exact cnt_lf.2 s hs
  intro n
  induction n with
  | zero => intro d h; rw [lf d h]; decide
  | succ n ih =>
    intro d h
    have hp : 1 ≤ 3 ^ n := Nat.pow_pos (by decide)
    rcases h with h | ⟨xs, hl, hd, hx⟩
    · rw [lf d h, Nat.pow_succ]; omega
    · have key : 2 * cnt (encs xs) + xs.length ≤ xs.length * 3 ^ n := by
        clear hl hd
        induction xs with
        | nil => rw [encs, cnt]; simp
        | cons x xs ihx =>
          have h0 := cnt_app (enc x) (encs xs)
          have h1 := ih x (hx x List.mem_cons_self)
          have h2 := ihx fun y hy => hx y (List.mem_cons_of_mem _ hy)
          rw [encs.eq_2, List.length_cons, Nat.add_mul, Nat.one_mul]
          omega
      have k2 : (3 - xs.length) * 1 ≤ (3 - xs.length) * 3 ^ n := Nat.mul_le_mul_left _ hp
      have k3 : (3 - xs.length) * 3 ^ n + xs.length * 3 ^ n = 3 * 3 ^ n := by rw [← Nat.add_mul, Nat.sub_add_cancel hl]
      have fin_ : ∀ a b : Nat, (∀ r, (if isO b r = true then 1 else 0) = 0) → cnt (a :: encs xs ++ [b]) ≤ 1 + cnt (encs xs) := fun a b hb => by
        rw [List.cons_append, cnt]
        have := cnt_app (encs xs) [b]
        rw [cnt, cnt, hb] at this
        split <;> omega
      rw [Nat.pow_succ]
      rcases hd with rfl | rfl
      · rw [enc]
        have := fin_ 91 93 (fun r => rfl)
        omega
      · rw [enc]
        have := fin_ 40 41 (fun r => rfl)
        omega
/-! ### the draws of data -/
theorem tk (n s c m most : Nat) (S : Sto) (I : In s c m S) (h1 : 1 ≤ most) (h2 : most < 2 ^ 60) (hm : m < 2 ^ 59) :
    ∃ v : Nat, ∃ S', callN T fuel (n + 1) 6 [loc s, .int most] S = .ok (.int v) S' ∧ v < most ∧ In s c (m + 1) S' ∧ S'.length = S.length := take_ok (T := T) (W := fuel) (f := 6) rfl n s c m most S I h1 h2 hm
theorem pow4 (n : Nat) : 1 ≤ 4 ^ n := Nat.pow_pos (by decide)
theorem leaf_ok (lev s c m : Nat) (S : Sto) (I : In s c m S) (hm : m + 10 < 2 ^ 59) (d0 : Option D) (k0 : Option D) : ∃ d m' S', Lf d ∧ In s c m' S' ∧ m' ≤ m + 3 ∧ S'.length = S.length ∧
    evB fuel (callN T fuel (lev + 1)) [.asg (.nm 4) (.lst false [.con (.int 0), .con (.int 1), .neg (.con (.int 1)), .con (.int 10), .con (.int 999999999999), .neg (.con (.int 1000000000000)), .con (.int 9999999999999999)]), .ret (.idx (.lst false [.con .none, .con (.bool true), .con (.bool false), .idx (.var 4) (.call 6 [.var 0, .con (.int 7)]), .idx (.lst false [.con (.str ""), .con (.str "a"), .con (.str "i1;"), .con (.str "(x"), .con (.str "12:")]) (.call 6 [.var 0, .con (.int 5)]), .con (.int 7)]) (.call 6 [.var 0, .con (.int 6)]))]
      [some (loc s), d0, k0, none, none, none] S = .rt d S' := by
  obtain ⟨v7, S1, e7, l7, I1, n1⟩ := tk lev s c m 7 S I (by decide) (by decide) (by omega)
  obtain ⟨v5, S2, e5, l5, I2, n2⟩ := tk lev s c (m + 1) 5 S1 I1 (by decide) (by decide) (by omega)
  obtain ⟨v6, S3, e6, l6, I3, n3⟩ := tk lev s c (m + 2) 6 S2 I2 (by decide) (by decide) (by omega)
  let nums : List D := [.int 0, .int 1, .int (-1), .int 10, .int 999999999999, .int (-1000000000000), .int 9999999999999999]
  let txts : List D := [.str (Str.ofString ""), .str (Str.ofString "a"), .str (Str.ofString "i1;"), .str (Str.ofString "(x"), .str (Str.ofString "12:")]
  have g7 : ∃ i ∈ lints, nums[v7]? = some (.int i) := by
    have : v7 = 0 ∨ v7 = 1 ∨ v7 = 2 ∨ v7 = 3 ∨ v7 = 4 ∨ v7 = 5 ∨ v7 = 6 := by omega
    rcases this with rfl | rfl | rfl | rfl | rfl | rfl | rfl
    · exact ⟨0, by decide, rfl⟩
    · exact ⟨1, by decide, rfl⟩
    · exact ⟨-1, by decide, rfl⟩
    · exact ⟨10, by decide, rfl⟩
    · exact ⟨999999999999, by decide, rfl⟩
    · exact ⟨-1000000000000, by decide, rfl⟩
    · exact ⟨9999999999999999, by decide, rfl⟩
  have g5 : ∃ t ∈ lstrs, txts[v5]? = some (.str (Str.ofString t)) := by
    have : v5 = 0 ∨ v5 = 1 ∨ v5 = 2 ∨ v5 = 3 ∨ v5 = 4 := by omega
    rcases this with rfl | rfl | rfl | rfl | rfl
    · exact ⟨"", by decide, rfl⟩
    · exact ⟨"a", by decide, rfl⟩
    · exact ⟨"i1;", by decide, rfl⟩
    · exact ⟨"(x", by decide, rfl⟩
    · exact ⟨"12:", by decide, rfl⟩
  obtain ⟨i, hi, g7⟩ := g7
  obtain ⟨t, ht, g5⟩ := g5
  have x7 : idxD (.list nums) (.int (v7 : Int)) S1 = .ok (.int i) S1 := ix_lst (atI_nat g7)
  have x5 : idxD (.list txts) (.int (v5 : Int)) S2 = .ok (.str (Str.ofString t)) S2 := ix_lst (atI_nat g5)
  have g6 : ∃ d, Lf d ∧ [PyData.none, .bool true, .bool false, .int i, .str (Str.ofString t), .int 7][v6]? = some d := by
    have : v6 = 0 ∨ v6 = 1 ∨ v6 = 2 ∨ v6 = 3 ∨ v6 = 4 ∨ v6 = 5 := by omega
    rcases this with rfl | rfl | rfl | rfl | rfl | rfl
    · exact ⟨.none, .inl rfl, rfl⟩
    · exact ⟨.bool true, .inr (.inl rfl), rfl⟩
    · exact ⟨.bool false, .inr (.inr (.inl rfl)), rfl⟩
    · exact ⟨.int i, .inr (.inr (.inr (.inl ⟨i, rfl, hi⟩))), rfl⟩
    · exact ⟨.str (Str.ofString t), .inr (.inr (.inr (.inr ⟨t, rfl, ht⟩))), rfl⟩
    · exact ⟨.int 7, .inr (.inr (.inr (.inl ⟨7, rfl, by decide⟩))), rfl⟩
  obtain ⟨d, hd, g6⟩ := g6
  have x6 : idxD (.list [PyData.none, .bool true, .bool false, .int i, .str (Str.ofString t), .int 7]) (.int (v6 : Int)) S3 = .ok d S3 := ix_lst (atI_nat g6)
  refine ⟨d, m + 3, S3, hd, I3, Nat.le_refl _, by rw [n3, n2, n1], ?_⟩
  have m1 := mk_l (xs := nums) (S := S) (by decide)
  have m2 := mk_l (xs := txts) (S := S1) (by decide)
  have m3 := mk_l (xs := [PyData.none, .bool true, .bool false, .int i, .str (Str.ofString t), .int 7]) (S := S2) (size_small (by simp))
  simp [nums, txts] at m1 m2 m3 x7 x5 x6 e7 e5 e6
  simp [m1, e7, x7, m2, e5, x5, m3, e6, x6]
end K51
set_option Elab.async false
set_option linter.all false
set_option maxRecDepth 100000
set_option maxHeartbeats 4000000
namespace K51
set_option autoImplicit false
open PySem L2 Cr PyProof.Rows
open PySem.PyData (strOk)
theorem rng_ok (v : Nat) (S : Sto) (h : v ≤ 1000) : rangeD [.int (v : Int)] S = .ok (.none, rngL 0 v) S := by
  show (if small62 (v : Int) then Out.ok (PyData.none, rngL 0 ((v : Int)).toNat) S else Out.bad) = _
  rw [if_pos (show small62 (v : Int) by unfold small62; omega)]
  rfl
theorem data_ok : ∀ (n lev s c m : Nat) (S : Sto), In s c m S → n ≤ 4 → m + 4 * 4 ^ n < 2 ^ 50 → ∃ d m' S', callN T fuel (lev + n + 2) 8 [loc s, .int (n : Int)] S = .ok d S' ∧ Sh n d ∧ In s c m' S' ∧ m' ≤ m + 4 * 4 ^ n ∧ S'.length = S.length := by
  intro n
  induction n with
  | zero =>
    intro lev s c m S I hn hm
    obtain ⟨v, S1, e1, l1, I1, n1⟩ := tk lev s c m 9 S I (by decide) (by decide) (by omega)
    obtain ⟨d, m', S2, hd, I2, hm2, n2, e2⟩ := leaf_ok lev s c (m + 1) S1 I1 (by omega) (some (.int ((0 : Nat) : Int))) (some (.int (v : Int)))
    refine ⟨d, m', S2, ?_, hd, I2, by omega, by rw [n2, n1]⟩
    rw [show lev + 0 + 2 = (lev + 1) + 1 by omega, call_eq (fn := f8) rfl rfl]
    show fin false S (evB fuel (callN T fuel (lev + 1)) b8 [some (loc s), some (.int ((0 : Nat) : Int)), none, none, none, none] S) = _
    have e1 : callN T fuel (lev + 1) 6 [loc s, .int 9] S = .ok (.int (v : Int)) S1 := e1
    unfold b8
    rw [y_cons]
    simp only [y_asg, x_call, x_cons, x_nil, x_var, x_con, List.getElem?_cons_zero, bind_ok, e1, st_ok, seq_nx, List.set_cons_zero, List.set_cons_succ]
    rw [y_cons, y_ife]
    simp only [x_or, x_cmp, x_var, x_con, List.getElem?_cons_zero, List.getElem?_cons_succ, bind_ok]
    rw [show cmpD .Eq (.int ((0 : Nat) : Int)) (.int 0) S1 = .ok (.bool true) S1 from eq_i]
    rw [bind_ok, onB_true, st_ok, onS_true, e2]
    simp
  | succ n ih =>
    intro lev s c m S I hn hm
    have hp := pow4 n
    rw [Nat.pow_succ] at hm ⊢
    obtain ⟨v, S1, e1, l1, I1, n1⟩ := tk (lev + n + 1) s c m 9 S I (by decide) (by decide) (by omega)
    rw [show lev + (n + 1) + 2 = (lev + n + 2) + 1 by omega, call_eq (fn := f8) rfl rfl]
    show ∃ d m' S', fin false S (evB fuel (callN T fuel (lev + n + 2)) b8 [some (loc s), some (.int ((n + 1 : Nat) : Int)), none, none, none, none] S) = .ok d S' ∧ _
    have e1 : callN T fuel (lev + n + 2) 6 [loc s, .int 9] S = .ok (.int (v : Int)) S1 := e1
    by_cases hk : (v : Int) < 6
    · obtain ⟨d, m', S2, hd, I2, hm2, n2, e2⟩ := leaf_ok (lev + n + 1) s c (m + 1) S1 I1 (by omega) (some (.int ((n + 1 : Nat) : Int))) (some (.int (v : Int)))
      refine ⟨d, m', S2, ?_, .leaf hd, I2, by omega, by rw [n2, n1]⟩
      unfold b8
      rw [y_cons]
      simp only [y_asg, x_call, x_cons, x_nil, x_var, x_con, List.getElem?_cons_zero, bind_ok, e1, st_ok, seq_nx, List.set_cons_zero, List.set_cons_succ]
      rw [y_cons, y_ife]
      simp only [x_or, x_cmp, x_var, x_con, List.getElem?_cons_zero, List.getElem?_cons_succ, bind_ok]
      rw [show cmpD .Eq (.int ((n + 1 : Nat) : Int)) (.int 0) S1 = .ok (.bool false) S1 by rw [eq_i, decide_eq_false (by omega)]]
      rw [bind_ok, onB_false, show cmpD .Lt (.int (v : Int)) (.int 6) S1 = .ok (.bool true) S1 by rw [lt_i, decide_eq_true hk], st_ok, onS_true, e2]
      simp
    · obtain ⟨w, S2, e2, l2, I2, n2⟩ := tk (lev + n + 1) s c (m + 1) 4 S1 I1 (by decide) (by decide) (by omega)
      have e2 : callN T fuel (lev + n + 2) 6 [loc s, .int 4] S1 = .ok (.int (w : Int)) S2 := e2
      obtain ⟨ys, S3, e3, hy, hP, ⟨m3, hm3, I3, n3⟩⟩ := lcL_inv (d := .none) (all := rngL 0 w) (step := trn (callN T fuel (lev + n + 2)) true [5] false [] (.call 8 [.var 0, .bop .Sub (.var 1) (.con (.int 1))]) [some (loc s), some (.int ((n + 1 : Nat) : Int)), some (.int (v : Int)), none, none, none]) (fun _ => stays_non)
        (fun xs S => ∃ m', m' + 4 * 4 ^ n * xs.length ≤ m + 2 + 4 * 4 ^ n * 3 ∧ In s c m' S ∧ S.length = S2.length) (Sh n) (rngL 0 w) S2 ⟨m + 2, by
          have lr : (rngL 0 w).length = w := by simp [rngL]
          rw [lr]
          have := Nat.mul_le_mul_left (4 * 4 ^ n) (by omega : w ≤ 3)
          omega, I2, rfl⟩ (by
        rintro x xs S ⟨m', hm', I', n'⟩
        rw [List.length_cons, Nat.mul_add, Nat.mul_one] at hm'
        obtain ⟨d, m2, S', e, h, I2', hm2, n2'⟩ := ih lev s c m' S I' (by omega) (by
          have : m' ≤ m + 2 + 4 * 4 ^ n * 3 := by omega
          omega)
        refine ⟨d, S', ?_, h, m2, by omega, I2', by rw [n2', n']⟩
        have hs : ((n + 1 : Nat) : Int) - 1 = (n : Int) := by omega
        simp at hs
        simp [trn, bndT, setAll, wipF, hs, e])
      have lr : (rngL 0 w).length = w := by simp [rngL]
      have hz : (rngL 0 w).length ≤ sizeLine := by rw [lr]; exact size_small (by omega)
      have hyl : ys.length ≤ 3 := by rw [hy, lr]; omega
      have mk := mk_l (xs := ys) (S := S3) (size_small (by omega))
      have rg := rng_ok w S2 (by omega)
      have q1 : cmpD .Eq (.int ((n + 1 : Nat) : Int)) (.int 0) S1 = .ok (.bool false) S1 := by rw [eq_i, decide_eq_false (by omega)]
      have q2 : cmpD .Lt (.int (v : Int)) (.int 6) S1 = .ok (.bool false) S1 := by rw [lt_i, decide_eq_false hk]
      have c1 : evB fuel (callN T fuel (lev + n + 2)) b8 [some (loc s), some (.int ((n + 1 : Nat) : Int)), none, none, none, none] S = (if v < 8 then .rt (.tuple ys) S3 else .rt (.list ys) S3) := by
        unfold b8
        rw [y_cons]
        simp only [y_asg, x_call, x_cons, x_nil, x_var, x_con, List.getElem?_cons_zero, bind_ok, e1, st_ok, seq_nx, List.set_cons_zero, List.set_cons_succ]
        rw [y_cons, y_ife]
        simp only [x_or, x_cmp, x_var, x_con, List.getElem?_cons_zero, List.getElem?_cons_succ, bind_ok, q1, onB_false, q2, st_ok, onS_false, y_nil, seq_nx]
        rw [y_cons]
        simp only [y_asg, x_lcg, x_call, x_cons, x_nil, x_var, x_con, List.getElem?_cons_zero, List.getElem?_cons_succ, bind_ok, e2, it_t, rg, if_pos hz, e3, mk, st_ok, seq_nx, List.set_cons_zero, List.set_cons_succ]
        have h8 : ((v : Int) < 8) ↔ v < 8 := by omega
        by_cases h : v < 8
        · simp [h8, h]
        · simp [h8, h]
      rw [c1]
      have hm3 : m3 ≤ m + 2 + 4 * 4 ^ n * 3 := by simpa using hm3
      by_cases h : v < 8
      · rw [if_pos h]
        exact ⟨.tuple ys, m3, S3, by simp, .inr ⟨ys, hyl, .inr rfl, hP⟩, I3, by omega, by rw [n3, n2, n1]⟩
      · rw [if_neg h]
        exact ⟨.list ys, m3, S3, by simp, .inr ⟨ys, hyl, .inl rfl, hP⟩, I3, by omega, by rw [n3, n2, n1]⟩
end K51
set_option Elab.async false
set_option linter.all false
set_option maxRecDepth 100000
set_option maxHeartbeats 4000000
namespace K51
set_option autoImplicit false
open PySem L2 Cr PyProof.Rows
open PySem.PyData (strOk)
def turnB : List CS := [.asg (.nm 6) (.call 6 [.var 1, .bop .Add (.blt .len [.var 4]) (.con (.int 1))]), .asg (.nm 7) (.idx (.lst false [.con (.str ""), .con (.str "z"), .con (.str "i"), .con (.str "1"), .con (.str "-"), .con (.str "0"), .con (.str ";"), .con (.str "t"), .con (.str ":"), .con (.str "("), .con (.str ")"), .con (.str "["), .con (.str "]"), .con (.str "x")]) (.call 6 [.var 1, .con (.int 14)])), .asg (.nm 8) (.bop .Add (.bop .Add (.sli (.var 4) none (some (.var 6))) (.var 7)) (.sli (.var 4) (some (.bop .Add (.var 6) (.call 6 [.var 1, .con (.int 2)]))) none)), .asg (.nm 9) (.call 13 [.var 8]), .ife (.cmp .Eq (.idx (.var 9) (.con (.int 0))) (.con (.str "wrong"))) [.asg (.nm 9) (.bop .Add (.var 9) (.tup [.con (.bool true)]))] [], .ife (.cmp .NotEq (.blt .repr [.call 14 [.var 8]]) (.blt .repr [.var 9])) [.ret (.con (.bool false))] []]
def pcs : List String := ["", "z", "i", "1", "-", "0", ";", "t", ":", "(", ")", "[", "]", "x"]
theorem pcs_ok : ∀ s ∈ pcs, s.length ≤ 1 ∧ cnt (codes s) ≤ 1 := by decide +kernel
/-- the two readers of any text agree -/
theorem both {l : List Nat} (hz : l.length ≤ 10000) (ok : okL l) (hb : cnt l ≤ 58) (S : Sto) : ∃ e due : D, callN T fuel 200 14 [.str (sc l)] S = .ok e S ∧ callN T fuel 200 13 [.str (sc l)] S = .ok due S ∧ pl 62 e = true ∧ e.showable = true ∧ e.shown.length ≤ sizeLine ∧
    ((∃ x, due = .tuple [.str "wrong", x] ∧ e = .tuple [.str "wrong", x, .bool true]) ∨ ∃ d, due = .tuple [.str "data", d] ∧ e = due) := by
  obtain ⟨r, hr⟩ := rd_some (l := l) 60 0 (Nat.zero_le _) (by rw [br_cnt]; omega)
  have hf : l.length + 1 < fuel := by unfold fuel; omega
  have e1 := r_told l (by omega) ok hf 60 78 r S hr
  have e2 := r_due l (by omega) ok 60 79 r S hr
  obtain ⟨h1, h2, h3⟩ := end_ok ok (by omega) (n := 60) (by decide) hr (fun p hp => by subst hp; have := rd_wr (Nat.zero_le _) hr; omega)
  refine ⟨_, _, e1, e2, h1, h2, h3, ?_⟩
  cases r with
  | ok d q =>
    unfold endL endP
    dsimp only
    split
    · exact .inl ⟨_, rfl, rfl⟩
    · exact .inr ⟨_, rfl, rfl⟩
  | wr p => exact .inl ⟨_, rfl, rfl⟩
theorem turn_ok (L dd kk : D) (s c m : Nat) (l : List Nat) (hz : l.length ≤ 6000) (ok : okL l) (hb : cnt l ≤ 40) (S : Sto) (I : In s c m S) (hm : m + 10 < 2 ^ 50) (x o6 o7 o8 o9 : Option D) :
    ∃ p6 p7 p8 p9 S', evB fuel (callN T fuel 200) turnB [some L, some (loc s), some dd, some kk, some (.str (sc l)), x, o6, o7, o8, o9] S = .nx [some L, some (loc s), some dd, some kk, some (.str (sc l)), x, p6, p7, p8, p9] S' ∧ In s c (m + 3) S' := by
  have hsz : (100000 : Nat) ≤ sizeLine := by decide
  obtain ⟨at_, S1, e1, l1, I1, n1⟩ := tk 199 s c m (l.length + 1) S I (by omega) (by omega) (by omega)
  obtain ⟨v, S2, e2, l2, I2, n2⟩ := tk 199 s c (m + 1) 14 S1 I1 (by decide) (by decide) (by omega)
  obtain ⟨w, S3, e3, l3, I3, n3⟩ := tk 199 s c (m + 2) 2 S2 I2 (by decide) (by decide) (by omega)
  have e1 : callN T fuel 200 6 [loc s, .int ((l.length : Int) + 1)] S = .ok (.int (at_ : Int)) S1 := e1
  have e2 : callN T fuel 200 6 [loc s, .int 14] S1 = .ok (.int (v : Int)) S2 := e2
  have e3 : callN T fuel 200 6 [loc s, .int 2] S2 = .ok (.int (w : Int)) S3 := e3
  have lp : pcs.length = 14 := rfl
  obtain ⟨pc, hpc, hpv⟩ : ∃ pc ∈ pcs, (pcs.map fun t => PyData.str (Str.ofString t))[v]? = some (.str (Str.ofString pc)) :=
    ⟨pcs[v]'(by rw [lp]; exact l2), List.getElem_mem _, by rw [List.getElem?_map, List.getElem?_eq_getElem (by rw [lp]; exact l2)]; rfl⟩
  obtain ⟨hp1, hp2⟩ := pcs_ok pc hpc
  have mkp := mk_l (xs := pcs.map fun t => PyData.str (Str.ofString t)) (S := S1) (by decide)
  have ixp : idxD (.list (pcs.map fun t => PyData.str (Str.ofString t))) (.int (v : Int)) S2 = .ok (.str (Str.ofString pc)) S2 := ix_lst (atI_nat hpv)
  have el := len_sc (l := l) (S := S) (by omega)
  have lpc : (codes pc).length ≤ 1 := by rw [codes_len]; exact hp1
  have eo : Str.ofString pc = sc (codes pc) := lit pc
  have s1 := sli_to (l := l) (q := at_) (S := S2) (by omega)
  have c1 := cat_sc (a := l.take at_) (b := codes pc) (S := S2) (by rw [List.length_take]; omega)
  have s2 := sli_from (l := l) (p := at_ + w) (S := S3) (by omega)
  have c2 := cat_sc (a := l.take at_ ++ codes pc) (b := l.drop (at_ + w)) (S := S3) (by rw [List.length_append, List.length_take, List.length_drop]; omega)
  obtain ⟨o, ho⟩ : ∃ o, o = l.take at_ ++ codes pc ++ l.drop (at_ + w) := ⟨_, rfl⟩
  have ook : okL o := by rw [ho]; exact okL_app (okL_app (okL_take ok _) (codes_ok pc)) (okL_drop ok _)
  have olen : o.length ≤ 10000 := by rw [ho, List.length_append, List.length_append, List.length_take, List.length_drop]; omega
  have ocnt : cnt o ≤ 58 := by
    rw [ho]
    have a1 := cnt_app (l.take at_ ++ codes pc) (l.drop (at_ + w))
    have a2 := cnt_app (l.take at_) (codes pc)
    have a3 := cnt_app' (l.take at_) (l.drop at_)
    rw [List.take_append_drop] at a3
    have a4 := cnt_drop w (l.drop at_)
    rw [List.drop_drop] at a4
    omega
  rw [← ho] at c2
  obtain ⟨e, due, r1, r2, h1, h2, h3, h4⟩ := both olen ook ocnt S3
  have rp := repr_ok (S := S3) h1 (by decide) h2 h3
  have nn := ne_self (n := 0) (d := .str e.shown) (S := S3) (by rw [pl_str]; exact shown_ok e (pl_lay h1))
  have hpcs : (pcs.map fun t => PyData.str (Str.ofString t)) = [.str (Str.ofString ""), .str (Str.ofString "z"), .str (Str.ofString "i"), .str (Str.ofString "1"), .str (Str.ofString "-"), .str (Str.ofString "0"), .str (Str.ofString ";"), .str (Str.ofString "t"), .str (Str.ofString ":"), .str (Str.ofString "("), .str (Str.ofString ")"), .str (Str.ofString "["), .str (Str.ofString "]"), .str (Str.ofString "x")] := rfl
  rw [hpcs] at mkp ixp
  rw [eo] at ixp
  rw [Int.natCast_add] at s2
  refine ⟨some (.int (at_ : Int)), some (.str (sc (codes pc))), some (.str (sc o)), some e, S3, ?_, I3⟩
  have b1 : evS fuel (callN T fuel 200) (.asg (.nm 6) (.call 6 [.var 1, .bop .Add (.blt .len [.var 4]) (.con (.int 1))])) [some L, some (loc s), some dd, some kk, some (.str (sc l)), x, o6, o7, o8, o9] S = .nx [some L, some (loc s), some dd, some kk, some (.str (sc l)), x, some (.int (at_ : Int)), o7, o8, o9] S1 := by
    simp [el, e1]
  have b2 : evS fuel (callN T fuel 200) (.asg (.nm 7) (.idx (.lst false [.con (.str ""), .con (.str "z"), .con (.str "i"), .con (.str "1"), .con (.str "-"), .con (.str "0"), .con (.str ";"), .con (.str "t"), .con (.str ":"), .con (.str "("), .con (.str ")"), .con (.str "["), .con (.str "]"), .con (.str "x")]) (.call 6 [.var 1, .con (.int 14)]))) [some L, some (loc s), some dd, some kk, some (.str (sc l)), x, some (.int (at_ : Int)), o7, o8, o9] S1 = .nx [some L, some (loc s), some dd, some kk, some (.str (sc l)), x, some (.int (at_ : Int)), some (.str (sc (codes pc))), o8, o9] S2 := by
    simp only [y_asg, x_idx, x_lst, x_cons, x_nil, x_con, bind_ok, mkp, x_call, x_var, List.getElem?_cons_zero, List.getElem?_cons_succ, e2, ixp, st_ok, List.set_cons_zero, List.set_cons_succ]
  have b3 : evS fuel (callN T fuel 200) (.asg (.nm 8) (.bop .Add (.bop .Add (.sli (.var 4) none (some (.var 6))) (.var 7)) (.sli (.var 4) (some (.bop .Add (.var 6) (.call 6 [.var 1, .con (.int 2)]))) none))) [some L, some (loc s), some dd, some kk, some (.str (sc l)), x, some (.int (at_ : Int)), some (.str (sc (codes pc))), o8, o9] S2 = .nx [some L, some (loc s), some dd, some kk, some (.str (sc l)), x, some (.int (at_ : Int)), some (.str (sc (codes pc))), some (.str (sc o)), o9] S3 := by
    simp only [y_asg, x_bop, x_sli, x_onone, x_osome, x_cons, x_nil, x_con, bind_ok, x_call, x_var, List.getElem?_cons_zero, List.getElem?_cons_succ, prt_i, s1, c1, e3, add_i, s2, c2, st_ok, List.set_cons_zero, List.set_cons_succ]
  have b4 : evS fuel (callN T fuel 200) (.asg (.nm 9) (.call 13 [.var 8])) [some L, some (loc s), some dd, some kk, some (.str (sc l)), x, some (.int (at_ : Int)), some (.str (sc (codes pc))), some (.str (sc o)), o9] S3 = .nx [some L, some (loc s), some dd, some kk, some (.str (sc l)), x, some (.int (at_ : Int)), some (.str (sc (codes pc))), some (.str (sc o)), some due] S3 := by
    simp [r2]
  have b5 : evS fuel (callN T fuel 200) (.ife (.cmp .Eq (.idx (.var 9) (.con (.int 0))) (.con (.str "wrong"))) [.asg (.nm 9) (.bop .Add (.var 9) (.tup [.con (.bool true)]))] []) [some L, some (loc s), some dd, some kk, some (.str (sc l)), x, some (.int (at_ : Int)), some (.str (sc (codes pc))), some (.str (sc o)), some due] S3 = .nx [some L, some (loc s), some dd, some kk, some (.str (sc l)), x, some (.int (at_ : Int)), some (.str (sc (codes pc))), some (.str (sc o)), some e] S3 := by
    rcases h4 with ⟨y, rfl, rfl⟩ | ⟨y, rfl, rfl⟩
    · have ct := cat_t (a := [.str "wrong", y]) (b := [.bool true]) (S := S3) (size_small (by simp))
      simp at ct
      simp [ct]
    · simp
  have b6 : evS fuel (callN T fuel 200) (.ife (.cmp .NotEq (.blt .repr [.call 14 [.var 8]]) (.blt .repr [.var 9])) [.ret (.con (.bool false))] []) [some L, some (loc s), some dd, some kk, some (.str (sc l)), x, some (.int (at_ : Int)), some (.str (sc (codes pc))), some (.str (sc o)), some e] S3 = .nx [some L, some (loc s), some dd, some kk, some (.str (sc l)), x, some (.int (at_ : Int)), some (.str (sc (codes pc))), some (.str (sc o)), some e] S3 := by
    simp [r1, rp, nn]
  unfold turnB
  rw [y_cons, b1, seq_nx, y_cons, b2, seq_nx, y_cons, b3, seq_nx, y_cons, b4, seq_nx, y_cons, b5, seq_nx, y_cons, b6, seq_nx, y_nil]
theorem b15_eq : b15 = [.asg (.nm 1) (.call 5 [.var 0]), .asg (.nm 2) (.call 8 [.var 1, .con (.int 4)]), .asg (.nm 3) (.blt .repr [.var 2]), .asg (.nm 4) (.call 0 [.var 2]),
  .ife (.or (.cmp .NotEq (.var 4) (.call 9 [.var 2])) (.or (.cmp .NotEq (.blt .repr [.call 4 [.var 4]]) (.var 3)) (.cmp .NotEq (.blt .repr [.var 2]) (.var 3)))) [.ret (.con (.bool false))] [], .frr (.nm 5) [.con (.int 6)] turnB, .ret (.con (.bool true))] := rfl
theorem law_true : ∀ ns : List Int, ns.length ≤ 63 → (∀ z ∈ ns, Builtin.Int.intBits z ≤ 1048576) → ∃ S, callN T fuel (200 + 1) 15 [.list (ns.map PyData.int)] [] = .ok (.bool true) S := by
  intro ns hn _
  rw [call_eq (fn := f15) rfl rfl]
  show ∃ S, fin false [] (evB fuel (callN T fuel 200) b15 (start0 10 [.list (ns.map PyData.int)]) []) = _
  generalize hL : PyData.list (ns.map PyData.int) = L
  obtain ⟨s, c, S1, e1, I1⟩ := state_ok (T := T) (W := fuel) (f := 5) rfl 199 ns hn
  have e1 : callN T fuel 200 5 [L] [] = .ok (loc s) S1 := by rw [← hL]; exact e1
  obtain ⟨d, m, S2, e2, hd, I2, hm, n2⟩ := data_ok 4 194 s c 0 S1 I1 (by decide) (by decide)
  have e2 : callN T fuel 200 8 [loc s, .int 4] S1 = .ok d S2 := e2
  have hm : m ≤ 1024 := by simpa using hm
  obtain ⟨h1, h2, h3⟩ := sh_ok 4 d hd
  have h3 : d.shown.length ≤ 20000 := by
    have : (60 * 4 ^ 4 : Nat) = 15360 := by decide
    omega
  have e3 := repr_ok (S := S2) h1 (by decide) h2 (Nat.le_trans h3 (by decide))
  have e4 : callN T fuel 200 0 [d] S2 = .ok (.str (sc (enc d))) S2 := r_enc 4 d hd (by decide) 195 S2
  have e5 : callN T fuel 200 9 [d] S2 = .ok (.str (sc (enc d))) S2 := r_form 4 d hd (by decide) 195 S2
  have hlen := enc_len 4 d hd
  have hlen : (enc d).length ≤ 5120 := by simpa using hlen
  have hok := enc_ok 4 d hd
  have hcnt := cnt_enc 4 d hd
  have hcnt : cnt (enc d) ≤ 40 := by
    have : (3 ^ 4 : Nat) = 81 := by decide
    omega
  have hrt := rt 4 d hd [] [] 60 (by decide)
  simp at hrt
  have hdec := r_decode (enc d) (by omega) hok (by unfold fuel; omega) 60 79 _ S2 hrt
  dsimp only at hdec
  rw [if_neg (Nat.lt_irrefl _)] at hdec
  have e6 : callN T fuel 200 4 [.str (sc (enc d))] S2 = .ok d S2 := hdec
  have n1 := ne_self (n := 0) (d := .str (sc (enc d))) (S := S2) (by rw [pl_str]; exact ok_sc hok)
  have n3 := ne_self (n := 0) (d := .str d.shown) (S := S2) (by rw [pl_str]; exact shown_ok d (pl_lay h1))
  have lr : (rngL 0 6).length = 6 := by simp [rngL]
  obtain ⟨σ', S3, e7, ⟨m3, _, I3⟩, p5, p6, p7, p8, p9, rfl⟩ := frL_inv (d := .none) (all := rngL 0 6) (step := fun x σ1 S2 => (evG (callN T fuel 200) (.nm 5) x σ1 S2).seq (evB fuel (callN T fuel 200) turnB)) (fun _ => stays_non)
    (fun xs σ S => (∃ m', m' + 3 * xs.length ≤ m + 100 ∧ In s c m' S) ∧ ∃ p5 p6 p7 p8 p9 : Option D, σ = [some L, some (loc s), some d, some (.str d.shown), some (.str (sc (enc d))), p5, p6, p7, p8, p9])
    (rngL 0 6) [some L, some (loc s), some d, some (.str d.shown), some (.str (sc (enc d))), none, none, none, none, none] S2 ⟨⟨m, by rw [lr]; omega, I2⟩, _, _, _, _, _, rfl⟩ (by
      rintro x xs σ S ⟨⟨m', hm', I⟩, p5, p6, p7, p8, p9, rfl⟩
      rw [List.length_cons] at hm'
      obtain ⟨q6, q7, q8, q9, S', e, I'⟩ := turn_ok L d (.str d.shown) s c m' (enc d) (by omega) hok hcnt S I (by omega) (some x) p6 p7 p8 p9
      refine ⟨_, S', ?_, ⟨m' + 3, by omega, I'⟩, some x, q6, q7, q8, q9, rfl⟩
      rw [y_gnm, seq_nx]
      exact e)
  refine ⟨S3, ?_⟩
  have t1 : evS fuel (callN T fuel 200) (.asg (.nm 1) (.call 5 [.var 0])) (start0 10 [L]) [] = .nx [some L, some (loc s), none, none, none, none, none, none, none, none] S1 := by
    simp [start0, e1]
  have t2 : evS fuel (callN T fuel 200) (.asg (.nm 2) (.call 8 [.var 1, .con (.int 4)])) [some L, some (loc s), none, none, none, none, none, none, none, none] S1 = .nx [some L, some (loc s), some d, none, none, none, none, none, none, none] S2 := by
    simp [e2]
  have t3 : evS fuel (callN T fuel 200) (.asg (.nm 3) (.blt .repr [.var 2])) [some L, some (loc s), some d, none, none, none, none, none, none, none] S2 = .nx [some L, some (loc s), some d, some (.str d.shown), none, none, none, none, none, none] S2 := by
    simp [e3]
  have t4 : evS fuel (callN T fuel 200) (.asg (.nm 4) (.call 0 [.var 2])) [some L, some (loc s), some d, some (.str d.shown), none, none, none, none, none, none] S2 = .nx [some L, some (loc s), some d, some (.str d.shown), some (.str (sc (enc d))), none, none, none, none, none] S2 := by
    simp [e4]
  have t5 : evS fuel (callN T fuel 200) (.ife (.or (.cmp .NotEq (.var 4) (.call 9 [.var 2])) (.or (.cmp .NotEq (.blt .repr [.call 4 [.var 4]]) (.var 3)) (.cmp .NotEq (.blt .repr [.var 2]) (.var 3)))) [.ret (.con (.bool false))] []) [some L, some (loc s), some d, some (.str d.shown), some (.str (sc (enc d))), none, none, none, none, none] S2 = .nx [some L, some (loc s), some d, some (.str d.shown), some (.str (sc (enc d))), none, none, none, none, none] S2 := by
    simp [e5, n1, e6, e3, n3]
  have hr : rangeD [.int 6] S2 = .ok (.none, rngL 0 6) S2 := rng_ok 6 S2 (by decide)
  have t6 : evS fuel (callN T fuel 200) (.frr (.nm 5) [.con (.int 6)] turnB) [some L, some (loc s), some d, some (.str d.shown), some (.str (sc (enc d))), none, none, none, none, none] S2 = .nx [some L, some (loc s), some d, some (.str d.shown), some (.str (sc (enc d))), p5, p6, p7, p8, p9] S3 := by
    have h : ((evEs (callN T fuel 200) [.con (.int 6)] [some L, some (loc s), some d, some (.str d.shown), some (.str (sc (enc d))), none, none, none, none, none] S2).bind fun x S1 => rangeD x S1) = .ok (.none, rngL 0 6) S2 := by simp [hr]
    rw [y_frr, h, st_ok]
    exact e7
  rw [b15_eq, y_cons, t1, seq_nx, y_cons, t2, seq_nx, y_cons, t3, seq_nx, y_cons, t4, seq_nx, y_cons, t5, seq_nx, y_cons, t6, seq_nx]
  simp
end K51
set_option Elab.async false
set_option linter.all false
set_option maxRecDepth 100000
namespace K51
open PySem L2 Cr PyProof.Rows
def cn (c : Nat) : Str := match c with
  | 0 => "FlowError"
  | 1 => "FormError"
  | _ => Str.empty
theorem all_mk {P : Program} {w : World} {K : PySem.W.Frag} {h : Heap} {mg : Str → Option Value} (X : K.In h) (G_ : h.Ns mainGlobals mg) {q0 q1 q2 q3 q4 q5 q6 q7 q8 q9 q10 q11 q12 q13 q14 q15 C0 C1 I1 : Addr} {t0 : Tok} {t1 : Tok}
    (n0 : PySem.W.nsIn K mainGlobals "FlowError" = some (some (.ref C0)))
    (n1 : PySem.W.nsIn K mainGlobals "FormError" = some (some (.ref C1)))
    (a0 : PySem.W.nsIn K mainGlobals "encode" = some (some (.ref q0)))
    (o0 : obsF K q0 = obsW "encode" "encode" (top 6))
    (c0 : codB K q0 "encode" = true)
    (a1 : PySem.W.nsIn K mainGlobals "_number" = some (some (.ref q1)))
    (o1 : obsF K q1 = obsW "_number" "_number" (top 7))
    (c1 : codB K q1 "_number" = true)
    (a2 : PySem.W.nsIn K mainGlobals "_parts" = some (some (.ref q2)))
    (o2 : obsF K q2 = obsW "_parts" "_parts" (top 8))
    (c2 : codB K q2 "_parts" = true)
    (a3 : PySem.W.nsIn K mainGlobals "read" = some (some (.ref q3)))
    (o3 : obsF K q3 = obsW "read" "read" (top 9))
    (c3 : codB K q3 "read" = true)
    (a4 : PySem.W.nsIn K mainGlobals "decode" = some (some (.ref q4)))
    (o4 : obsF K q4 = obsW "decode" "decode" (top 10))
    (c4 : codB K q4 "decode" = true)
    (a5 : PySem.W.nsIn K mainGlobals "_law_state" = some (some (.ref q5)))
    (o5 : obsF K q5 = obsW "_law_state" "_law_state" (top 12))
    (c5 : codB K q5 "_law_state" = true)
    (a6 : PySem.W.nsIn K mainGlobals "_law_take" = some (some (.ref q6)))
    (o6 : obsF K q6 = obsW "_law_take" "_law_take" (top 13))
    (c6 : codB K q6 "_law_take" = true)
    (a7 : PySem.W.nsIn K mainGlobals "_law_bits" = some (some (.ref q7)))
    (o7 : obsF K q7 = obsW "_law_bits" "_law_bits" (top 14))
    (c7 : codB K q7 "_law_bits" = true)
    (a8 : PySem.W.nsIn K mainGlobals "_law_data" = some (some (.ref q8)))
    (o8 : obsF K q8 = obsW "_law_data" "_law_data" (top 15))
    (c8 : codB K q8 "_law_data" = true)
    (a9 : PySem.W.nsIn K mainGlobals "_law_form" = some (some (.ref q9)))
    (o9 : obsF K q9 = obsW "_law_form" "_law_form" (top 16))
    (c9 : codB K q9 "_law_form" = true)
    (a10 : PySem.W.nsIn K mainGlobals "_law_number" = some (some (.ref q10)))
    (o10 : obsF K q10 = obsW "_law_number" "_law_number" (top 17))
    (c10 : codB K q10 "_law_number" = true)
    (a11 : PySem.W.nsIn K mainGlobals "_law_read" = some (some (.ref q11)))
    (o11 : obsF K q11 = obsW "_law_read" "_law_read" (top 18))
    (c11 : codB K q11 "_law_read" = true)
    (a12 : PySem.W.nsIn K mainGlobals "_law_items" = some (some (.ref q12)))
    (o12 : obsF K q12 = obsW "_law_items" "_law_items" (top 19))
    (c12 : codB K q12 "_law_items" = true)
    (a13 : PySem.W.nsIn K mainGlobals "_law_due" = some (some (.ref q13)))
    (o13 : obsF K q13 = obsW "_law_due" "_law_due" (top 20))
    (c13 : codB K q13 "_law_due" = true)
    (a14 : PySem.W.nsIn K mainGlobals "_law_told" = some (some (.ref q14)))
    (o14 : obsF K q14 = obsW "_law_told" "_law_told" (top 21))
    (c14 : codB K q14 "_law_told" = true)
    (a15 : PySem.W.nsIn K mainGlobals "law" = some (some (.ref q15)))
    (o15 : obsF K q15 = obsW "law" "law" (top 22))
    (c15 : codB K q15 "law" = true)
    (ei1 : PySem.W.findIn K (.ref C1) "__init__" = some (some (.ref I1)))
    (eo1 : obsF K I1 = obsW "__init__" "FormError.__init__" (mtd 2 0))
    (ec1 : codB K I1 "FormError.__init__" = true)
    (ex1 : oexB K C1 I1 = true)
    (eb1 : binB K C0 = true)
    (en1 : nosB K C1 ["at"] = true)
    (xe1 : excB K C1 = true)
    (ct1_1 : catB K C1 C1 true = true)
    (ct0_1 : catB K C1 C0 true = true)
    (xf1 : nosB K C1 ["at"] = true)
    (gg0 : PySem.W.nsIn K mainGlobals "DIGITS" = some (some (.str "0123456789" t0)))
    (gg1 : PySem.W.nsIn K mainGlobals "MOST_NUMBER" = some (some (.int 16 t1)))
    (zb0 : PySem.W.nsIn K mainGlobals "abs" = some none)
    (zb1 : PySem.W.nsIn K mainGlobals "int" = some none)
    (zb2 : PySem.W.nsIn K mainGlobals "str" = some none)
    (zb3 : PySem.W.nsIn K mainGlobals "len" = some none)
    (zb4 : PySem.W.nsIn K mainGlobals "tuple" = some none)
    (zb5 : PySem.W.nsIn K mainGlobals "list" = some none)
    (zb6 : PySem.W.nsIn K mainGlobals "repr" = some none)
    (zb7 : PySem.W.nsIn K mainGlobals "max" = some none)
    (zb8 : PySem.W.nsIn K mainGlobals "min" = some none)
    (zb9 : PySem.W.nsIn K mainGlobals "all" = some none)
    (zb10 : PySem.W.nsIn K mainGlobals "any" = some none)
    (zb11 : PySem.W.nsIn K mainGlobals "sorted" = some none)
    (zb12 : PySem.W.nsIn K mainGlobals "range" = some none)
    (zb13 : PySem.W.nsIn K mainGlobals "isinstance" = some none)
    (zb14 : PySem.W.nsIn K mainGlobals "bool" = some none)
    (zb15 : PySem.W.nsIn K mainGlobals "dict" = some none)
    (zb16 : PySem.W.nsIn K mainGlobals "set" = some none)
    (zb17 : PySem.W.nsIn K mainGlobals "ord" = some none)
    : Prg P w K mg (adOf cn mg) T G := by
  have N0 := PySem.W.mg_of X G_ n0
  have A0 : adOf cn mg 0 = C0 := adOf_eq (x := "FlowError") rfl N0
  have N1 := PySem.W.mg_of X G_ n1
  have A1 : adOf cn mg 1 = C1 := adOf_eq (x := "FormError") rfl N1
  have D0 : DatOk K mg "DIGITS" (.str "0123456789") := ⟨(.str "0123456789" : V), _, PySem.W.mg_of X G_ gg0, ⟨_, rfl⟩, fun ρ H => rfl⟩
  have D1 : DatOk K mg "MOST_NUMBER" (.int 16) := ⟨(.int 16 : V), _, PySem.W.mg_of X G_ gg1, ⟨_, rfl⟩, fun ρ H => rfl⟩
  have M0 : DefAt K cx0 f0 "encode" "encode" q0 := defAt_by (ps := ["data"]) o0 c0 s0 rfl k0 rfl (by decide) rfl rfl (fun _ _ _ _ _ _ us hl => match us, hl with | [_], _ => rfl)
  have M1 : DefAt K cx1 f1 "_number" "_number" q1 := defAt_by (ps := ["text", "at", "end"]) o1 c1 s1 rfl k1 rfl (by decide) rfl rfl (fun _ _ _ _ _ _ us hl => match us, hl with | [_, _, _], _ => rfl)
  have M2 : DefAt K cx2 f2 "_parts" "_parts" q2 := defAt_by (ps := ["text", "at", "end"]) o2 c2 s2 rfl k2 rfl (by decide) rfl rfl (fun _ _ _ _ _ _ us hl => match us, hl with | [_, _, _], _ => rfl)
  have M3 : DefAt K cx3 f3 "read" "read" q3 := defAt_by (ps := ["text", "at"]) o3 c3 s3 rfl k3 rfl (by decide) rfl rfl (fun _ _ _ _ _ _ us hl => match us, hl with | [_, _], _ => rfl)
  have M4 : DefAt K cx4 f4 "decode" "decode" q4 := defAt_by (ps := ["text"]) o4 c4 s4 rfl k4 rfl (by decide) rfl rfl (fun _ _ _ _ _ _ us hl => match us, hl with | [_], _ => rfl)
  have M5 : DefAt K cx5 f5 "_law_state" "_law_state" q5 := defAt_by (ps := ["_law_script"]) o5 c5 s5 rfl k5 rfl (by decide) rfl rfl (fun _ _ _ _ _ _ us hl => match us, hl with | [_], _ => rfl)
  have M6 : DefAt K cx6 f6 "_law_take" "_law_take" q6 := defAt_by (ps := ["_law_state_here", "_law_most"]) o6 c6 s6 rfl k6 rfl (by decide) rfl rfl (fun _ _ _ _ _ _ us hl => match us, hl with | [_, _], _ => rfl)
  have M7 : DefAt K cx7 f7 "_law_bits" "_law_bits" q7 := defAt_by (ps := ["_law_state_here", "_law_count"]) o7 c7 s7 rfl k7 rfl (by decide) rfl rfl (fun _ _ _ _ _ _ us hl => match us, hl with | [_, _], _ => rfl)
  have M8 : DefAt K cx8 f8 "_law_data" "_law_data" q8 := defAt_by (ps := ["_law_state_here", "_law_deep"]) o8 c8 s8 rfl k8 rfl (by decide) rfl rfl (fun _ _ _ _ _ _ us hl => match us, hl with | [_, _], _ => rfl)
  have M9 : DefAt K cx9 f9 "_law_form" "_law_form" q9 := defAt_by (ps := ["_law_data_here"]) o9 c9 s9 rfl k9 rfl (by decide) rfl rfl (fun _ _ _ _ _ _ us hl => match us, hl with | [_], _ => rfl)
  have M10 : DefAt K cx10 f10 "_law_number" "_law_number" q10 := defAt_by (ps := ["_law_text", "_law_at", "_law_end", "_law_minus"]) o10 c10 s10 rfl k10 rfl (by decide) rfl rfl (fun _ _ _ _ _ _ us hl => match us, hl with | [_, _, _, _], _ => rfl)
  have M11 : DefAt K cx11 f11 "_law_read" "_law_read" q11 := defAt_by (ps := ["_law_text", "_law_at"]) o11 c11 s11 rfl k11 rfl (by decide) rfl rfl (fun _ _ _ _ _ _ us hl => match us, hl with | [_, _], _ => rfl)
  have M12 : DefAt K cx12 f12 "_law_items" "_law_items" q12 := defAt_by (ps := ["_law_text", "_law_at", "_law_end"]) o12 c12 s12 rfl k12 rfl (by decide) rfl rfl (fun _ _ _ _ _ _ us hl => match us, hl with | [_, _, _], _ => rfl)
  have M13 : DefAt K cx13 f13 "_law_due" "_law_due" q13 := defAt_by (ps := ["_law_text"]) o13 c13 s13 rfl k13 rfl (by decide) rfl rfl (fun _ _ _ _ _ _ us hl => match us, hl with | [_], _ => rfl)
  have M14 : DefAt K cx14 f14 "_law_told" "_law_told" q14 := defAt_by (ps := ["_law_text"]) o14 c14 s14 rfl k14 rfl (by decide) rfl rfl (fun _ _ _ _ _ _ us hl => match us, hl with | [_], _ => rfl)
  have M15 : DefAt K cx15 f15 "law" "law" q15 := defAt_by (ps := ["_law_script"]) o15 c15 s15 rfl k15 rfl (by decide) rfl rfl (fun _ _ _ _ _ _ us hl => match us, hl with | [_], _ => rfl)
  refine ⟨fun f x np e hx => ?df, fun f c nm np e => ?mt, fun x c f np e => ?nw, fun c f e => ?fl, fun x c fl e base => ?er, fun x cs ds e => ?ct, fun c f e => ?xf, fun x p e => ?dt, fun x hx => ?bi⟩
  case df =>
    match f, e with
    | 0, e => cases e; exact ⟨f0, cx0, q0, rfl, rfl, rfl, M0, PySem.W.mg_of X G_ a0⟩
    | 1, e => cases e; exact ⟨f1, cx1, q1, rfl, rfl, rfl, M1, PySem.W.mg_of X G_ a1⟩
    | 2, e => cases e; exact ⟨f2, cx2, q2, rfl, rfl, rfl, M2, PySem.W.mg_of X G_ a2⟩
    | 3, e => cases e; exact ⟨f3, cx3, q3, rfl, rfl, rfl, M3, PySem.W.mg_of X G_ a3⟩
    | 4, e => cases e; exact ⟨f4, cx4, q4, rfl, rfl, rfl, M4, PySem.W.mg_of X G_ a4⟩
    | 5, e => cases e; exact ⟨f5, cx5, q5, rfl, rfl, rfl, M5, PySem.W.mg_of X G_ a5⟩
    | 6, e => cases e; exact ⟨f6, cx6, q6, rfl, rfl, rfl, M6, PySem.W.mg_of X G_ a6⟩
    | 7, e => cases e; exact ⟨f7, cx7, q7, rfl, rfl, rfl, M7, PySem.W.mg_of X G_ a7⟩
    | 8, e => cases e; exact ⟨f8, cx8, q8, rfl, rfl, rfl, M8, PySem.W.mg_of X G_ a8⟩
    | 9, e => cases e; exact ⟨f9, cx9, q9, rfl, rfl, rfl, M9, PySem.W.mg_of X G_ a9⟩
    | 10, e => cases e; exact ⟨f10, cx10, q10, rfl, rfl, rfl, M10, PySem.W.mg_of X G_ a10⟩
    | 11, e => cases e; exact ⟨f11, cx11, q11, rfl, rfl, rfl, M11, PySem.W.mg_of X G_ a11⟩
    | 12, e => cases e; exact ⟨f12, cx12, q12, rfl, rfl, rfl, M12, PySem.W.mg_of X G_ a12⟩
    | 13, e => cases e; exact ⟨f13, cx13, q13, rfl, rfl, rfl, M13, PySem.W.mg_of X G_ a13⟩
    | 14, e => cases e; exact ⟨f14, cx14, q14, rfl, rfl, rfl, M14, PySem.W.mg_of X G_ a14⟩
    | 15, e => cases e; exact ⟨f15, cx15, q15, rfl, rfl, rfl, M15, PySem.W.mg_of X G_ a15⟩
    | n + 16, e => simp [G] at e
  case mt =>
    simp [G] at e
  case nw =>
    simp [G] at e
  case fl =>
    simp [G] at e
  case er =>
    simp only [G, List.mem_cons, List.not_mem_nil, or_false, Prod.mk.injEq] at e
    rcases e with ⟨rfl, rfl, rfl⟩
    · rw [A1]; exact err_by (st := mtd 2 0) (ps := ["self", "at"]) N1 N0 eo1 ec1 (by decide +kernel) ex1 eb1 en1 rfl (by decide) (by decide +kernel) (fun _ _ _ _ _ _ us hl => match us, hl with | [_, _], _ => rfl) base
  case ct =>
    have e := PySem.mem_of_lookup e
    simp only [G, List.mem_cons, List.not_mem_nil, or_false, Prod.mk.injEq] at e
    rcases e with ⟨rfl, rfl, rfl⟩ | ⟨rfl, rfl, rfl⟩
    · refine ⟨C1, N1, ?_, ?_⟩
      · exact fun c hc => by
          simp only [List.mem_cons, List.not_mem_nil, or_false] at hc
          rcases hc with rfl
          · rw [A1]; exact ⟨(excB_ok xe1).1, catB_ok ct1_1⟩
      · exact fun c hc => absurd hc List.not_mem_nil
    · refine ⟨C0, N0, ?_, ?_⟩
      · exact fun c hc => by
          simp only [List.mem_cons, List.not_mem_nil, or_false] at hc
          rcases hc with rfl
          · rw [A1]; exact ⟨(excB_ok xe1).1, catB_ok ct0_1⟩
      · exact fun c hc => absurd hc List.not_mem_nil
  case xf =>
    simp only [G, List.mem_cons, List.not_mem_nil, or_false, Prod.mk.injEq] at e
    rcases e with ⟨rfl, rfl⟩
    · rw [A1]; exact ⟨(excB_ok xe1).2, nosB_ok xf1 (by decide)⟩
  case dt =>
    have hm : (x, p) ∈ G.gls := PySem.mem_of_lookup e
    simp only [G, List.mem_cons, List.not_mem_nil, or_false, Prod.mk.injEq] at hm
    rcases hm with ⟨rfl, rfl⟩ | ⟨rfl, rfl⟩
    · exact D0
    · exact D1
  case bi =>
    simp only [bNames, List.mem_cons, List.not_mem_nil, or_false] at hx
    rcases hx with rfl | rfl | rfl | rfl | rfl | rfl | rfl | rfl | rfl | rfl | rfl | rfl | rfl | rfl | rfl | rfl | rfl | rfl
    · exact PySem.W.mg_none_of X G_ zb0
    · exact PySem.W.mg_none_of X G_ zb1
    · exact PySem.W.mg_none_of X G_ zb2
    · exact PySem.W.mg_none_of X G_ zb3
    · exact PySem.W.mg_none_of X G_ zb4
    · exact PySem.W.mg_none_of X G_ zb5
    · exact PySem.W.mg_none_of X G_ zb6
    · exact PySem.W.mg_none_of X G_ zb7
    · exact PySem.W.mg_none_of X G_ zb8
    · exact PySem.W.mg_none_of X G_ zb9
    · exact PySem.W.mg_none_of X G_ zb10
    · exact PySem.W.mg_none_of X G_ zb11
    · exact PySem.W.mg_none_of X G_ zb12
    · exact PySem.W.mg_none_of X G_ zb13
    · exact PySem.W.mg_none_of X G_ zb14
    · exact PySem.W.mg_none_of X G_ zb15
    · exact PySem.W.mg_none_of X G_ zb16
    · exact PySem.W.mg_none_of X G_ zb17
end K51
open PySem PySem.W PyProof.Rows
set_option maxRecDepth 100000 in
set_option maxHeartbeats 0 in
theorem PySem.Challenge.cw_flowreprise_k51_written_data_holds : PySem.Challenge.rw_flowreprise_k51_written_data.Holds := by
  w_on; o_law; k_head; (case hw => w_witness2)
  k_fill
  refine Cr.walk_cr (l := PySem.Challenge.rw_flowreprise_k51_written_data) (f := 15) (T := K51.T) (G := K51.G) (n := 200) (N := K51.fuel) K51.cn rfl rfl (by decide) (fun w h Y => PySem.W.kIn_of Y) rfl (by decide) ?F K51.law_true
  case F =>
    intro w mg h KX G_
    refine' K51.all_mk KX G_ ?n0 ?n1 ?a0 ?o0 ?c0 ?a1 ?o1 ?c1 ?a2 ?o2 ?c2 ?a3 ?o3 ?c3 ?a4 ?o4 ?c4 ?a5 ?o5 ?c5 ?a6 ?o6 ?c6 ?a7 ?o7 ?c7 ?a8 ?o8 ?c8 ?a9 ?o9 ?c9 ?a10 ?o10 ?c10 ?a11 ?o11 ?c11 ?a12 ?o12 ?c12 ?a13 ?o13 ?c13 ?a14 ?o14 ?c14 ?a15 ?o15 ?c15 ?ei1 ?eo1 ?ec1 ?ex1 ?eb1 ?en1 ?xe1 ?ct1_1 ?ct0_1 ?xf1 ?gg0 ?gg1 ?zb0 ?zb1 ?zb2 ?zb3 ?zb4 ?zb5 ?zb6 ?zb7 ?zb8 ?zb9 ?zb10 ?zb11 ?zb12 ?zb13 ?zb14 ?zb15 ?zb16 ?zb17
    (case n0 => k_is)
    (case n1 => k_is)
    (case a0 => k_is)
    (case o0 => kernel_rfl)
    (case c0 => kernel_rfl)
    (case a1 => k_is)
    (case o1 => kernel_rfl)
    (case c1 => kernel_rfl)
    (case a2 => k_is)
    (case o2 => kernel_rfl)
    (case c2 => kernel_rfl)
    (case a3 => k_is)
    (case o3 => kernel_rfl)
    (case c3 => kernel_rfl)
    (case a4 => k_is)
    (case o4 => kernel_rfl)
    (case c4 => kernel_rfl)
    (case a5 => k_is)
    (case o5 => kernel_rfl)
    (case c5 => kernel_rfl)
    (case a6 => k_is)
    (case o6 => kernel_rfl)
    (case c6 => kernel_rfl)
    (case a7 => k_is)
    (case o7 => kernel_rfl)
    (case c7 => kernel_rfl)
    (case a8 => k_is)
    (case o8 => kernel_rfl)
    (case c8 => kernel_rfl)
    (case a9 => k_is)
    (case o9 => kernel_rfl)
    (case c9 => kernel_rfl)
    (case a10 => k_is)
    (case o10 => kernel_rfl)
    (case c10 => kernel_rfl)
    (case a11 => k_is)
    (case o11 => kernel_rfl)
    (case c11 => kernel_rfl)
    (case a12 => k_is)
    (case o12 => kernel_rfl)
    (case c12 => kernel_rfl)
    (case a13 => k_is)
    (case o13 => kernel_rfl)
    (case c13 => kernel_rfl)
    (case a14 => k_is)
    (case o14 => kernel_rfl)
    (case c14 => kernel_rfl)
    (case a15 => k_is)
    (case o15 => kernel_rfl)
    (case c15 => kernel_rfl)
    (case ei1 => k_is)
    (case eo1 => kernel_rfl)
    (case ec1 => kernel_rfl)
    (case ex1 => kernel_rfl)
    (case eb1 => kernel_rfl)
    (case en1 => kernel_rfl)
    (case xe1 => kernel_rfl)
    (case ct1_1 => kernel_rfl)
    (case ct0_1 => kernel_rfl)
    (case xf1 => kernel_rfl)
    (case gg0 => k_is)
    (case gg1 => k_is)
    (case zb0 => k_is)
    (case zb1 => k_is)
    (case zb2 => k_is)
    (case zb3 => k_is)
    (case zb4 => k_is)
    (case zb5 => k_is)
    (case zb6 => k_is)
    (case zb7 => k_is)
    (case zb8 => k_is)
    (case zb9 => k_is)
    (case zb10 => k_is)
    (case zb11 => k_is)
    (case zb12 => k_is)
    (case zb13 => k_is)
    (case zb14 => k_is)
    (case zb15 => k_is)
    (case zb16 => k_is)
    (case zb17 => k_is)
#print axioms PySem.Challenge.cw_flowreprise_k51_written_data_holds
