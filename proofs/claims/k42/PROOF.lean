import PyProof.Rows.All
import Wide.All
import OpenK.AllK
import Wide.FinOn
import KE.KStateDown
import Lean
import HandS.ForMost
import HandS.ForExc
import HandS.Defaults
import HandS.Head0
import HandS.Head1
import HandS.Head2
import HandS.HeadEnd
import HandS.HeadHook1
import HandS.HeadHook2
import HandS.HeadNt
import HandS.WordsExc
import HandS.TryMany
import HandS.ExcInit
import HandS.Comp
import KE.GoesRaise
import HandS.Iter
import HandS.Walk
import HandS.Zip
import KE.KExcIs
import PyProof.Rows.BootFacts
import HandS.IsInst
import HandS.ClsMeth
import HandS.ExcField
import HandS.ExcIs
import HandS.ExcOwn
import HandS.CallRecv
import HandS.TupAny
import HandS.TupMul
import HandS.TupLe
import HandS.Deep
import HandS.RaiseMore
import PySem.Challenge.RW_pathschosen_k42_winners_and_plans
set_option Elab.async false
set_option linter.all false
section
set_option Elab.async false
set_option linter.all false
/-! MpCore: a small core language (what the checked Python text says), data trees, a store, and what a core text computes. -/
namespace Mp
open PySem (Str Operator CmpOp PyData)

/-- a value: immutable data as a tree (rol: a list that is only read); a changeable object by its place in the store -/
inductive D where
  | non | bl (b : Bool) | int (i : Int) | str (x : Str) | tup (ds : List D) | rol (ds : List D) | ref (n : Nat)
inductive O where
  /-- a list; an instance of the class c -/
  | lst (ds : List D) | ins (c : Str) (fs : List (Str × D))
abbrev Sto := List O
structure Ex where
  cls : Str
  fs : List (Str × D)
inductive Res (α : Type) where
  | ok (a : α) (S : Sto) | exn (x : Ex) (S : Sto) | stuck
def Res.bind {α β : Type} (r : Res α) (f : α → Sto → Res β) : Res β := match r with
  | .ok a S => f a S
  | .exn x S => .exn x S
  | .stuck => .stuck
def ofO {α : Type} (o : Option α) (S : Sto) : Res α := match o with
  | some a => .ok a S
  | none => .stuck
abbrev Env := List (Option D)

/-! ### the core syntax -/
inductive Ty where
  | bi (n : String) | own (c : Str)
inductive Blt where
  | len | tuple | list | all | max | min | int | str
inductive Bm where
  | append | pop | popAt | reverse | index | join
inductive Tg where
  | name (i : Nat) | tup (is : List Nat)
mutual
inductive CE where
  | var (i : Nat) | int (i : Int) | bl (b : Bool) | non | str (x : Str)
  | glob (x : Str) | ccon (c f : Str)
  | tup (es : CEs) | lst (es : CEs)
  | bin (op : Operator) (a b : CE) | neg (a : CE)
  | cmp (op : CmpOp) (a b : CE) | cmp2 (op op' : CmpOp) (a b c : CE)
  | and (es : CEs) | or (es : CEs) | not (a : CE) | ifx (c a b : CE)
  | isI (a : CE) (t : Ty) | exF (f : Str) | exI (c : Str)
  | fld (a : CE) (f : Str)
  | call (f : Str) (es : CEs) | make (c : Str) (es : CEs) | meth (m : Str) (a : CE) (es : CEs) | smeth (c m : Str) (es : CEs)
  | blt (f : Blt) (es : CEs) | bm (m : Bm) (a : CE) (es : CEs)
  | sub (a i : CE) | slc (a : CE) (lo hi : CO)
  | lc (elt : CE) (tg : Tg) (it : CI) (ifs : CEs)
inductive CO where
  | none | some (e : CE)
inductive CEs where
  | nil | cons (e : CE) (es : CEs)
inductive CI where
  | seq (e : CE) | range (es : CEs) | zip (a b : CE)
end
mutual
inductive CS where
  | expr (e : CE) | ret (e : CE) | retN | asg (tg : Tg) (e : CE) | set (a i e : CE) | fld (a : CE) (f : Str) (e : CE) | aug (i : Nat) (op : Operator) (e : CE)
  | ite (c : CE) (a b : CSs) | for_ (tg : Tg) (it : CI) (b : CSs) | while_ (c : CE) (b : CSs)
  | try_ (b : CSs) (hs : CHs) | raise (c : Str) (es : CEs)
  | pass | brk | cont
inductive CSs where
  | nil | cons (s : CS) (r : CSs)
inductive CHs where
  | nil | cons (c : Str) (i : Option Nat) (b : CSs) (r : CHs)
end
def CEs.len : CEs → Nat
  | .nil => 0
  | .cons _ r => r.len + 1

/-! ### data -/
mutual
def D.py : D → Option PyData
  | .non => some .none
  | .bl b => some (.bool b)
  | .int i => some (.int i)
  | .str x => some (.str x)
  | .tup ds => (pyL ds).map .tuple
  | .rol _ => none
  | .ref _ => none
def pyL : List D → Option (List PyData)
  | [] => some []
  | d :: ds => (d.py).bind fun p => (pyL ds).map fun ps => p :: ps
end
/-- == of two values, where it is served -/
def eqD (x y : D) : Option Bool := match x, y with
  | .non, .non => some true
  | .non, .int _ => some false | .int _, .non => some false
  | .non, .bl _ => some false | .bl _, .non => some false
  | .non, .str _ => some false | .str _, .non => some false
  | .int i, .int j => some (decide (i = j))
  | .bl i, .bl j => some (decide (i = j))
  | .str i, .str j => some (decide (i = j))
  | .int _, .str _ => some false | .str _, .int _ => some false
  | .bl _, .str _ => some false | .str _, .bl _ => some false
  | x, y => match x.py, y.py with
    | some p, some q => if PySem.SeqAt.shaped p && PySem.SeqAt.shaped q then some (PyData.eqv p q) else none
    | _, _ => none
def itemsD (d : D) (S : Sto) : Option (List D) := match d with
  | .tup ds => some ds
  | .rol ds => some ds
  | .ref n => match S[n]? with
    | some (.lst ds) => some ds
    | _ => none
  | _ => none
/-- x in a list or tuple of data -/
def inD (x y : D) (S : Sto) : Option Bool := match itemsD y S with
  | some ds => match x.py, pyL ds with
    | some p, some ps => if PySem.SeqAt.shaped p && PySem.SeqAt.shaped (.list ps) then some (ps.any fun z => PyData.eqv z p) else none
    | _, _ => none
  | none => none
def isNon : D → Bool
  | .non => true
  | _ => false
def cmpD (op : CmpOp) (x y : D) (S : Sto) : Option Bool := match op with
  | .Eq => eqD x y
  | .NotEq => (eqD x y).map (!·)
  | .Lt => match x, y with | .int i, .int j => some (decide (i < j)) | _, _ => none
  | .LtE => match x, y with | .int i, .int j => some (decide (i ≤ j)) | _, _ => none
  | .Gt => match x, y with | .int i, .int j => some (decide (j < i)) | _, _ => none
  | .GtE => match x, y with | .int i, .int j => some (decide (j ≤ i)) | _, _ => none
  | .Is => match y with
    | .non => some (isNon x)
    | .bl b => match x with | .bl a => some (decide (a = b)) | _ => none
    | _ => none
  | .IsNot => match y with
    | .non => some (!isNon x)
    | .bl b => match x with | .bl a => some (!decide (a = b)) | _ => none
    | _ => none
  | .In => match y with
    | .str z => match x with | .str ⟨⟨[c]⟩⟩ => some (decide (c ∈ z.cps.toList)) | _ => none
    | y => inD x y S
  | .NotIn => match y with
    | .str z => match x with | .str ⟨⟨[c]⟩⟩ => some (!decide (c ∈ z.cps.toList)) | _ => none
    | y => (inD x y S).map (!·)
def addD (x y : D) (S : Sto) : Res D := match x, y with
  | .int i, .int j => .ok (.int (i + j)) S
  | .str a, .str b => if a.length + b.length ≤ PySem.sizeLine then .ok (.str (a ++ b)) S else .stuck
  | .tup a, .tup b => if a.length + b.length ≤ PySem.sizeLine then .ok (.tup (a ++ b)) S else .stuck
  | .ref m, .ref n => match S[m]?, S[n]? with
    | some (.lst a), some (.lst b) => if a.length + b.length ≤ PySem.sizeLine then .ok (.ref S.length) (S ++ [.lst (a ++ b)]) else .stuck
    | _, _ => .stuck
  | _, _ => .stuck
def binD (op : Operator) (x y : D) (S : Sto) : Res D := match op with
  | .Add => addD x y S
  | .Sub => match x, y with | .int i, .int j => .ok (.int (i - j)) S | _, _ => .stuck
  | .Mult => match x, y with
    | .int i, .int j => if (-(2 ^ 64) < i ∧ i < 2 ^ 64) ∨ (-(2 ^ 64) < j ∧ j < 2 ^ 64) then .ok (.int (i * j)) S else .stuck
    | .tup a, .int k => if a ≠ [] ∧ a.length ≤ 1000 ∧ 2 ≤ k ∧ k ≤ 1000 then .ok (.tup (List.replicate k.toNat a).flatten) S else .stuck
    | _, _ => .stuck
  | .FloorDiv => match x, y with | .int i, .int j => if 0 < j ∧ j < 1073741824 then .ok (.int (i / j)) S else .stuck | _, _ => .stuck
  | .Mod => match x, y with | .int i, .int j => if 0 < j then .ok (.int (i % j)) S else .stuck | _, _ => .stuck
  | .Pow => match x, y with | .int i, .int j => if 0 ≤ j ∧ j ≤ 1000000 ∧ i.natAbs < 2 ^ 64 then .ok (.int (i ^ j.toNat)) S else .stuck | _, _ => .stuck
  | _ => .stuck
def biNames : List String := ["int", "str", "bool", "tuple", "list", "dict"]
/-- isinstance -/
def isD (sub : Str → Str → Option Bool) (d : D) (S : Sto) : Ty → Option Bool
  | .bi n => if biNames.contains n then match d with
    | .non => some false
    | .bl _ => some (n == "bool" || n == "int")
    | .int _ => some (n == "int")
    | .str _ => some (n == "str")
    | .tup _ => some (n == "tuple")
    | .rol _ => some (n == "list")
    | .ref k => match S[k]? with
      | some (.lst _) => some (n == "list")
      | _ => none
    else none
  | .own _ => none
def ixD (x : D) (i : Int) (S : Sto) : Option D := match x with
  | .str z => if z.length ≤ PySem.sizeLine then (L2.atI z.cps.toList i).map fun c => .str ⟨#[c]⟩ else none
  | _ => (itemsD x S).bind fun ds => L2.atI ds i
def cutD {α : Type} (xs : List α) (lo hi : Option Int) : List α := (xs.drop (HT.sIx xs.length 0 lo)).take (HT.sIx xs.length xs.length hi - HT.sIx xs.length 0 lo)
def slcD (x : D) (lo hi : Option Int) (S : Sto) : Res D := match x with
  | .tup ds => .ok (.tup (cutD ds lo hi)) S
  | .str z => if z.length ≤ PySem.sizeLine then .ok (.str ⟨(cutD z.cps.toList lo hi).toArray⟩) S else .stuck
  | .ref n => match S[n]? with
    | some (.lst ds) => .ok (.ref S.length) (S ++ [.lst (cutD ds lo hi)])
    | _ => .stuck
  | _ => .stuck
def blsOf : List D → Option (List Bool)
  | [] => some []
  | .bl b :: r => (blsOf r).map (b :: ·)
  | _ => none
def bltD (b : Blt) (xs : List D) (S : Sto) : Res D := match b with
  | .len => match xs with
    | [.str z] => if z.length ≤ PySem.sizeLine then .ok (.int z.length) S else .stuck
    | [d] => ofO ((itemsD d S).map fun ds => .int ds.length) S
    | _ => .stuck
  | .tuple => match xs with
    | [.tup ds] => .ok (.tup ds) S
    | [.rol ds] => .ok (.tup ds) S
    | [.ref n] => ofO ((itemsD (.ref n) S).map .tup) S
    | _ => .stuck
  | .list => match xs with
    | [d] => match itemsD d S with
      | some ds => .ok (.ref S.length) (S ++ [.lst ds])
      | none => .stuck
    | _ => .stuck
  | .all => match xs with
    | [.ref n] => ofO (((itemsD (.ref n) S).bind blsOf).map fun bs => .bl (bs.all id)) S
    | _ => .stuck
  | .max => match xs with
    | [.int i, .int j] => .ok (.int (if j > i then j else i)) S
    | _ => .stuck
  | .min => match xs with
    | [.int i, .int j] => .ok (.int (if j < i then j else i)) S
    | _ => .stuck
  | .int => match xs with
    | [.int i] => .ok (.int i) S
    | [.bl k] => .ok (.int (if k then 1 else 0)) S
    | [.str z] => if z.length ≤ 640 then ofO ((PySem.intText? z).map .int) S else .stuck
    | _ => .stuck
  | .str => match xs with
    | [.int i] => if i.natAbs.log2 < 1920 then .ok (.str (PySem.Str.ofString (toString i))) S else .stuck
    | [.str z] => .ok (.str z) S
    | _ => .stuck
def strsOf : List D → Option (List Str)
  | [] => some []
  | .str x :: r => (strsOf r).map (x :: ·)
  | _ => none
def firstAt (p : PyData) : List PyData → Nat → Option Nat
  | [], _ => none
  | z :: r, j => if PyData.eqv z p then some j else firstAt p r (j + 1)
def bmD (m : Bm) (x : D) (xs : List D) (S : Sto) : Res D := match m with
  | .join => match x, xs with
    | .str a, [d] => match (itemsD d S).bind strsOf with
      | some ys => if (ys.map (·.length)).sum + ys.length * a.length ≤ 16777216 then .ok (.str (PySem.Txt.join a ys)) S else .stuck
      | none => .stuck
    | _, _ => .stuck
  | .append => match x, xs with
    | .ref n, [d] => match S[n]? with
      | some (.lst ds) => if ds.length < PySem.sizeLine then .ok .non (S.set n (.lst (ds ++ [d]))) else .stuck
      | _ => .stuck
    | _, _ => .stuck
  | .pop => match x, xs with
    | .ref n, [] => match S[n]? with
      | some (.lst ds) => match ds[ds.length - 1]? with
        | some y => .ok y (S.set n (.lst ds.dropLast))
        | none => .stuck
      | _ => .stuck
    | _, _ => .stuck
  | .popAt => match x, xs with
    | .ref n, [.int i] => match S[n]? with
      | some (.lst ds) => if 0 ≤ i then match ds[i.toNat]? with
        | some y => .ok y (S.set n (.lst (ds.eraseIdx i.toNat)))
        | none => .stuck
        else .stuck
      | _ => .stuck
    | _, _ => .stuck
  | .reverse => match x, xs with
    | .ref n, [] => match S[n]? with
      | some (.lst ds) => .ok .non (S.set n (.lst ds.reverse))
      | _ => .stuck
    | _, _ => .stuck
  | .index => match x, xs with
    | .ref n, [d] => match S[n]? with
      | some (.lst ds) => match d.py, pyL ds with
        | some p, some ps => if PySem.SeqAt.shaped p && PySem.SeqAt.shaped (.list ps) then ofO ((firstAt p ps 0).map fun j => .int (j : Nat)) S else .stuck
        | _, _ => .stuck
      | _ => .stuck
    | _, _ => .stuck
/-- a method's receiver, ahead of the arguments -/
def bmOk (m : Bm) (x : D) (S : Sto) : Bool := match m, x with
  | .join, .str _ => true
  | .join, _ => false
  | _, .ref n => match S[n]? with
    | some (.lst _) => true
    | _ => false
  | _, _ => false
/-- a walk's items, and what must stand at each turn -/
structure Its where
  ds : List D
  ck : Sto → Prop
def signsOf (z : Str) : List D := z.cps.toList.map fun c => .str ⟨#[c]⟩
def seqI (d : D) (S : Sto) : Option Its := match d with
  | .tup ds => some ⟨ds, fun _ => True⟩
  | .rol ds => some ⟨ds, fun _ => True⟩
  | .str z => if z.length ≤ PySem.sizeLine then some ⟨signsOf z, fun _ => True⟩ else none
  | .ref n => match S[n]? with
    | some (.lst ds) => some ⟨ds, fun S' => S'[n]? = some (.lst ds)⟩
    | _ => none
  | _ => none
def rangeL (lo c : Int) (n : Nat) : List D := (List.range n).map fun i => .int (lo + (i : Nat) * c)
def bnd (i : Int) : Prop := -(2 ^ 62) ≤ i ∧ i < 2 ^ 62
instance (i : Int) : Decidable (bnd i) := by unfold bnd; exact inferInstance
def rangeI (xs : List D) : Option Its := match xs with
  | [.int j] => if bnd j ∧ j ≤ 1000000 then some ⟨rangeL 0 1 j.toNat, fun _ => True⟩ else none
  | [.int i, .int j] => if (bnd i ∧ bnd j) ∧ j - i ≤ 1000000 then some ⟨rangeL i 1 (j - i).toNat, fun _ => True⟩ else none
  | [.int i, .int j, .int c] => if (bnd i ∧ bnd j) ∧ c = -1 ∧ i - j ≤ 1000000 then some ⟨rangeL i (-1) (i - j).toNat, fun _ => True⟩ else none
  | _ => none
def zipI (a b : D) : Option Its := match a, b with
  | .tup xs, .tup ys => if (xs.zip ys).length ≤ PySem.sizeLine then some ⟨(xs.zip ys).map fun p => .tup [p.1, p.2], fun _ => True⟩ else none
  | _, _ => none

/-- a method's key -/
def mkey (c m : Str) : Str := c ++ ("." : Str) ++ m

/-! ### what is around a body -/
structure Cf where
  call : Str → List D → Sto → Res D
  init : Str → List D → Sto → Res D
  con : Str → Option D
  ccon : Str → Str → Option D
  sub : Str → Str → Option Bool
  exf : Str → Str → Bool
  fok : Str → Str → Bool
  mok : Str → Str → Option Nat
  exc : Str → List D → Option (List (Str × D))
def getV (ρ : Env) (i : Nat) : Option D := match ρ[i]? with
  | some (some d) => some d
  | _ => none
def fldD (ok : Str → Str → Bool) (d : D) (f : Str) (S : Sto) : Option D := match d with
  | .ref n => match S[n]? with
    | some (.ins c fs) => if ok c f = true then fs.lookup f else none
    | _ => none
  | _ => none
/-- the class whose method m is meant -/
def metD (ok : Str → Str → Option Nat) (d : D) (m : Str) (n : Nat) (S : Sto) : Option Str := match d with
  | .ref i => match S[i]? with
    | some (.ins c fs) => if ok c m = some n ∧ fs.lookup m = none then some c else none
    | _ => none
  | _ => none
def asInt : D → Option Int
  | .int i => some i
  | _ => none
def isBl : D → Option Bool
  | .bl b => some b
  | _ => none
open Classical in
noncomputable def lcL (ck : Sto → Prop) (f : D → Sto → Res (Option D)) : List D → Sto → Res (List D)
  | [], S => if ck S then .ok [] S else .stuck
  | d :: ds, S => if ck S then (f d S).bind fun r S1 => (lcL ck f ds S1).bind fun rs S2 => .ok (r.toList ++ rs) S2 else .stuck
def wipe (ρ : Env) : List Nat → Env
  | [] => ρ
  | i :: is => (wipe ρ is).set i none
def Tg.ix : Tg → List Nat
  | .name i => [i]
  | .tup is => is
def asgN : List Nat → List D → Env → Option Env
  | [], [], ρ => some ρ
  | i :: is, d :: ds, ρ => asgN is ds (ρ.set i (some d))
  | _, _, _ => none
def asgT : Tg → D → Env → Option Env
  | .name i, d, ρ => some (ρ.set i (some d))
  | .tup is, .tup ds, ρ => asgN is ds ρ
  | .tup _, _, _ => none
mutual
noncomputable def evE (C : Cf) (cu : Option Ex) : CE → Env → Sto → Res D
  | .var i, ρ, S => ofO (getV ρ i) S
  | .int i, _, S => .ok (.int i) S
  | .bl b, _, S => .ok (.bl b) S
  | .non, _, S => .ok .non S
  | .str x, _, S => .ok (.str x) S
  | .glob x, _, S => ofO (C.con x) S
  | .ccon c f, _, S => ofO (C.ccon c f) S
  | .tup es, ρ, S => (evEs C cu es ρ S).bind fun ds S1 => .ok (.tup ds) S1
  | .lst es, ρ, S => (evEs C cu es ρ S).bind fun ds S1 => .ok (.ref S1.length) (S1 ++ [.lst ds])
  | .bin op a b, ρ, S => (evE C cu a ρ S).bind fun x S1 => (evE C cu b ρ S1).bind fun y S2 => binD op x y S2
  | .neg a, ρ, S => (evE C cu a ρ S).bind fun x S1 => (ofO (asInt x) S1).bind fun i S2 => .ok (.int (-i)) S2
  | .cmp op a b, ρ, S => (evE C cu a ρ S).bind fun x S1 => (evE C cu b ρ S1).bind fun y S2 => ofO ((cmpD op x y S2).map .bl) S2
  | .cmp2 op op' a b c, ρ, S => (evE C cu a ρ S).bind fun x S1 => (evE C cu b ρ S1).bind fun y S2 => (ofO (cmpD op x y S2) S2).bind fun k S3 =>
      if k = true then (evE C cu c ρ S3).bind fun z S4 => ofO ((cmpD op' y z S4).map .bl) S4 else .ok (.bl false) S3
  | .and es, ρ, S => evAnd C cu es ρ S
  | .or es, ρ, S => evOr C cu es ρ S
  | .not a, ρ, S => (evE C cu a ρ S).bind fun x S1 => ofO ((isBl x).map fun b => .bl (!b)) S1
  | .ifx c a b, ρ, S => (evE C cu c ρ S).bind fun x S1 => (ofO (isBl x) S1).bind fun k S2 => if k = true then evE C cu a ρ S2 else evE C cu b ρ S2
  | .isI a t, ρ, S => (evE C cu a ρ S).bind fun x S1 => ofO ((isD C.sub x S1 t).map .bl) S1
  | .exF f, _, S => ofO (cu.bind fun x => if C.exf x.cls f = true then x.fs.lookup f else none) S
  | .exI c, _, S => ofO (cu.bind fun x => (C.sub x.cls c).map .bl) S
  | .fld a f, ρ, S => (evE C cu a ρ S).bind fun x S1 => ofO (fldD C.fok x f S1) S1
  | .call f es, ρ, S => (evEs C cu es ρ S).bind fun ds S1 => C.call f ds S1
  | .make c es, ρ, S => (evEs C cu es ρ S).bind fun ds S1 => (C.init c (.ref S1.length :: ds) (S1 ++ [.ins c []])).bind fun d S2 => if isNon d = true then .ok (.ref S1.length) S2 else .stuck
  | .meth m a es, ρ, S => (evE C cu a ρ S).bind fun x S1 => (ofO (metD C.mok x m es.len S1) S1).bind fun c S2 => (evEs C cu es ρ S2).bind fun ds S3 => C.call (mkey c m) (x :: ds) S3
  | .smeth c m es, ρ, S => (evEs C cu es ρ S).bind fun ds S1 => C.call (mkey c m) ds S1
  | .blt b es, ρ, S => (evEs C cu es ρ S).bind fun ds S1 => bltD b ds S1
  | .bm m a es, ρ, S => (evE C cu a ρ S).bind fun x S1 => if bmOk m x S1 = true then (evEs C cu es ρ S1).bind fun ds S2 => bmD m x ds S2 else .stuck
  | .sub a i, ρ, S => (evE C cu a ρ S).bind fun x S1 => (evE C cu i ρ S1).bind fun j S2 => (ofO (asInt j) S2).bind fun k S3 => ofO (ixD x k S3) S3
  | .slc a lo hi, ρ, S => (evE C cu a ρ S).bind fun x S1 => (evO C cu lo ρ S1).bind fun l S2 => (evO C cu hi ρ S2).bind fun h S3 => slcD x l h S3
  | .lc elt tg it ifs, ρ, S => (evI C cu it ρ S).bind fun t S1 => (lcL t.ck (fun d S2 => (ofO (asgT tg d (wipe ρ tg.ix)) S2).bind fun ρ1 S3 => (evIfs C none ifs ρ1 S3).bind fun b S4 =>
      if b = true then (evE C none elt ρ1 S4).bind fun y S5 => .ok (some y) S5 else .ok none S4) t.ds S1).bind fun ds S2 => .ok (.ref S2.length) (S2 ++ [.lst ds])
noncomputable def evO (C : Cf) (cu : Option Ex) : CO → Env → Sto → Res (Option Int)
  | .none, _, S => .ok none S
  | .some e, ρ, S => (evE C cu e ρ S).bind fun x S1 => (ofO (asInt x) S1).bind fun i S2 => .ok (some i) S2
noncomputable def evEs (C : Cf) (cu : Option Ex) : CEs → Env → Sto → Res (List D)
  | .nil, _, S => .ok [] S
  | .cons e es, ρ, S => (evE C cu e ρ S).bind fun d S1 => (evEs C cu es ρ S1).bind fun ds S2 => .ok (d :: ds) S2
noncomputable def evAnd (C : Cf) (cu : Option Ex) : CEs → Env → Sto → Res D
  | .nil, _, _ => .stuck
  | .cons e .nil, ρ, S => evE C cu e ρ S
  | .cons e es, ρ, S => (evE C cu e ρ S).bind fun x S1 => (ofO (isBl x) S1).bind fun k S2 => if k = true then evAnd C cu es ρ S2 else .ok (.bl false) S2
noncomputable def evOr (C : Cf) (cu : Option Ex) : CEs → Env → Sto → Res D
  | .nil, _, _ => .stuck
  | .cons e .nil, ρ, S => evE C cu e ρ S
  | .cons e es, ρ, S => (evE C cu e ρ S).bind fun x S1 => (ofO (isBl x) S1).bind fun k S2 => if k = true then .ok (.bl true) S2 else evOr C cu es ρ S2
noncomputable def evIfs (C : Cf) (cu : Option Ex) : CEs → Env → Sto → Res Bool
  | .nil, _, S => .ok true S
  | .cons e es, ρ, S => (evE C cu e ρ S).bind fun x S1 => (ofO (isBl x) S1).bind fun k S2 => if k = true then evIfs C cu es ρ S2 else .ok false S2
noncomputable def evI (C : Cf) (cu : Option Ex) : CI → Env → Sto → Res Its
  | .seq e, ρ, S => (evE C cu e ρ S).bind fun d S1 => ofO (seqI d S1) S1
  | .range es, ρ, S => (evEs C cu es ρ S).bind fun ds S1 => ofO (rangeI ds) S1
  | .zip a b, ρ, S => (evE C cu a ρ S).bind fun x S1 => (evE C cu b ρ S1).bind fun y S2 => ofO (zipI x y) S2
end

/-! ### statements -/
inductive Fl where
  | nx (ρ : Env) (S : Sto) | rt (d : D) (S : Sto) | bk (ρ : Env) (S : Sto) | ct (ρ : Env) (S : Sto) | exn (x : Ex) (ρ : Env) (S : Sto) | stuck
def Res.fl {α : Type} (r : Res α) (ρ : Env) (f : α → Sto → Fl) : Fl := match r with
  | .ok a S => f a S
  | .exn x S => .exn x ρ S
  | .stuck => .stuck
def nxE (o : Option Env) (S : Sto) : Fl := match o with
  | some ρ => .nx ρ S
  | none => .stuck
def nxS (ρ : Env) (o : Option Sto) : Fl := match o with
  | some S => .nx ρ S
  | none => .stuck
def exnO (c : Str) (o : Option (List (Str × D))) (ρ : Env) (S : Sto) : Fl := match o with
  | some fs => .exn ⟨c, fs⟩ ρ S
  | none => .stuck
def ifO (o : Option Bool) (a b : Fl) : Fl := match o with
  | some true => a
  | some false => b
  | none => .stuck
def Fl.catch_ (r : Fl) (f : Ex → Env → Sto → Fl) : Fl := match r with
  | .exn x ρ S => f x ρ S
  | r => r
/-- one turn of a loop, then the others -/
def Fl.turn (r : Fl) (f : Env → Sto → Fl) : Fl := match r with
  | .nx ρ S => f ρ S
  | .ct ρ S => f ρ S
  | .bk ρ S => .nx ρ S
  | r => r
def Fl.then_ (r : Fl) (f : Env → Sto → Fl) : Fl := match r with
  | .nx ρ S => f ρ S
  | r => r
def enter (o : Option Env) (f : Env → Fl) : Fl := match o with
  | some ρ => f ρ
  | none => .stuck
def setD (x i d : D) (S : Sto) : Option Sto := match x, i with
  | .ref n, .int k => match S[n]? with
    | some (.lst ds) => (L2.ixN ds.length k).map fun j => S.set n (.lst (ds.set j d))
    | _ => none
  | _, _ => none
def putL (f : Str) (d : D) : List (Str × D) → List (Str × D)
  | [] => [(f, d)]
  | (k, x) :: r => if k = f then (k, d) :: r else (k, x) :: putL f d r
def setF (ok : Str → Str → Bool) (x : D) (f : Str) (d : D) (S : Sto) : Option Sto := match x with
  | .ref n => match S[n]? with
    | some (.ins c fs) => if ok c f = true ∧ fs.length < 1000 then some (S.set n (.ins c (putL f d fs))) else none
    | _ => none
  | _ => none
def augD (op : Operator) (x y : D) : Option D := match op, x, y with
  | .Add, .int i, .int j => some (.int (i + j))
  | .Sub, .int i, .int j => some (.int (i - j))
  | _, _, _ => none
open Classical in
noncomputable def forL (ck : Sto → Prop) (tg : Tg) (body : Env → Sto → Fl) : List D → Env → Sto → Fl
  | [], ρ, S => if ck S then .nx ρ S else .stuck
  | d :: ds, ρ, S => if ck S then enter (asgT tg d ρ) fun ρ1 => (body ρ1 S).turn fun ρ2 S2 => forL ck tg body ds ρ2 S2 else .stuck
def whL (test : Env → Sto → Res Bool) (body : Env → Sto → Fl) : Nat → Env → Sto → Fl
  | 0, _, _ => .stuck
  | n + 1, ρ, S => (test ρ S).fl ρ fun b S1 => if b = true then (body ρ S1).turn fun ρ2 S2 => whL test body n ρ2 S2 else .nx ρ S1
def unset (i : Option Nat) (ρ : Env) : Env := match i with
  | some i => ρ.set i none
  | none => ρ
def Fl.unset (i : Option Nat) : Fl → Fl
  | .nx ρ S => .nx (Mp.unset i ρ) S
  | .bk ρ S => .bk (Mp.unset i ρ) S
  | .ct ρ S => .ct (Mp.unset i ρ) S
  | .rt d S => .rt d S
  | .exn _ _ _ => .stuck
  | .stuck => .stuck
def bornOk (i : Option Nat) (ρ : Env) : Bool := match i with
  | some i => decide (i < ρ.length)
  | none => true
def wFuel : Nat := 1000000000
mutual
noncomputable def evS (C : Cf) (cu : Option Ex) : CS → Env → Sto → Fl
  | .expr e, ρ, S => (evE C cu e ρ S).fl ρ fun _ S1 => .nx ρ S1
  | .ret e, ρ, S => (evE C cu e ρ S).fl ρ fun d S1 => .rt d S1
  | .retN, _, S => .rt .non S
  | .asg tg e, ρ, S => (evE C cu e ρ S).fl ρ fun d S1 => nxE (asgT tg d ρ) S1
  | .set a i e, ρ, S => (evE C cu e ρ S).fl ρ fun d S1 => (evE C cu a ρ S1).fl ρ fun x S2 => (evE C cu i ρ S2).fl ρ fun j S3 => nxS ρ (setD x j d S3)
  | .fld a f e, ρ, S => (evE C cu e ρ S).fl ρ fun d S1 => (evE C cu a ρ S1).fl ρ fun x S2 => nxS ρ (setF C.fok x f d S2)
  | .aug i op e, ρ, S => (ofO (getV ρ i) S).fl ρ fun x S0 => (evE C cu e ρ S0).fl ρ fun y S1 => nxE ((augD op x y).map fun d => ρ.set i (some d)) S1
  | .ite c a b, ρ, S => ((evE C cu c ρ S).bind fun x S1 => ofO (isBl x) S1).fl ρ fun k S1 => if k = true then evSs C cu a ρ S1 else evSs C cu b ρ S1
  | .for_ tg it b, ρ, S => (evI C cu it ρ S).fl ρ fun t S1 => forL t.ck tg (fun ρ2 S2 => evSs C cu b ρ2 S2) t.ds ρ S1
  | .while_ c b, ρ, S => whL (fun ρ2 S2 => (evE C cu c ρ2 S2).bind fun x S3 => ofO (isBl x) S3) (fun ρ2 S2 => evSs C cu b ρ2 S2) wFuel ρ S
  | .try_ b hs, ρ, S => (evSs C cu b ρ S).catch_ fun x ρ1 S1 => evH C hs x ρ1 S1
  | .raise c es, ρ, S => (evEs C cu es ρ S).fl ρ fun ds S1 => exnO c (C.exc c ds) ρ S1
  | .pass, ρ, S => .nx ρ S
  | .brk, ρ, S => .bk ρ S
  | .cont, ρ, S => .ct ρ S
noncomputable def evSs (C : Cf) (cu : Option Ex) : CSs → Env → Sto → Fl
  | .nil, ρ, S => .nx ρ S
  | .cons s r, ρ, S => (evS C cu s ρ S).then_ fun ρ1 S1 => evSs C cu r ρ1 S1
noncomputable def evH (C : Cf) : CHs → Ex → Env → Sto → Fl
  | .nil, x, ρ, S => .exn x ρ S
  | .cons c i b r, x, ρ, S => ifO (if bornOk i ρ = true then C.sub x.cls c else none) ((evSs C (some x) b (unset i ρ) S).unset i) (evH C r x ρ S)
end

/-! ### defs -/
structure Fd where
  np : Nat
  ns : Nat
  body : CSs
structure Prg where
  fn : Str → Option Fd
  con : Str → Option D
  ccon : Str → Str → Option D
  sub : Str → Str → Option Bool
  exf : Str → Str → Bool
  fok : Str → Str → Bool
  mok : Str → Str → Option Nat
  exc : Str → List D → Option (List (Str × D))
def Fl.res : Fl → Res D
  | .nx _ S => .ok .non S
  | .rt d S => .ok d S
  | .exn x _ S => .exn x S
  | _ => .stuck
noncomputable def runB (P : Prg) (C : Cf) (f : Str) (ds : List D) (S : Sto) : Res D := match P.fn f with
  | none => .stuck
  | some d => if ds.length = d.np then (evSs C none d.body (ds.map some ++ List.replicate (d.ns - d.np) none) S).res else .stuck
noncomputable def lev (P : Prg) : Nat → Cf
  | 0 => ⟨fun _ _ _ => .stuck, fun _ _ _ => .stuck, P.con, P.ccon, P.sub, P.exf, P.fok, P.mok, fun _ _ => none⟩
  | k + 1 => ⟨fun f ds S => runB P (lev P k) f ds S, fun c ds S => (lev P k).call (mkey c "__init__") ds S, P.con, P.ccon, P.sub, P.exf, P.fok, P.mok, fun c ds => if k = 0 then none else P.exc c ds⟩
end Mp
end
section
set_option Elab.async false
set_option linter.all false
set_option maxRecDepth 100000
/-! MpRep: how data and the store stand in the layer's abstract heap; what a computed answer promises. -/
namespace Mp
open PySem L2

variable {K : PySem.W.Frag} {α α' α'' : List Addr} {H H' H'' : Hp} {S S' : Sto}

/-- a list that is only read -/
def RoL (K : PySem.W.Frag) (H : Hp) (a : Addr) (vs : List V) : Prop := (∃ o, H a = some (.frz o (.lst vs))) ∨ SqL K (fun _ => none) a vs
theorem RoL.sq {a : Addr} {vs : List V} (h : RoL K H a vs) : SqL K H a vs := by
  rcases h with ⟨o, h⟩ | h
  · exact .inl (.inr ⟨o, h⟩)
  · rcases h with h | h
    · rcases h with h | ⟨o, h⟩ <;> cases h
    · exact .inr h
mutual
def Rep (K : PySem.W.Frag) (α : List Addr) (H : Hp) : D → V → Prop
  | .non, v => v = .non
  | .bl b, v => v = .bl b
  | .int i, v => v = .int i
  | .str x, v => v = .str x
  | .tup ds, v => ∃ a vs, v = .ref a ∧ SqT K H a vs ∧ RepL K α H ds vs
  | .rol ds, v => ∃ a vs, v = .ref a ∧ RoL K H a vs ∧ RepL K α H ds vs
  | .ref n, v => ∃ a, α[n]? = some a ∧ v = .ref a
def RepL (K : PySem.W.Frag) (α : List Addr) (H : Hp) : List D → List V → Prop
  | [], vs => vs = []
  | d :: ds, vs => ∃ v vr, vs = v :: vr ∧ Rep K α H d v ∧ RepL K α H ds vr
end
def RepF (K : PySem.W.Frag) (α : List Addr) (H : Hp) : List (Str × D) → List (Str × V) → Prop
  | [], fs => fs = []
  | (x, d) :: ds, fs => ∃ v fr, fs = (x, v) :: fr ∧ Rep K α H d v ∧ RepF K α H ds fr
def ORep (K : PySem.W.Frag) (α : List Addr) (H : Hp) (a : Addr) : O → Prop
  | .lst ds => ∃ vs, H a = some (.lst vs) ∧ RepL K α H ds vs
  | .ins c fs => ∃ dx vfs, H a = some (.ins (He.ga K c) dx vfs) ∧ RepF K α H fs vfs
structure SRep (K : PySem.W.Frag) (α : List Addr) (H : Hp) (S : Sto) : Prop where
  len : α.length = S.length
  nd : α.Nodup
  at_ : ∀ (n : Nat) (o : O), S[n]? = some o → ∃ a, α[n]? = some a ∧ ORep K α H a o

/-- what stood stands, but for the store's own objects -/
structure Le (K : PySem.W.Frag) (α : List Addr) (H : Hp) (α' : List Addr) (H' : Hp) : Prop where
  ext : ∃ β, α' = α ++ β ∧ ∀ a ∈ β, H a = none ∧ a ∉ α
  keep : ∀ a o, H a = some o → a ∉ α → H' a = some o
  there : ∀ a, H a ≠ none → H' a ≠ none
  tups : ∀ a vs, SqT K H a vs → SqT K H' a vs
  rols : ∀ a vs, RoL K H a vs → RoL K H' a vs
theorem Le.refl : Le K α H α H := ⟨⟨[], by simp, fun _ h => by simp at h⟩, fun _ _ h _ => h, fun _ h => h, fun _ _ h => h, fun _ _ h => h⟩
theorem Le.sub (l : Le K α H α' H') {a : Addr} (h : a ∈ α) : a ∈ α' := by
  obtain ⟨β, e, _⟩ := l.ext
  rw [e]
  exact List.mem_append_left _ h
theorem Le.trans (l : Le K α H α' H') (m : Le K α' H' α'' H'') : Le K α H α'' H'' := by
  obtain ⟨β, e, hb⟩ := l.ext
  obtain ⟨γ, e', hc⟩ := m.ext
  refine ⟨⟨β ++ γ, by rw [e', e, List.append_assoc], fun a ha => ?_⟩, fun a o h ha => ?_, fun a h => m.there a (l.there a h), fun a vs h => m.tups a vs (l.tups a vs h), fun a vs h => m.rols a vs (l.rols a vs h)⟩
  · rcases List.mem_append.mp ha with h | h
    · exact hb a h
    · refine ⟨?_, fun z => (hc a h).2 (l.sub z)⟩
      cases q : H a with
      | none => rfl
      | some o => exact absurd (hc a h).1 (l.there a (by rw [q]; exact nofun))
  · refine m.keep a o (l.keep a o h ha) fun z => ?_
    rw [e] at z
    rcases List.mem_append.mp z with z | z
    · exact ha z
    · rw [(hb a z).1] at h
      cases h
theorem Le.at_ (l : Le K α H α' H') {n : Nat} {a : Addr} (h : α[n]? = some a) : α'[n]? = some a := by
  obtain ⟨β, e, _⟩ := l.ext
  rw [e, List.getElem?_append_left (List.getElem?_eq_some_iff.mp h).1]
  exact h
mutual
theorem Rep.mono (l : Le K α H α' H') : ∀ (d : D) (v : V), Rep K α H d v → Rep K α' H' d v
  | .non, _, h => h
  | .bl _, _, h => h
  | .int _, _, h => h
  | .str _, _, h => h
  | .tup ds, _, h => by
    unfold Rep at h ⊢
    obtain ⟨a, vs, e, s, r⟩ := h
    exact ⟨a, vs, e, l.tups _ _ s, RepL.mono l ds vs r⟩
  | .rol ds, _, h => by
    unfold Rep at h ⊢
    obtain ⟨a, vs, e, s, r⟩ := h
    exact ⟨a, vs, e, l.rols _ _ s, RepL.mono l ds vs r⟩
  | .ref n, _, h => by
    unfold Rep at h ⊢
    obtain ⟨a, s, e⟩ := h
    exact ⟨a, l.at_ s, e⟩
theorem RepL.mono (l : Le K α H α' H') : ∀ (ds : List D) (vs : List V), RepL K α H ds vs → RepL K α' H' ds vs
  | [], _, h => h
  | d :: ds, _, h => by
    unfold RepL at h ⊢
    obtain ⟨v, vr, e, r, t⟩ := h
    exact ⟨v, vr, e, Rep.mono l d v r, RepL.mono l ds vr t⟩
end
theorem RepF.mono (l : Le K α H α' H') : ∀ (ds : List (Str × D)) (vs : List (Str × V)), RepF K α H ds vs → RepF K α' H' ds vs
  | [], _, h => h
  | (x, d) :: ds, _, h => by
    unfold RepF at h ⊢
    obtain ⟨v, vr, e, r, t⟩ := h
    exact ⟨v, vr, e, Rep.mono l d v r, RepF.mono l ds vr t⟩
theorem RepL.length : ∀ {ds : List D} {vs : List V}, RepL K α H ds vs → ds.length = vs.length
  | [], _, h => by unfold RepL at h; rw [h]; rfl
  | d :: ds, _, h => by
    unfold RepL at h
    obtain ⟨v, vr, e, r, t⟩ := h
    rw [e, List.length_cons, List.length_cons, RepL.length t]
theorem RepL.nil : RepL K α H [] [] := by unfold RepL; rfl
theorem RepL.cons {d : D} {v : V} {ds : List D} {vs : List V} (h : Rep K α H d v) (t : RepL K α H ds vs) : RepL K α H (d :: ds) (v :: vs) := by
  unfold RepL
  exact ⟨v, vs, rfl, h, t⟩
theorem RepL.inv {d : D} {ds : List D} {ws : List V} (h : RepL K α H (d :: ds) ws) : ∃ v vs, ws = v :: vs ∧ Rep K α H d v ∧ RepL K α H ds vs := by
  unfold RepL at h
  exact h
theorem RepL.get : ∀ {ds : List D} {vs : List V} {i : Nat} {d : D}, RepL K α H ds vs → ds[i]? = some d → ∃ v, vs[i]? = some v ∧ Rep K α H d v
  | [], _, i, d, h, e => by simp at e
  | d :: ds, _, 0, d', h, e => by
    obtain ⟨v, vr, rfl, r, t⟩ := h.inv
    simp at e
    subst e
    exact ⟨v, rfl, r⟩
  | d :: ds, _, i + 1, d', h, e => by
    obtain ⟨v, vr, rfl, r, t⟩ := h.inv
    obtain ⟨w, e1, e2⟩ := RepL.get (i := i) t (by simpa using e)
    exact ⟨w, by simpa using e1, e2⟩
theorem RepL.append : ∀ {ds es : List D} {vs ws : List V}, RepL K α H ds vs → RepL K α H es ws → RepL K α H (ds ++ es) (vs ++ ws)
  | [], _, _, _, h, t => by unfold RepL at h; rw [h]; exact t
  | d :: ds, es, _, ws, h, t => by
    obtain ⟨v, vr, rfl, r, u⟩ := h.inv
    exact .cons r (RepL.append u t)
theorem RepL.take : ∀ {ds : List D} {vs : List V} (n : Nat), RepL K α H ds vs → RepL K α H (ds.take n) (vs.take n)
  | _, _, 0, _ => by simp only [List.take_zero]; exact .nil
  | [], _, n + 1, h => by unfold RepL at h; rw [h]; exact .nil
  | d :: ds, _, n + 1, h => by
    obtain ⟨v, vr, rfl, r, u⟩ := h.inv
    exact .cons r (RepL.take n u)
theorem RepL.drop : ∀ {ds : List D} {vs : List V} (n : Nat), RepL K α H ds vs → RepL K α H (ds.drop n) (vs.drop n)
  | _, _, 0, h => h
  | [], _, n + 1, h => by unfold RepL at h; rw [h]; exact .nil
  | d :: ds, _, n + 1, h => by
    obtain ⟨v, vr, rfl, r, u⟩ := h.inv
    exact RepL.drop n u
theorem RepL.set {d : D} {v : V} (r : Rep K α H d v) : ∀ {ds : List D} {vs : List V} (n : Nat), RepL K α H ds vs → RepL K α H (ds.set n d) (vs.set n v)
  | [], _, n, h => by unfold RepL at h; rw [h]; exact .nil
  | d' :: ds, _, 0, h => by
    obtain ⟨v', vr, rfl, r', u⟩ := h.inv
    exact .cons r u
  | d' :: ds, _, n + 1, h => by
    obtain ⟨v', vr, rfl, r', u⟩ := h.inv
    exact .cons r' (RepL.set r n u)
theorem RepL.eraseIdx : ∀ {ds : List D} {vs : List V} (n : Nat), RepL K α H ds vs → RepL K α H (ds.eraseIdx n) (vs.eraseIdx n)
  | [], _, n, h => by unfold RepL at h; rw [h]; exact .nil
  | d' :: ds, _, 0, h => by
    obtain ⟨v', vr, rfl, r', u⟩ := h.inv
    exact u
  | d' :: ds, _, n + 1, h => by
    obtain ⟨v', vr, rfl, r', u⟩ := h.inv
    exact .cons r' (RepL.eraseIdx n u)
theorem RepL.reverse : ∀ {ds : List D} {vs : List V}, RepL K α H ds vs → RepL K α H ds.reverse vs.reverse
  | [], _, h => by unfold RepL at h; rw [h]; exact .nil
  | d :: ds, _, h => by
    obtain ⟨v, vr, rfl, r, u⟩ := h.inv
    rw [List.reverse_cons, List.reverse_cons]
    exact RepL.append (RepL.reverse u) (.cons r .nil)
theorem RepL.dropLast {ds : List D} {vs : List V} (h : RepL K α H ds vs) : RepL K α H ds.dropLast vs.dropLast := by
  rw [List.dropLast_eq_take, List.dropLast_eq_take, ← h.length]
  exact h.take _
theorem RepL.rep {ds : List D} {vs : List V} (h : RepL K α H ds vs) : ∀ n : Nat, RepL K α H (List.replicate n ds).flatten (List.replicate n vs).flatten
  | 0 => .nil
  | n + 1 => by
    rw [List.replicate_succ, List.replicate_succ, List.flatten_cons, List.flatten_cons]
    exact h.append (h.rep n)
theorem RepL.cutV {ds : List D} {vs : List V} (h : RepL K α H ds vs) (lo hi : Option Int) : RepL K α H (cutD ds lo hi) (L2.cutV vs lo hi) := by
  unfold cutD L2.cutV
  rw [h.length]
  exact (h.drop _).take _
theorem RepF.lookup {f : Str} : ∀ {ds : List (Str × D)} {vs : List (Str × V)} {d : D}, RepF K α H ds vs → ds.lookup f = some d → ∃ v, vs.lookup f = some v ∧ Rep K α H d v
  | [], _, d, h, e => by simp at e
  | (x, d') :: ds, _, d, h, e => by
    unfold RepF at h
    obtain ⟨v, vr, rfl, r, t⟩ := h
    rw [List.lookup_cons] at e ⊢
    cases q : (f == x) with
    | true =>
      rw [q] at e
      cases e
      exact ⟨v, rfl, r⟩
    | false =>
      rw [q] at e
      exact RepF.lookup t e
theorem RepF.none {f : Str} : ∀ {ds : List (Str × D)} {vs : List (Str × V)}, RepF K α H ds vs → ds.lookup f = none → vs.lookup f = none
  | [], _, h, e => by unfold RepF at h; rw [h]; rfl
  | (x, d') :: ds, _, h, e => by
    unfold RepF at h
    obtain ⟨v, vr, rfl, r, t⟩ := h
    rw [List.lookup_cons] at e ⊢
    cases q : (f == x) with
    | true => rw [q] at e; cases e
    | false => rw [q] at e; exact RepF.none t e
theorem RepF.length : ∀ {ds : List (Str × D)} {vs : List (Str × V)}, RepF K α H ds vs → ds.length = vs.length
  | [], _, h => by unfold RepF at h; rw [h]; rfl
  | (x, d) :: ds, _, h => by
    unfold RepF at h
    obtain ⟨v, vr, e, r, t⟩ := h
    rw [e, List.length_cons, List.length_cons, RepF.length t]
theorem RepF.put {f : Str} {d : D} {v : V} (r : Rep K α H d v) : ∀ {ds : List (Str × D)} {vs : List (Str × V)}, RepF K α H ds vs → RepF K α H (putL f d ds) (putF f v vs)
  | [], _, h => by
    unfold RepF at h
    rw [h]
    exact ⟨v, [], rfl, r, rfl⟩
  | (x, d') :: ds, _, h => by
    unfold RepF at h
    obtain ⟨v', vr, rfl, r', t⟩ := h
    show RepF K α H (if x = f then (x, d) :: ds else (x, d') :: putL f d ds) (if x = f then (x, v) :: vr else (x, v') :: putF f v vr)
    by_cases e : x = f
    · rw [if_pos e, if_pos e]
      exact ⟨v, vr, rfl, r, t⟩
    · rw [if_neg e, if_neg e]
      exact ⟨v', _, rfl, r', RepF.put r t⟩

theorem ORep.mono (l : Le K α H α' H') {a : Addr} {o : O} (ha : H' a = H a) (h : ORep K α H a o) : ORep K α' H' a o := by
  cases o with
  | lst ds =>
    obtain ⟨vs, e, r⟩ := h
    exact ⟨vs, ha.trans e, r.mono l⟩
  | ins c fs =>
    obtain ⟨dx, vs, e, r⟩ := h
    exact ⟨dx, vs, ha.trans e, r.mono l⟩
theorem SRep.lt (s : SRep K α H S) {n : Nat} {a : Addr} (h : α[n]? = some a) : n < S.length := by
  rw [← s.len]
  exact (List.getElem?_eq_some_iff.mp h).1
theorem SRep.adr (s : SRep K α H S) {n : Nat} {o : O} {a : Addr} (h : S[n]? = some o) (e : α[n]? = some a) : ORep K α H a o := by
  obtain ⟨b, e', r⟩ := s.at_ n o h
  rw [e] at e'
  cases e'
  exact r
/-- a fresh address is none of the store's -/
theorem SRep.fresh (s : SRep K α H S) {p : Addr} (h : H p = none) : p ∉ α := fun hp => by
  obtain ⟨n, hn⟩ := List.mem_iff_getElem?.mp hp
  have hl := s.lt hn
  obtain ⟨a, e, r⟩ := s.at_ n S[n] (by simp [hl])
  rw [hn] at e
  cases e
  cases q : S[n] with
  | lst ds =>
    rw [q] at r
    obtain ⟨vs, e, _⟩ := r
    rw [h] at e
    cases e
  | ins c fs =>
    rw [q] at r
    obtain ⟨dx, vs, e, _⟩ := r
    rw [h] at e
    cases e
/-- an address is of one place -/
theorem SRep.inj (s : SRep K α H S) {m n : Nat} {a : Addr} (h : α[m]? = some a) (e : α[n]? = some a) : m = n := by
  obtain ⟨h1, e1⟩ := List.getElem?_eq_some_iff.mp h
  obtain ⟨h2, e2⟩ := List.getElem?_eq_some_iff.mp e
  exact (List.getElem_inj s.nd).mp (e1.trans e2.symm)

/-! ### three steps of the heap -/
/-- a new tuple (or anything that the store does not know) -/
theorem Le.new {p : Addr} {o : HO} (h : H p = none) : Le K α H α (upd H p o) := by
  refine ⟨⟨[], by simp, fun _ z => by simp at z⟩, fun a u q _ => by rw [upd_ne (ne_of_none q h)]; exact q, fun a q => ?_, fun a vs q => ?_, fun a vs q => ?_⟩
  · cases e : H a with
    | none => exact absurd e q
    | some u => rw [upd_ne (ne_of_none e h), e]; exact nofun
  · rcases q with q | q
    · rcases q with q | ⟨u, q⟩
      · exact .inl (.inl (by rw [upd_ne (ne_of_none q h)]; exact q))
      · exact .inl (.inr ⟨u, by rw [upd_ne (ne_of_none q h)]; exact q⟩)
    · exact .inr q
  · rcases q with ⟨u, q⟩ | q
    · exact .inl ⟨u, by rw [upd_ne (ne_of_none q h)]; exact q⟩
    · exact .inr q
theorem SRep.new {p : Addr} {o : HO} (s : SRep K α H S) (h : H p = none) : SRep K α (upd H p o) S := by
  have hp := s.fresh h
  refine ⟨s.len, s.nd, fun n u e => ?_⟩
  obtain ⟨a, e1, r⟩ := s.at_ n u e
  refine ⟨a, e1, r.mono (Le.new h) ?_⟩
  exact upd_ne (a := p) (b := a) fun z => hp (by rw [← z]; exact List.mem_of_getElem? e1)
/-- a new object of the store -/
theorem Le.push {p : Addr} {o : HO} (h : H p = none) (hp : p ∉ α) : Le K α H (α ++ [p]) (upd H p o) := by
  have l : Le K α H α (upd H p o) := Le.new h
  exact ⟨⟨[p], rfl, fun a ha => by
    have e : a = p := by simpa using ha
    rw [e]
    exact ⟨h, hp⟩⟩, l.keep, l.there, l.tups, l.rols⟩
theorem SRep.push {p : Addr} {u : HO} {o : O} (s : SRep K α H S) (h : H p = none) (hp : p ∉ α) (r : ORep K (α ++ [p]) (upd H p u) p o) : SRep K (α ++ [p]) (upd H p u) (S ++ [o]) := by
  refine ⟨by rw [List.length_append, List.length_append, s.len]; rfl, ?_, fun n x e => ?_⟩
  · rw [List.nodup_append]
    exact ⟨s.nd, by simp, fun a ha b hb => by
      have e : b = p := by simpa using hb
      rw [e]
      exact fun z => hp (z ▸ ha)⟩
  · by_cases hn : n < S.length
    · rw [List.getElem?_append_left hn] at e
      obtain ⟨a, e1, r1⟩ := s.at_ n x e
      refine ⟨a, by rw [List.getElem?_append_left (by rw [s.len]; exact hn)]; exact e1, r1.mono (Le.push h hp) ?_⟩
      exact upd_ne (a := p) (b := a) fun z => hp (by rw [← z]; exact List.mem_of_getElem? e1)
    · rw [List.getElem?_append_right (by omega)] at e
      have e0 : n - S.length = 0 := by
        have := (List.getElem?_eq_some_iff.mp e).1
        simp at this
        omega
      rw [e0] at e
      cases e
      refine ⟨p, ?_, r⟩
      rw [List.getElem?_append_right (by rw [s.len]; omega), s.len, e0]
      rfl
/-- an object of the store written: what stood there is no tuple -/
theorem Le.write {p : Addr} {u o : HO} (hp : p ∈ α) (h : H p = some o) (ht : ∀ vs, o ≠ .tup vs ∧ ∀ b w, o ≠ .frz b w) : Le K α H α (upd H p u) := by
  refine ⟨⟨[], by simp, fun _ z => by simp at z⟩, fun a w q ha => (upd_ne (a := p) (b := a) fun z => ha (by rw [z]; exact hp)).trans q, fun a q => ?_, fun a vs q => ?_, fun a vs q => ?_⟩
  · by_cases e : a = p
    · rw [e, upd_same]; exact nofun
    · rw [upd_ne e]; exact q
  · rcases q with q | q
    · rcases q with q | ⟨w, q⟩
      · refine .inl (.inl ?_)
        rw [upd_ne fun z => ?_]
        · exact q
        · rw [z, h] at q; exact (ht vs).1 (Option.some.inj q)
      · refine .inl (.inr ⟨w, ?_⟩)
        rw [upd_ne fun z => ?_]
        · exact q
        · rw [z, h] at q; exact (ht vs).2 w _ (Option.some.inj q)
    · exact .inr q
  · rcases q with ⟨w, q⟩ | q
    · refine .inl ⟨w, ?_⟩
      rw [upd_ne fun z => ?_]
      · exact q
      · rw [z, h] at q; exact (ht []).2 w _ (Option.some.inj q)
    · exact .inr q
theorem SRep.write {p : Addr} {u o : HO} {n : Nat} {x : O} (s : SRep K α H S) (e : α[n]? = some p) (h : H p = some o) (ht : ∀ vs, o ≠ .tup vs ∧ ∀ b w, o ≠ .frz b w) (r : ORep K α (upd H p u) p x) : SRep K α (upd H p u) (S.set n x) := by
  refine ⟨by rw [List.length_set]; exact s.len, s.nd, fun m y q => ?_⟩
  by_cases hm : m = n
  · subst hm
    have hl := s.lt e
    rw [List.getElem?_set_self hl] at q
    cases q
    exact ⟨p, e, r⟩
  · rw [List.getElem?_set_ne (Ne.symm hm)] at q
    obtain ⟨a, e1, r1⟩ := s.at_ m y q
    refine ⟨a, e1, r1.mono (Le.write (List.mem_of_getElem? e) h ht) ?_⟩
    exact upd_ne (a := p) (b := a) fun z => hm (s.inj (by rw [z] at e1; exact e1) e)

/-! ### what an answer promises -/
abbrev Wd (β : Type) := β → Sto → List Addr → Hp → Prop
def PostR {β : Type} (K : PySem.W.Frag) (α : List Addr) (H : Hp) (r : Res β) (Q : Wd β) (E : Wd Ex) : Prop := match r with
  | .ok b S' => ∀ α' H', Le K α H α' H' → SRep K α' H' S' → Q b S' α' H'
  | .exn x S' => ∀ α' H', Le K α H α' H' → SRep K α' H' S' → E x S' α' H'
  | .stuck => False
variable {β γ : Type} {r : Res β} {Q : Wd β} {E : Wd Ex}
theorem PostR.le (h : PostR K α H r Q E) (l : Le K α H α' H') : PostR K α' H' r Q E := by
  cases r with
  | ok b S => exact fun a b' m s => h a b' (l.trans m) s
  | exn x S => exact fun a b' m s => h a b' (l.trans m) s
  | stuck => exact h
theorem PostR.bind {f : β → Sto → Res γ} {Q : Wd γ} (h : PostR K α H (r.bind f) Q E) : PostR K α H r (fun b S' α' H' => PostR K α' H' (f b S') Q E) E := by
  cases r with
  | ok b S => exact fun α' H' l s => PostR.le h l
  | exn x S => exact h
  | stuck => exact h
theorem PostR.imp {Q' : Wd β} {E' : Wd Ex} (h : PostR K α H r Q E) (hq : ∀ b S' α' H', Le K α H α' H' → SRep K α' H' S' → Q b S' α' H' → Q' b S' α' H') (he : ∀ x S' α' H', Le K α H α' H' → SRep K α' H' S' → E x S' α' H' → E' x S' α' H') : PostR K α H r Q' E' := by
  cases r with
  | ok b S => exact fun a b' m s => hq _ _ _ _ m s (h a b' m s)
  | exn x S => exact fun a b' m s => he _ _ _ _ m s (h a b' m s)
  | stuck => exact h
theorem PostR.ofO {o : Option β} {S : Sto} (h : PostR K α H (ofO o S) Q E) (s : SRep K α H S) : ∃ b, o = some b ∧ Q b S α H := by
  cases o with
  | none => exact h.elim
  | some b => exact ⟨b, rfl, h α H Le.refl s⟩
theorem PostR.now {b : β} {S : Sto} (h : PostR K α H (.ok b S) Q E) (s : SRep K α H S) : Q b S α H := h α H Le.refl s
/-- a def's names -/
def ERep (K : PySem.W.Frag) (α : List Addr) (H : Hp) (ρ : Env) (σ : St) : Prop := ρ.length = σ.length ∧ ∀ (i : Nat) (d : D), ρ[i]? = some (some d) → ∃ v, σ[i]? = some (some v) ∧ Rep K α H d v
theorem ERep.mono {ρ : Env} {σ : St} (h : ERep K α H ρ σ) (l : Le K α H α' H') : ERep K α' H' ρ σ := ⟨h.1, fun i d e =>
  let ⟨v, a, b⟩ := h.2 i d e
  ⟨v, a, b.mono l⟩⟩
theorem ERep.set {ρ : Env} {σ : St} (h : ERep K α H ρ σ) {d : D} {v : V} (r : Rep K α H d v) (i : Nat) : ERep K α H (ρ.set i (some d)) (σ.set i (some v)) := by
  refine ⟨by rw [List.length_set, List.length_set]; exact h.1, fun j e q => ?_⟩
  by_cases hj : j = i
  · subst hj
    have hl : j < ρ.length := by
      have := (List.getElem?_eq_some_iff.mp q).1
      simpa using this
    rw [List.getElem?_set_self hl] at q
    cases q
    exact ⟨v, by rw [List.getElem?_set_self (by rw [← h.1]; exact hl)], r⟩
  · rw [List.getElem?_set_ne (Ne.symm hj)] at q
    obtain ⟨w, a, b⟩ := h.2 j e q
    exact ⟨w, by rw [List.getElem?_set_ne (Ne.symm hj)]; exact a, b⟩
theorem ERep.wipe {ρ : Env} {σ : St} (h : ERep K α H ρ σ) (i : Nat) (o : Option V) : ERep K α H (ρ.set i none) (σ.set i o) := by
  refine ⟨by rw [List.length_set, List.length_set]; exact h.1, fun j e q => ?_⟩
  by_cases hj : j = i
  · subst hj
    have hl : j < ρ.length := by
      have := (List.getElem?_eq_some_iff.mp q).1
      simpa using this
    rw [List.getElem?_set_self hl] at q
    cases q
  · rw [List.getElem?_set_ne (Ne.symm hj)] at q
    obtain ⟨w, a, b⟩ := h.2 j e q
    exact ⟨w, by rw [List.getElem?_set_ne (Ne.symm hj)]; exact a, b⟩
theorem ERep.get {ρ : Env} {σ : St} (h : ERep K α H ρ σ) {i : Nat} {d : D} (e : getV ρ i = some d) : ∃ v, σ[i]? = some (some v) ∧ Rep K α H d v := by
  refine h.2 i d ?_
  unfold getV at e
  split at e
  · rename_i q
    cases e
    exact q
  · cases e

/-- an exception: its class, what it holds -/
def XRep (K : PySem.W.Frag) (α : List Addr) (H : Hp) (x : Ex) (cls : Value) (d : Option Addr) : Prop :=
  cls = .ref (He.ga K x.cls) ∧ ((x.fs = [] ∧ d = none) ∨ ∃ dd vfs, d = some dd ∧ H dd = some (.xd vfs) ∧ dd ∉ α ∧ RepF K α H x.fs vfs)
theorem XRep.mono {x : Ex} {cls : Value} {d : Option Addr} (h : XRep K α H x cls d) (l : Le K α H α' H') : XRep K α' H' x cls d := by
  obtain ⟨e, q⟩ := h
  refine ⟨e, ?_⟩
  rcases q with q | ⟨dd, vfs, e1, e2, e3, r⟩
  · exact .inl q
  · refine .inr ⟨dd, vfs, e1, l.keep _ _ e2 e3, fun z => ?_, r.mono l⟩
    obtain ⟨β, e4, hb⟩ := l.ext
    rw [e4] at z
    rcases List.mem_append.mp z with z | z
    · exact e3 z
    · rw [(hb _ z).1] at e2
      cases e2
/-- what is held while an except suite runs: the slot of its name, the exception -/
structure Hot where
  i : Option Nat
  a : Addr
  cls : Value
  d : Option Addr
  x : Ex
def CurR (K : PySem.W.Frag) (hi : Option Hot) (α : List Addr) (H : Hp) (σ : St) : Prop := match hi with
  | none => True
  | some h => XRep K α H h.x h.cls h.d ∧ ∀ i, h.i = some i → σ[i]? = some (some (.ref h.a))
theorem CurR.mono {hi : Option Hot} {σ : St} (h : CurR K hi α H σ) (l : Le K α H α' H') : CurR K hi α' H' σ := by
  cases hi with
  | none => trivial
  | some h0 => exact ⟨h.1.mono l, h.2⟩
/-- the readings of computed answers -/
def XW (K : PySem.W.Frag) (W : WX) (σ : St) : Wd Ex := fun x _ α' H' => ∀ cls d, XRep K α' H' x cls d → W cls d σ H'
def St0 (K : PySem.W.Frag) (hi : Option Hot) (α : List Addr) (H : Hp) (ρ : Env) (σ : St) (S : Sto) : Prop := ERep K α H ρ σ ∧ SRep K α H S ∧ CurR K hi α H σ
def tE (K : PySem.W.Frag) (W : WX) (hi : Option Hot) (f : Env → Sto → Res D) : TE := fun σ H Q => ∃ α ρ S, St0 K hi α H ρ σ S ∧ PostR K α H (f ρ S) (fun d _ α' H' => ∀ v, Rep K α' H' d v → Q v H') (XW K W σ)
def tA (K : PySem.W.Frag) (W : WX) (hi : Option Hot) (f : Env → Sto → Res (List D)) : TA := fun σ H Q => ∃ α ρ S, St0 K hi α H ρ σ S ∧ PostR K α H (f ρ S) (fun d _ α' H' => ∀ v, RepL K α' H' d v → Q v H') (XW K W σ)
def tT (K : PySem.W.Frag) (W : WX) (hi : Option Hot) (f : Env → Sto → Res Bool) : TT := fun σ H Q => ∃ α ρ S, St0 K hi α H ρ σ S ∧ PostR K α H (f ρ S) (fun d _ α' H' => Q d H') (XW K W σ)
def tO (K : PySem.W.Frag) (W : WX) (hi : Option Hot) (f : Env → Sto → Res (Option Int)) : TO := fun σ H Q => ∃ α ρ S, St0 K hi α H ρ σ S ∧ PostR K α H (f ρ S) (fun d _ α' H' => Q d H') (XW K W σ)
/-- the same state, further on -/
theorem St0.next {hi : Option Hot} {ρ : Env} {σ : St} (h : St0 K hi α H ρ σ S) (l : Le K α H α' H') (s : SRep K α' H' S') : St0 K hi α' H' ρ σ S' := ⟨h.1.mono l, s, h.2.2.mono l⟩
/-- a part's answer is asked, then the rest -/
theorem tE.ask {W : WX} {hi : Option Hot} {f : Env → Sto → Res D} {ρ : Env} {σ : St} {γ : Type} {g : D → Sto → Res γ} {R : Wd γ} {Q : VK} (h : St0 K hi α H ρ σ S) (p : PostR K α H ((f ρ S).bind g) R (XW K W σ))
    (q : ∀ d S' α' H' v, Le K α H α' H' → St0 K hi α' H' ρ σ S' → Rep K α' H' d v → PostR K α' H' (g d S') R (XW K W σ) → Q v H') : tE K W hi f σ H Q :=
  ⟨α, ρ, S, h, p.bind.imp (fun d S' α' H' l s z v r => q d S' α' H' v l (h.next l s) r z) fun _ _ _ _ _ _ z => z⟩
theorem tA.ask {W : WX} {hi : Option Hot} {f : Env → Sto → Res (List D)} {ρ : Env} {σ : St} {γ : Type} {g : List D → Sto → Res γ} {R : Wd γ} {Q : List V → Hp → Prop} (h : St0 K hi α H ρ σ S) (p : PostR K α H ((f ρ S).bind g) R (XW K W σ))
    (q : ∀ d S' α' H' v, Le K α H α' H' → St0 K hi α' H' ρ σ S' → RepL K α' H' d v → PostR K α' H' (g d S') R (XW K W σ) → Q v H') : tA K W hi f σ H Q :=
  ⟨α, ρ, S, h, p.bind.imp (fun d S' α' H' l s z v r => q d S' α' H' v l (h.next l s) r z) fun _ _ _ _ _ _ z => z⟩
theorem tT.ask {W : WX} {hi : Option Hot} {f : Env → Sto → Res Bool} {ρ : Env} {σ : St} {γ : Type} {g : Bool → Sto → Res γ} {R : Wd γ} {Q : Bool → Hp → Prop} (h : St0 K hi α H ρ σ S) (p : PostR K α H ((f ρ S).bind g) R (XW K W σ))
    (q : ∀ d S' α' H', Le K α H α' H' → St0 K hi α' H' ρ σ S' → PostR K α' H' (g d S') R (XW K W σ) → Q d H') : tT K W hi f σ H Q :=
  ⟨α, ρ, S, h, p.bind.imp (fun d S' α' H' l s z => q d S' α' H' l (h.next l s) z) fun _ _ _ _ _ _ z => z⟩
theorem tO.ask {W : WX} {hi : Option Hot} {f : Env → Sto → Res (Option Int)} {ρ : Env} {σ : St} {γ : Type} {g : Option Int → Sto → Res γ} {R : Wd γ} {Q : Option Int → Hp → Prop} (h : St0 K hi α H ρ σ S) (p : PostR K α H ((f ρ S).bind g) R (XW K W σ))
    (q : ∀ d S' α' H', Le K α H α' H' → St0 K hi α' H' ρ σ S' → PostR K α' H' (g d S') R (XW K W σ) → Q d H') : tO K W hi f σ H Q :=
  ⟨α, ρ, S, h, p.bind.imp (fun d S' α' H' l s z => q d S' α' H' l (h.next l s) z) fun _ _ _ _ _ _ z => z⟩
end Mp
end
section
set_option Elab.async false
set_option linter.all false
set_option maxRecDepth 100000
set_option maxHeartbeats 1000000
/-! MpOps: the operations on values, each by the layer's own rules. -/
namespace Mp
open PySem L2
variable {K : PySem.W.Frag} {α α' α'' : List Addr} {H H' H'' : Hp} {S S' : Sto} {X : Cx}

theorem rep_int {i : Int} {v : V} (h : Rep K α H (.int i) v) : v = .int i := by unfold Rep at h; exact h
theorem rep_bl {i : Bool} {v : V} (h : Rep K α H (.bl i) v) : v = .bl i := by unfold Rep at h; exact h
theorem rep_str {i : Str} {v : V} (h : Rep K α H (.str i) v) : v = .str i := by unfold Rep at h; exact h
theorem rep_non {v : V} (h : Rep K α H .non v) : v = .non := by unfold Rep at h; exact h
theorem rep_tup {ds : List D} {v : V} (h : Rep K α H (.tup ds) v) : ∃ a vs, v = .ref a ∧ SqT K H a vs ∧ RepL K α H ds vs := by unfold Rep at h; exact h
theorem rep_rol {ds : List D} {v : V} (h : Rep K α H (.rol ds) v) : ∃ a vs, v = .ref a ∧ RoL K H a vs ∧ RepL K α H ds vs := by unfold Rep at h; exact h
theorem rep_ref {n : Nat} {v : V} (h : Rep K α H (.ref n) v) : ∃ a, α[n]? = some a ∧ v = .ref a := by unfold Rep at h; exact h
theorem int_rep {i : Int} : Rep K α H (.int i) (.int i) := by unfold Rep; rfl
theorem bl_rep {i : Bool} : Rep K α H (.bl i) (.bl i) := by unfold Rep; rfl
theorem str_rep {i : Str} : Rep K α H (.str i) (.str i) := by unfold Rep; rfl
theorem non_rep : Rep K α H .non .non := by unfold Rep; rfl
theorem tup_rep {ds : List D} {a : Addr} {vs : List V} (s : SqT K H a vs) (r : RepL K α H ds vs) : Rep K α H (.tup ds) (.ref a) := by unfold Rep; exact ⟨a, vs, rfl, s, r⟩
theorem ref_rep {n : Nat} {a : Addr} (s : α[n]? = some a) : Rep K α H (.ref n) (.ref a) := by unfold Rep; exact ⟨a, s, rfl⟩
theorem lst_at (sr : SRep K α H S) {n : Nat} {a : Addr} {ds : List D} (e : α[n]? = some a) (h : S[n]? = some (.lst ds)) : ∃ vs, H a = some (.lst vs) ∧ RepL K α H ds vs := sr.adr h e
theorem ins_at (sr : SRep K α H S) {n : Nat} {a : Addr} {c : Str} {fs : List (Str × D)} (e : α[n]? = some a) (h : S[n]? = some (.ins c fs)) : ∃ dx vs, H a = some (.ins (He.ga K c) dx vs) ∧ RepF K α H fs vs := sr.adr h e
/-- a sequence that is read -/
theorem items_at (sr : SRep K α H S) {d : D} {v : V} {ds : List D} (r : Rep K α H d v) (h : itemsD d S = some ds) : ∃ a vs, v = .ref a ∧ (SqL K H a vs ∨ SqT K H a vs) ∧ RepL K α H ds vs := by
  cases d with
  | tup es =>
    cases h
    obtain ⟨a, vs, e, s, t⟩ := rep_tup r
    exact ⟨a, vs, e, .inr s, t⟩
  | rol es =>
    cases h
    obtain ⟨a, vs, e, s, t⟩ := rep_rol r
    exact ⟨a, vs, e, .inl s.sq, t⟩
  | ref n =>
    obtain ⟨a, e, rfl⟩ := rep_ref r
    unfold itemsD at h
    dsimp only at h
    split at h
    · rename_i q
      cases h
      obtain ⟨vs, e1, t⟩ := lst_at sr e q
      exact ⟨a, vs, rfl, .inl (SqL.of e1), t⟩
    · cases h
  | _ => cases h

/-- what is wanted of an answer that raises nothing -/
def Gv (K : PySem.W.Frag) (α : List Addr) (H : Hp) (r : Res D) (Q : VK) : Prop := PostR K α H r (fun d _ α' H' => ∀ v, Rep K α' H' d v → Q v H') (fun _ _ _ _ => False)
theorem Gv.now {d : D} {Q : VK} {v : V} (h : Gv K α H (.ok d S) Q) (s : SRep K α H S) (r : Rep K α H d v) : Q v H := h α H Le.refl s v r
theorem Gv.ofO {o : Option D} {Q : VK} (h : Gv K α H (Mp.ofO o S) Q) (s : SRep K α H S) : ∃ d, o = some d ∧ ∀ v, Rep K α H d v → Q v H := by
  cases o with
  | none => exact h.elim
  | some d => exact ⟨d, rfl, fun v r => h α H Le.refl s v r⟩
/-- a new tuple -/
theorem Gv.tup {ds : List D} {vs : List V} {Q : VK} (h : Gv K α H (.ok (.tup ds) S) Q) (s : SRep K α H S) (r : RepL K α H ds vs) : ∀ p, H p = none → Q (.ref p) (upd H p (.tup vs)) := fun p hp =>
  h α _ (Le.new hp) (s.new hp) (.ref p) (tup_rep (SqT.of upd_same) (r.mono (Le.new hp)))
/-- a new list -/
theorem Gv.lst {ds : List D} {vs : List V} {Q : VK} (h : Gv K α H (.ok (.ref S.length) (S ++ [.lst ds])) Q) (s : SRep K α H S) (r : RepL K α H ds vs) : ∀ p, H p = none → Q (.ref p) (upd H p (.lst vs)) := fun p hp => by
  have hn := s.fresh hp
  have l : Le K α H (α ++ [p]) (upd H p (.lst vs)) := Le.push hp hn
  refine h _ _ l (s.push hp hn ⟨vs, upd_same, r.mono l⟩) (.ref p) (ref_rep ?_)
  rw [← s.len, List.getElem?_append_right (Nat.le_refl _), Nat.sub_self]
  rfl
def nolst {o : HO} {vs : List V} (h : o = .lst vs) : ∀ ws, o ≠ .tup ws ∧ ∀ b w, o ≠ .frz b w := fun ws => by subst h; exact ⟨nofun, fun _ _ => nofun⟩
/-- a list written -/
theorem Gv.put {n : Nat} {a : Addr} {ds : List D} {d : D} {v : V} {ws vs : List V} {Q : VK} (h : Gv K α H (.ok d (S.set n (.lst ds))) Q) (s : SRep K α H S) (e : α[n]? = some a) (q : H a = some (.lst ws)) (r : RepL K α H ds vs) (rd : Rep K α H d v) : Q v (upd H a (.lst vs)) := by
  have l : Le K α H α (upd H a (.lst vs)) := Le.write (List.mem_of_getElem? e) q (nolst rfl)
  exact h α _ l (s.write e q (nolst rfl) ⟨vs, upd_same, r.mono l⟩) v (rd.mono l)

/-! ### two-place operators -/
def rOf (K : PySem.W.Frag) (f : D → D → Sto → Res D) : R2 := fun x y H Q => ∃ α S dx dy, SRep K α H S ∧ Rep K α H dx x ∧ Rep K α H dy y ∧ Gv K α H (f dx dy S) Q
theorem opr_add : OpR X (binaryOp .Add) (rOf X.K addD) := by
  rintro pins s σ H x y v u Q I rx ry ⟨α, S, dx, dy, sr, hx, hy, g⟩
  unfold addD at g
  split at g
  · cases rep_int hx
    cases rep_int hy
    exact op_add pins s σ H _ _ v u Q I rx ry ⟨_, _, rfl, rfl, g.now sr int_rep⟩
  · cases rep_str hx
    cases rep_str hy
    split at g
    · rename_i hl
      exact op_add_str pins s σ H _ _ v u Q I rx ry ⟨_, _, rfl, rfl, hl, g.now sr str_rep⟩
    · exact g.elim
  · obtain ⟨a, xs, rfl, ha, ra⟩ := rep_tup hx
    obtain ⟨b, ys, rfl, hb, rb⟩ := rep_tup hy
    split at g
    · rename_i hl
      refine op_catA pins s σ H _ _ v u Q I rx ry ⟨a, b, xs, ys, rfl, rfl, ha, hb, by rw [← ra.length, ← rb.length]; exact hl, fun e => ?_, fun _ e => ?_, fun _ _ => g.tup sr (ra.append rb)⟩
      · subst e
        refine g.now sr (tup_rep hb ?_)
        have := ra.length
        rw [List.length_nil] at this
        rw [List.eq_nil_of_length_eq_zero this]
        exact rb
      · subst e
        refine g.now sr (tup_rep ha ?_)
        have := rb.length
        rw [List.length_nil] at this
        rw [List.eq_nil_of_length_eq_zero this, List.append_nil]
        exact ra
    · exact g.elim
  · obtain ⟨a, ea, rfl⟩ := rep_ref hx
    obtain ⟨b, eb, rfl⟩ := rep_ref hy
    split at g
    · rename_i h1 h2
      obtain ⟨xs, qa, ra⟩ := lst_at sr ea h1
      obtain ⟨ys, qb, rb⟩ := lst_at sr eb h2
      split at g
      · rename_i hl
        exact op_cat pins s σ H _ _ v u Q I rx ry ⟨a, b, xs, ys, rfl, rfl, qa, qb, by rw [← ra.length, ← rb.length]; exact hl, g.lst sr (ra.append rb)⟩
      · exact g.elim
    · exact g.elim
  · exact g.elim
theorem opr_bin (op : Operator) : OpR X (binaryOp op) (rOf X.K (binD op)) := by
  rintro pins s σ H x y v u Q I rx ry ⟨α, S, dx, dy, sr, hx, hy, g⟩
  cases op
  case Add => exact opr_add pins s σ H x y v u Q I rx ry ⟨α, S, dx, dy, sr, hx, hy, g⟩
  case Sub =>
    unfold binD at g
    dsimp only at g
    split at g
    · cases rep_int hx
      cases rep_int hy
      exact op_sub pins s σ H _ _ v u Q I rx ry ⟨_, _, rfl, rfl, g.now sr int_rep⟩
    · exact g.elim
  case Mult =>
    unfold binD at g
    dsimp only at g
    split at g
    · cases rep_int hx
      cases rep_int hy
      split at g
      · rename_i hc
        exact op_mul pins s σ H _ _ v u Q I rx ry ⟨_, _, rfl, rfl, hc, g.now sr int_rep⟩
      · exact g.elim
    · obtain ⟨a, xs, rfl, ha, ra⟩ := rep_tup hx
      cases rep_int hy
      split at g
      · rename_i hc
        obtain ⟨c1, c2, c3, c4⟩ := hc
        refine op_repT pins s σ H _ _ v u Q I rx ry ⟨a, _, xs, rfl, rfl, ha, ?_, c3, c4, by rw [← ra.length]; exact c2, g.tup sr (ra.rep _)⟩
        rintro rfl
        have := ra.length
        rw [List.length_nil] at this
        exact c1 (List.eq_nil_of_length_eq_zero this)
      · exact g.elim
    · exact g.elim
  case FloorDiv =>
    unfold binD at g
    dsimp only at g
    split at g
    · cases rep_int hx
      cases rep_int hy
      split at g
      · rename_i hc
        exact op_fdiv pins s σ H _ _ v u Q I rx ry ⟨_, _, rfl, rfl, hc, g.now sr int_rep⟩
      · exact g.elim
    · exact g.elim
  case Mod =>
    unfold binD at g
    dsimp only at g
    split at g
    · cases rep_int hx
      cases rep_int hy
      split at g
      · rename_i hc
        exact op_mod pins s σ H _ _ v u Q I rx ry ⟨_, _, rfl, rfl, hc, g.now sr int_rep⟩
      · exact g.elim
    · exact g.elim
  case Pow =>
    unfold binD at g
    dsimp only at g
    split at g
    · cases rep_int hx
      cases rep_int hy
      split at g
      · rename_i hc
        exact op_pow pins s σ H _ _ v u Q I rx ry ⟨_, _, rfl, rfl, hc, g.now sr int_rep⟩
      · exact g.elim
    · exact g.elim
  all_goals exact g.elim

/-! ### comparisons -/
mutual
theorem rep_py : ∀ (d : D) (v : V) (p : PyData), Rep K α H d v → d.py = some p → Dp K H v p
  | .non, v, p, r, e => by cases rep_non r; unfold D.py at e; cases e; exact .non
  | .bl b, v, p, r, e => by cases rep_bl r; unfold D.py at e; cases e; exact .bl b
  | .int i, v, p, r, e => by cases rep_int r; unfold D.py at e; cases e; exact .int i
  | .str x, v, p, r, e => by cases rep_str r; unfold D.py at e; cases e; exact .str x
  | .tup ds, v, p, r, e => by
    obtain ⟨a, vs, rfl, s, t⟩ := rep_tup r
    unfold D.py at e
    cases q : pyL ds with
    | none => rw [q] at e; cases e
    | some ps =>
      rw [q] at e
      cases e
      exact .tup s (rep_pyL ds vs ps t q)
  | .rol ds, v, p, r, e => by unfold D.py at e; cases e
  | .ref n, v, p, r, e => by unfold D.py at e; cases e
theorem rep_pyL : ∀ (ds : List D) (vs : List V) (ps : List PyData), RepL K α H ds vs → pyL ds = some ps → DpAll K H vs ps
  | [], vs, ps, r, e => by unfold RepL at r; unfold pyL at e; cases e; subst r; exact .nil
  | d :: ds, vs, ps, r, e => by
    obtain ⟨v, vr, rfl, r1, r2⟩ := r.inv
    unfold pyL at e
    cases q : d.py with
    | none => rw [q] at e; cases e
    | some p =>
      rw [q] at e
      cases q2 : pyL ds with
      | none => rw [q2] at e; cases e
      | some pr =>
        rw [q2] at e
        cases e
        exact .cons (rep_py d v p r1 q) (rep_pyL ds vr pr r2 q2)
end
/-- the answer of a comparison -/
def Gb (K : PySem.W.Frag) (α : List Addr) (H : Hp) (o : Option Bool) (Q : VK) : Prop := ∃ b, o = some b ∧ Q (.bl b) H
def rCmp (K : PySem.W.Frag) (op : CmpOp) : R2 := fun x y H Q => ∃ α S dx dy, SRep K α H S ∧ Rep K α H dx x ∧ Rep K α H dy y ∧ Gb K α H (cmpD op dx dy S) Q
theorem scal_of {K : PySem.W.Frag} {α : List Addr} {H : Hp} {dx dy : D} {x y : V} {b : Bool} (hx : Rep K α H dx x) (hy : Rep K α H dy y) (h : eqD dx dy = some b) :
    (scal x y = true ∧ b = decide (x = y)) ∨ ∃ p q, Dp K H x p ∧ Dp K H y q ∧ SeqAt.shaped p = true ∧ SeqAt.shaped q = true ∧ b = PyData.eqv p q := by
  have gen : (match dx.py, dy.py with
      | some p, some q => if SeqAt.shaped p && SeqAt.shaped q then some (PyData.eqv p q) else none
      | _, _ => none) = some b → ∃ p q, Dp K H x p ∧ Dp K H y q ∧ SeqAt.shaped p = true ∧ SeqAt.shaped q = true ∧ b = PyData.eqv p q := fun h => by
    split at h
    · rename_i p q ep eq
      split at h
      · rename_i hc
        cases h
        obtain ⟨c1, c2⟩ := Bool.and_eq_true_iff.mp hc
        exact ⟨p, q, rep_py _ _ _ hx ep, rep_py _ _ _ hy eq, c1, c2, rfl⟩
      · cases h
    · cases h
  unfold eqD at h
  split at h
  case h_1 => cases rep_non hx; cases rep_non hy; cases h; exact .inl ⟨rfl, rfl⟩
  case h_2 => cases rep_non hx; cases rep_int hy; cases h; exact .inl ⟨rfl, (decide_eq_false nofun).symm⟩
  case h_3 => cases rep_int hx; cases rep_non hy; cases h; exact .inl ⟨rfl, (decide_eq_false nofun).symm⟩
  case h_4 => cases rep_non hx; cases rep_bl hy; cases h; exact .inl ⟨rfl, (decide_eq_false nofun).symm⟩
  case h_5 => cases rep_bl hx; cases rep_non hy; cases h; exact .inl ⟨rfl, (decide_eq_false nofun).symm⟩
  case h_6 => cases rep_non hx; cases rep_str hy; cases h; exact .inl ⟨rfl, (decide_eq_false nofun).symm⟩
  case h_7 => cases rep_str hx; cases rep_non hy; cases h; exact .inl ⟨rfl, (decide_eq_false nofun).symm⟩
  case h_8 =>
    cases rep_int hx; cases rep_int hy; cases h
    exact .inl ⟨rfl, by rw [Bool.eq_iff_iff]; simp⟩
  case h_9 =>
    cases rep_bl hx; cases rep_bl hy; cases h
    exact .inl ⟨rfl, by rw [Bool.eq_iff_iff]; simp⟩
  case h_10 =>
    cases rep_str hx; cases rep_str hy; cases h
    exact .inl ⟨rfl, by rw [Bool.eq_iff_iff]; simp⟩
  case h_11 => cases rep_int hx; cases rep_str hy; cases h; exact .inl ⟨rfl, (decide_eq_false nofun).symm⟩
  case h_12 => cases rep_str hx; cases rep_int hy; cases h; exact .inl ⟨rfl, (decide_eq_false nofun).symm⟩
  case h_13 => cases rep_bl hx; cases rep_str hy; cases h; exact .inl ⟨rfl, (decide_eq_false nofun).symm⟩
  case h_14 => cases rep_str hx; cases rep_bl hy; cases h; exact .inl ⟨rfl, (decide_eq_false nofun).symm⟩
  case h_15 => exact .inr (gen h)
theorem in_of {K : PySem.W.Frag} {α : List Addr} {H : Hp} {S : Sto} {dx dy : D} {x y : V} {b : Bool} (sr : SRep K α H S) (hx : Rep K α H dx x) (hy : Rep K α H dy y) (h : inD dx dy S = some b) :
    ∃ a vs p ps, y = .ref a ∧ (SqL K H a vs ∨ SqT K H a vs) ∧ DpAll K H vs ps ∧ Dp K H x p ∧ SeqAt.shaped p = true ∧ SeqAt.shaped (.list ps) = true ∧ b = ps.any fun z => PyData.eqv z p := by
  unfold inD at h
  split at h
  · rename_i ds e
    obtain ⟨a, vs, rfl, hs, r⟩ := items_at sr hy e
    split at h
    · rename_i p ps ep eq
      split at h
      · rename_i hc
        cases h
        obtain ⟨c1, c2⟩ := Bool.and_eq_true_iff.mp hc
        exact ⟨a, vs, p, ps, rfl, hs, rep_pyL _ _ _ r eq, rep_py _ _ _ hx ep, c1, c2, rfl⟩
      · cases h
    · cases h
  · cases h
end Mp
end
section
set_option Elab.async false
set_option linter.all false
set_option maxRecDepth 100000
set_option maxHeartbeats 1000000
/-! MpOps2: comparisons, subscripts, slices, built-ins, methods. -/
namespace Mp
open PySem L2
variable {K : PySem.W.Frag} {α α' α'' : List Addr} {H H' H'' : Hp} {S S' : Sto} {X : Cx}

theorem dpAll_list {K : PySem.W.Frag} {H : Hp} {a : Addr} {vs : List V} {ps : List PyData} (h : SqL K H a vs) (r : DpAll K H vs ps) : Dp K H (.ref a) (.list ps) := .lst h r
theorem shaped_tuple {ps : List PyData} (h : SeqAt.shaped (.list ps) = true) : SeqAt.shaped (.tuple ps) = true := by
  unfold SeqAt.shaped at h ⊢
  unfold PyData.canLay0 PyData.depth at h
  unfold PyData.canLay0 PyData.depth
  exact h
theorem opr_cmp (hu : X.A.units + 65 < cLine) (op : CmpOp) : OpR X (compareOp op) (rCmp X.K op) := by
  rintro pins s σ H x y v u Q I rx ry ⟨α, S, dx, dy, sr, hx, hy, b, e, q⟩
  have h64 : X.A.units + 64 < cLine := by omega
  cases op
  case Eq =>
    rcases scal_of hx hy (show eqD dx dy = some b from e) with ⟨h1, rfl⟩ | ⟨p, p', h1, h2, h3, h4, rfl⟩
    · exact op_eq pins s σ H x y v u Q I rx ry ⟨h1, q⟩
    · exact op_eqD h64 pins s σ H x y v u Q I rx ry ⟨p, p', h1, h2, h3, h4, q⟩
  case NotEq =>
    obtain ⟨b', e', rfl⟩ := Option.map_eq_some_iff.mp (show (eqD dx dy).map (!·) = some b from e)
    rcases scal_of hx hy e' with ⟨h1, rfl⟩ | ⟨p, p', h1, h2, h3, h4, rfl⟩
    · exact op_ne pins s σ H x y v u Q I rx ry ⟨h1, q⟩
    · exact op_neD h64 pins s σ H x y v u Q I rx ry ⟨p, p', h1, h2, h3, h4, q⟩
  case Lt =>
    unfold cmpD at e
    dsimp only at e
    split at e
    · cases rep_int hx; cases rep_int hy; cases e
      exact op_lt pins s σ H _ _ v u Q I rx ry ⟨_, _, rfl, rfl, q⟩
    · cases e
  case LtE =>
    unfold cmpD at e
    dsimp only at e
    split at e
    · cases rep_int hx; cases rep_int hy; cases e
      exact op_le pins s σ H _ _ v u Q I rx ry ⟨_, _, rfl, rfl, q⟩
    · cases e
  case Gt =>
    unfold cmpD at e
    dsimp only at e
    split at e
    · cases rep_int hx; cases rep_int hy; cases e
      exact op_gt pins s σ H _ _ v u Q I rx ry ⟨_, _, rfl, rfl, q⟩
    · cases e
  case GtE =>
    unfold cmpD at e
    dsimp only at e
    split at e
    · cases rep_int hx; cases rep_int hy; cases e
      exact op_ge pins s σ H _ _ v u Q I rx ry ⟨_, _, rfl, rfl, q⟩
    · cases e
  case Is =>
    unfold cmpD at e
    dsimp only at e
    split at e
    · cases rep_non hy; cases e
      refine op_isN pins s σ H _ _ v u Q I rx ry ⟨rfl, ?_⟩
      have ex : decide (x = V.non) = isNon dx := by
        cases dx with
        | non => cases rep_non hx; exact decide_eq_true rfl
        | bl _ => cases rep_bl hx; exact decide_eq_false nofun
        | int _ => cases rep_int hx; exact decide_eq_false nofun
        | str _ => cases rep_str hx; exact decide_eq_false nofun
        | tup _ => obtain ⟨_, _, rfl, _⟩ := rep_tup hx; exact decide_eq_false nofun
        | rol _ => obtain ⟨_, _, rfl, _⟩ := rep_rol hx; exact decide_eq_false nofun
        | ref _ => obtain ⟨_, _, rfl⟩ := rep_ref hx; exact decide_eq_false nofun
      rw [ex]
      exact q
    · cases rep_bl hy
      split at e
      · cases rep_bl hx; cases e
        exact op_is_bl pins s σ H _ _ v u Q I rx ry ⟨_, _, rfl, rfl, q⟩
      · cases e
    · cases e
  case IsNot =>
    unfold cmpD at e
    dsimp only at e
    split at e
    · cases rep_non hy; cases e
      refine op_notN pins s σ H _ _ v u Q I rx ry ⟨rfl, ?_⟩
      have ex : (!decide (x = V.non)) = !isNon dx := by
        cases dx with
        | non => cases rep_non hx; rw [decide_eq_true rfl]; rfl
        | bl _ => cases rep_bl hx; rw [decide_eq_false nofun]; rfl
        | int _ => cases rep_int hx; rw [decide_eq_false nofun]; rfl
        | str _ => cases rep_str hx; rw [decide_eq_false nofun]; rfl
        | tup _ => obtain ⟨_, _, rfl, _⟩ := rep_tup hx; rw [decide_eq_false nofun]; rfl
        | rol _ => obtain ⟨_, _, rfl, _⟩ := rep_rol hx; rw [decide_eq_false nofun]; rfl
        | ref _ => obtain ⟨_, _, rfl⟩ := rep_ref hx; rw [decide_eq_false nofun]; rfl
      rw [ex]
      exact q
    · cases rep_bl hy
      split at e
      · cases rep_bl hx; cases e
        exact op_isnot_bl pins s σ H _ _ v u Q I rx ry ⟨_, _, rfl, rfl, q⟩
      · cases e
    · cases e
  case In =>
    unfold cmpD at e
    dsimp only at e
    split at e
    · cases rep_str hy
      split at e
      · cases rep_str hx; cases e
        exact op_in_sign pins s σ H _ _ v u Q I rx ry ⟨_, _, rfl, rfl, q⟩
      · cases e
    · obtain ⟨a, vs, p, ps, rfl, hs, hd, hp, h1, h2, rfl⟩ := in_of sr hx hy e
      rcases hs with hs | hs
      · exact op_inD hu pins s σ H _ _ v u Q I rx ry ⟨p, ps, hp, .lst hs hd, h1, h2, q⟩
      · obtain ⟨as, r1⟩ := Dp.reads I p x v hp rx
        obtain ⟨bs, r2⟩ := Dp.reads I (.tuple ps) (.ref a) u (.tup hs hd) ry
        exact SeqAt.in_tuple_reads r2 r1 (SeqAt.canLay_of_shaped (shaped_tuple h2)) (SeqAt.canLay_of_shaped h1) (PyProof.Rows.room_in_shaped h1 hu) ⟨.bl _, H, I, rfl, q⟩
  case NotIn =>
    unfold cmpD at e
    dsimp only at e
    split at e
    · cases rep_str hy
      split at e
      · cases rep_str hx; cases e
        exact op_notIn_sign pins s σ H _ _ v u Q I rx ry ⟨_, _, rfl, rfl, q⟩
      · cases e
    · obtain ⟨b', e', rfl⟩ := Option.map_eq_some_iff.mp e
      obtain ⟨a, vs, p, ps, rfl, hs, hd, hp, h1, h2, rfl⟩ := in_of sr hx hy e'
      rcases hs with hs | hs
      · exact op_notInD hu pins s σ H _ _ v u Q I rx ry ⟨p, ps, hp, .lst hs hd, h1, h2, q⟩
      · obtain ⟨as, r1⟩ := Dp.reads I p x v hp rx
        obtain ⟨bs, r2⟩ := Dp.reads I (.tuple ps) (.ref a) u (.tup hs hd) ry
        exact SeqAt.notIn_tuple_reads r2 r1 (SeqAt.canLay_of_shaped (shaped_tuple h2)) (SeqAt.canLay_of_shaped h1) (PyProof.Rows.room_in_shaped h1 hu) ⟨.bl _, H, I, rfl, q⟩

/-! ### subscripts, slices -/
theorem atI_rep {ds : List D} {vs : List V} {i : Int} {d : D} (r : RepL K α H ds vs) (h : L2.atI ds i = some d) : ∃ v, L2.atI vs i = some v ∧ Rep K α H d v := by
  unfold L2.atI at h ⊢
  rw [← r.length]
  obtain ⟨j, e1, e2⟩ := Option.bind_eq_some_iff.mp h
  obtain ⟨v, h1, h2⟩ := r.get e2
  exact ⟨v, by rw [e1]; exact h1, h2⟩
/-- x[i] -/
def rIxD (K : PySem.W.Frag) : R2 := fun x y H Q => ∃ α S dx k, SRep K α H S ∧ Rep K α H dx x ∧ y = .int k ∧ Gv K α H (ofO (ixD dx k S) S) Q
theorem ixr_d : IxR X (rIxD X.K) := by
  rintro value slice pins s σ H x y v u Q I rx ry ⟨α, S, dx, k, sr, hx, rfl, g⟩ hs
  obtain ⟨d, e, q⟩ := g.ofO sr
  have seq : ∀ ds, itemsD dx S = some ds → L2.atI ds k = some d → wpAny (model X.prog X.w) X.A (PyProof.Rows.subscriptTail value slice v u) (EP X pins σ Q) X.xe s := fun ds e1 e2 => by
    obtain ⟨a, vs, rfl, h, r⟩ := items_at sr hx e1
    obtain ⟨w, e3, rw'⟩ := atI_rep r e2
    exact ix_seq value slice pins s σ H _ _ v u Q I rx ry (h.elim (fun h => .inl ⟨a, vs, k, w, rfl, rfl, h, e3, q w rw'⟩) fun h => .inr (.inl ⟨a, vs, k, w, rfl, rfl, h, e3, q w rw'⟩)) hs
  unfold ixD at e
  split at e
  · cases rep_str hx
    split at e
    · rename_i hl
      obtain ⟨c, e1, rfl⟩ := Option.map_eq_some_iff.mp e
      exact ix_seq value slice pins s σ H _ _ v u Q I rx ry (.inr (.inr ⟨_, k, c, rfl, rfl, hl, e1, q _ str_rep⟩)) hs
    · cases e
  · obtain ⟨ds, e1, e2⟩ := Option.bind_eq_some_iff.mp e
    exact seq ds e1 e2
/-- x[lo:hi] -/
def rSlD (K : PySem.W.Frag) : V → Option Int → Option Int → Hp → VK → Prop := fun x lo hi H Q => ∃ α S dx, SRep K α H S ∧ Rep K α H dx x ∧ Gv K α H (slcD dx lo hi S) Q
theorem cut_all {ds : List D} {lo hi : Option Int} (h : HT.sIx ds.length 0 lo = 0 ∧ HT.sIx ds.length ds.length hi = ds.length) : cutD ds lo hi = ds := by
  unfold cutD
  rw [h.1, h.2, List.drop_zero, Nat.sub_zero, List.take_length]
theorem slr_d : SlR X (rSlD X.K) := by
  rintro pins s σ H x v vl vu lo hi sl Q I rx hs pl pu ⟨α, S, dx, sr, hx, g⟩
  unfold slcD at g
  split at g
  · obtain ⟨a, xs, rfl, ha, r⟩ := rep_tup hx
    refine sl_tupA pins s σ H _ v vl vu lo hi sl Q I rx hs pl pu ⟨a, xs, rfl, ha, fun e => ?_, fun _ => g.tup sr (r.cutV lo hi)⟩
    rw [← r.length] at e
    rw [cut_all e] at g
    exact g.now sr (tup_rep ha r)
  · cases rep_str hx
    split at g
    · rename_i z hl
      refine sl_str pins s σ H _ v vl vu lo hi sl Q I rx hs pl pu ⟨z, rfl, hl, g.now sr ?_⟩
      unfold cutS cutD
      have e : z.cps.toList.length = z.length := by simp [Str.length]
      rw [e]
      exact str_rep
    · exact g.elim
  · obtain ⟨a, e, rfl⟩ := rep_ref hx
    split at g
    · rename_i q
      obtain ⟨vs, e1, r⟩ := lst_at sr e q
      exact sl_list pins s σ H _ v vl vu lo hi sl Q I rx hs pl pu ⟨a, vs, rfl, SqL.of e1, g.lst sr (r.cutV lo hi)⟩
    · exact g.elim
  · exact g.elim

/-! ### built-ins -/
def rBlt (K : PySem.W.Frag) (b : Blt) : List V → Hp → VK → Prop := fun xs H Q => ∃ α S ds, SRep K α H S ∧ RepL K α H ds xs ∧ Gv K α H (bltD b ds S) Q
theorem repL1 {d : D} {xs : List V} (r : RepL K α H [d] xs) : ∃ v, xs = [v] ∧ Rep K α H d v := by
  obtain ⟨v, vr, rfl, h, t⟩ := r.inv
  unfold RepL at t
  exact ⟨v, by rw [t], h⟩
theorem repL2 {d e : D} {xs : List V} (r : RepL K α H [d, e] xs) : ∃ v w, xs = [v, w] ∧ Rep K α H d v ∧ Rep K α H e w := by
  obtain ⟨v, vr, rfl, h, t⟩ := r.inv
  obtain ⟨w, rfl, t2⟩ := repL1 t
  exact ⟨v, w, rfl, h, t2⟩
theorem bls_rep : ∀ {ds : List D} {vs : List V} {bs : List Bool}, RepL K α H ds vs → blsOf ds = some bs → vs = bs.map V.bl
  | [], vs, bs, r, e => by unfold RepL at r; unfold blsOf at e; cases e; rw [r]; rfl
  | d :: ds, vs, bs, r, e => by
    obtain ⟨v, vr, rfl, h, t⟩ := r.inv
    cases d with
    | bl b =>
      unfold blsOf at e
      obtain ⟨cs, e1, rfl⟩ := Option.map_eq_some_iff.mp e
      cases rep_bl h
      rw [bls_rep t e1]
      rfl
    | _ => unfold blsOf at e; cases e
theorem cr_len : CallR X (.builtin "len") (rBlt X.K .len) := by
  rintro pins s σ H xs us Q I r ⟨α, S, ds, sr, hd, g⟩
  unfold bltD at g
  dsimp only at g
  split at g <;> first | exact g.elim | skip
  · obtain ⟨v, rfl, h⟩ := repL1 hd
    cases rep_str h
    split at g
    · rename_i hl
      exact call_len_str pins s σ H _ us Q I r ⟨_, rfl, hl, g.now sr int_rep⟩
    · exact g.elim
  · obtain ⟨v, rfl, h⟩ := repL1 hd
    obtain ⟨d, e, q⟩ := g.ofO sr
    obtain ⟨es, e1, rfl⟩ := Option.map_eq_some_iff.mp e
    obtain ⟨a, vs, rfl, hs, t⟩ := items_at sr h e1
    exact call_len_seq pins s σ H _ us Q I r ⟨a, vs, rfl, hs, by rw [← t.length]; exact q _ int_rep⟩
theorem cr_tuple : CallR X (.type "tuple") (rBlt X.K .tuple) := by
  rintro pins s σ H xs us Q I r ⟨α, S, ds, sr, hd, g⟩
  unfold bltD at g
  dsimp only at g
  split at g <;> first | exact g.elim | skip
  · obtain ⟨v, rfl, h⟩ := repL1 hd
    obtain ⟨a, vs, rfl, hs, t⟩ := rep_tup h
    exact call_tuple_of pins s σ H _ us Q I r ⟨a, vs, rfl, .inr ⟨hs, g.now sr (tup_rep hs t)⟩⟩
  · obtain ⟨v, rfl, h⟩ := repL1 hd
    obtain ⟨a, vs, rfl, hs, t⟩ := rep_rol h
    exact call_tuple_of pins s σ H _ us Q I r ⟨a, vs, rfl, .inl ⟨hs.sq, g.tup sr t⟩⟩
  · obtain ⟨v, rfl, h⟩ := repL1 hd
    obtain ⟨a, ea, rfl⟩ := rep_ref h
    unfold itemsD at g
    dsimp only at g
    split at g
    · rename_i q
      obtain ⟨vs, e1, t⟩ := lst_at sr ea q
      exact call_tuple_of pins s σ H _ us Q I r ⟨a, vs, rfl, .inl ⟨SqL.of e1, Gv.tup g sr t⟩⟩
    · exact g.elim
theorem cr_list : CallR X (.type "list") (rBlt X.K .list) := by
  rintro pins s σ H xs us Q I r ⟨α, S, ds, sr, hd, g⟩
  unfold bltD at g
  dsimp only at g
  split at g <;> first | exact g.elim | skip
  obtain ⟨v, rfl, h⟩ := repL1 hd
  split at g
  · rename_i es e1
    obtain ⟨a, vs, rfl, hs, t⟩ := items_at sr h e1
    exact call_list_of pins s σ H _ us Q I r ⟨a, vs, rfl, hs, g.lst sr t⟩
  · exact g.elim
theorem cr_all' (hc : X.calm = true) : CallR X (.builtin "all") (rBlt X.K .all) := by
  rintro pins s σ H xs us Q I r ⟨α, S, ds, sr, hd, g⟩
  unfold bltD at g
  dsimp only at g
  split at g <;> first | exact g.elim | skip
  obtain ⟨v, rfl, h⟩ := repL1 hd
  obtain ⟨d, e, q⟩ := g.ofO sr
  obtain ⟨bs, e1, rfl⟩ := Option.map_eq_some_iff.mp e
  obtain ⟨es, e2, e3⟩ := Option.bind_eq_some_iff.mp e1
  obtain ⟨a, ea, rfl⟩ := rep_ref h
  unfold itemsD at e2
  dsimp only at e2
  split at e2
  · rename_i q1
    cases e2
    obtain ⟨vs, e4, t⟩ := lst_at sr ea q1
    exact L2.cr_all hc pins s σ H _ us Q I r ⟨a, bs, rfl, by rw [← bls_rep t e3]; exact SqL.of e4, q _ bl_rep⟩
  · cases e2
theorem cr_max (hc : X.calm = true) : CallR X (.builtin "max") (rBlt X.K .max) := by
  rintro pins s σ H xs us Q I r ⟨α, S, ds, sr, hd, g⟩
  unfold bltD at g
  dsimp only at g
  split at g <;> first | exact g.elim | skip
  obtain ⟨v, w, rfl, h1, h2⟩ := repL2 hd
  cases rep_int h1
  cases rep_int h2
  exact call_max2 hc pins s σ H _ us Q I r ⟨_, _, rfl, g.now sr int_rep⟩
theorem cr_min (hc : X.calm = true) : CallR X (.builtin "min") (rBlt X.K .min) := by
  rintro pins s σ H xs us Q I r ⟨α, S, ds, sr, hd, g⟩
  unfold bltD at g
  dsimp only at g
  split at g <;> first | exact g.elim | skip
  obtain ⟨v, w, rfl, h1, h2⟩ := repL2 hd
  cases rep_int h1
  cases rep_int h2
  exact call_min2 hc pins s σ H _ us Q I r ⟨_, _, rfl, g.now sr int_rep⟩
theorem cr_int : CallR X (.type "int") (rBlt X.K .int) := by
  rintro pins s σ H xs us Q I r ⟨α, S, ds, sr, hd, g⟩
  unfold bltD at g
  dsimp only at g
  split at g <;> first | exact g.elim | skip
  · obtain ⟨v, rfl, h1⟩ := repL1 hd
    cases rep_int h1
    exact call_int1 pins s σ H _ us Q I r (.inl ⟨_, rfl, g.now sr int_rep⟩)
  · obtain ⟨v, rfl, h1⟩ := repL1 hd
    cases rep_bl h1
    exact call_int1 pins s σ H _ us Q I r (.inr ⟨_, rfl, g.now sr int_rep⟩)
  · obtain ⟨v, rfl, h1⟩ := repL1 hd
    cases rep_str h1
    split at g
    · rename_i z hl
      obtain ⟨d, hd2, q⟩ := g.ofO sr
      cases hn : PySem.intText? z with
      | none => rw [hn] at hd2; cases hd2
      | some n =>
        rw [hn] at hd2
        cases hd2
        exact call_int_str pins s σ H _ us Q I r ⟨z, n, rfl, hn, hl, q _ int_rep⟩
    · exact g.elim
theorem cr_str : CallR X (.type "str") (rBlt X.K .str) := by
  rintro pins s σ H xs us Q I r ⟨α, S, ds, sr, hd, g⟩
  unfold bltD at g
  dsimp only at g
  split at g <;> first | exact g.elim | skip
  · obtain ⟨v, rfl, h1⟩ := repL1 hd
    cases rep_int h1
    split at g
    · rename_i hl
      exact call_str_int pins s σ H _ us Q I r ⟨_, rfl, hl, g.now sr str_rep⟩
    · exact g.elim
  · obtain ⟨v, rfl, h1⟩ := repL1 hd
    cases rep_str h1
    exact SkE.call_str_str pins s σ H _ us Q I r ⟨_, rfl, g.now sr str_rep⟩

/-! ### methods -/
def rBm (K : PySem.W.Frag) (m : Bm) : V → List V → Hp → VK → Prop := fun x xs H Q => ∃ α S dx ds, SRep K α H S ∧ Rep K α H dx x ∧ RepL K α H ds xs ∧ Gv K α H (bmD m dx ds S) Q
theorem repL0 {xs : List V} (r : RepL K α H [] xs) : xs = [] := by unfold RepL at r; exact r
theorem mr_append : MtR X "list.append" (rBm X.K .append) := by
  rintro pins s σ H x xs v us Q I rx rs ⟨α, S, dx, ds, sr, hx, hd, g⟩
  unfold bmD at g
  dsimp only at g
  split at g <;> first | exact g.elim | skip
  obtain ⟨y, rfl, h1⟩ := repL1 hd
  obtain ⟨a, ea, rfl⟩ := rep_ref hx
  split at g <;> first | exact g.elim | skip
  rename_i q
  obtain ⟨vs, e1, t⟩ := lst_at sr ea q
  split at g <;> first | exact g.elim | skip
  rename_i hl
  exact mt_append pins s σ H _ _ v us Q I rx rs ⟨a, vs, y, rfl, rfl, e1, by rw [← t.length]; exact hl, g.put sr ea e1 (t.append (.cons h1 .nil)) non_rep⟩
theorem mr_pop : MtR X "list.pop" (rBm X.K .pop) := by
  rintro pins s σ H x xs v us Q I rx rs ⟨α, S, dx, ds, sr, hx, hd, g⟩
  unfold bmD at g
  dsimp only at g
  split at g <;> first | exact g.elim | skip
  cases repL0 hd
  obtain ⟨a, ea, rfl⟩ := rep_ref hx
  split at g <;> first | exact g.elim | skip
  rename_i q
  obtain ⟨vs, e1, t⟩ := lst_at sr ea q
  split at g <;> first | exact g.elim | skip
  rename_i y e2
  obtain ⟨w, e3, rw'⟩ := t.get e2
  rw [t.length] at e3
  exact mt_pop pins s σ H _ _ v us Q I rx rs ⟨a, vs, w, rfl, rfl, e1, e3, g.put sr ea e1 t.dropLast rw'⟩
theorem mr_popAt : MtR X "list.pop" (rBm X.K .popAt) := by
  rintro pins s σ H x xs v us Q I rx rs ⟨α, S, dx, ds, sr, hx, hd, g⟩
  unfold bmD at g
  dsimp only at g
  split at g <;> first | exact g.elim | skip
  rename_i n i
  obtain ⟨y, rfl, h1⟩ := repL1 hd
  cases rep_int h1
  obtain ⟨a, ea, rfl⟩ := rep_ref hx
  split at g <;> first | exact g.elim | skip
  rename_i q
  obtain ⟨vs, e1, t⟩ := lst_at sr ea q
  split at g <;> first | exact g.elim | skip
  rename_i h0
  split at g <;> first | exact g.elim | skip
  rename_i y e2
  obtain ⟨w, e3, rw'⟩ := t.get e2
  have hlt : i.toNat < vs.length := (List.getElem?_eq_some_iff.mp e3).1
  obtain ⟨hz, _⟩ := I.lstM e1
  have hs := sizeLine_eq
  refine mt_popAt pins s σ H _ _ v us Q I rx rs ⟨a, vs, i, i.toNat, w, rfl, rfl, e1, by omega, by omega, ?_, e3, g.put sr ea e1 (t.eraseIdx _) rw'⟩
  unfold seqIndex?
  simp only [show ¬ i < 0 by omega, if_false]
  first
    | (rw [if_pos (by omega)])
    | (simp; omega)
theorem mr_reverse : MtR X "list.reverse" (rBm X.K .reverse) := by
  rintro pins s σ H x xs v us Q I rx rs ⟨α, S, dx, ds, sr, hx, hd, g⟩
  unfold bmD at g
  dsimp only at g
  split at g <;> first | exact g.elim | skip
  cases repL0 hd
  obtain ⟨a, ea, rfl⟩ := rep_ref hx
  split at g <;> first | exact g.elim | skip
  rename_i q
  obtain ⟨vs, e1, t⟩ := lst_at sr ea q
  exact mt_reverse pins s σ H _ _ v us Q I rx rs ⟨a, vs, rfl, rfl, e1, g.put sr ea e1 t.reverse non_rep⟩
theorem firstAt_some {p : PyData} : ∀ {ps : List PyData} {j k : Nat}, firstAt p ps j = some k → ∃ i z, k = j + i ∧ ps[i]? = some z ∧ PyData.eqv z p = true ∧ ∀ (m : Nat) (z' : PyData), m < i → ps[m]? = some z' → PyData.eqv z' p = false
  | [], j, k, h => by unfold firstAt at h; cases h
  | z :: r, j, k, h => by
    unfold firstAt at h
    split at h
    · rename_i e
      cases h
      exact ⟨0, z, rfl, rfl, e, fun m _ hm => absurd hm (Nat.not_lt_zero m)⟩
    · rename_i e
      obtain ⟨i, z', rfl, h1, h2, h3⟩ := firstAt_some h
      refine ⟨i + 1, z', by omega, by simpa using h1, h2, fun m w hm hw => ?_⟩
      cases m with
      | zero =>
        simp at hw
        subst hw
        exact Bool.eq_false_iff.mpr e
      | succ m => exact h3 m w (by omega) (by simpa using hw)
theorem mr_index (hu : X.A.units + 65 < cLine) : MtR X "list.index" (rBm X.K .index) := by
  rintro pins s σ H x xs v us Q I rx rs ⟨α, S, dx, ds, sr, hx, hd, g⟩
  unfold bmD at g
  dsimp only at g
  split at g <;> first | exact g.elim | skip
  obtain ⟨y, rfl, h1⟩ := repL1 hd
  obtain ⟨a, ea, rfl⟩ := rep_ref hx
  split at g <;> first | exact g.elim | skip
  rename_i q
  obtain ⟨vs, e1, t⟩ := lst_at sr ea q
  split at g <;> first | exact g.elim | skip
  rename_i p ps ep eq
  split at g <;> first | exact g.elim | skip
  rename_i hc
  obtain ⟨c1, c2⟩ := Bool.and_eq_true_iff.mp hc
  obtain ⟨d, e, q2⟩ := g.ofO sr
  obtain ⟨j, e3, rfl⟩ := Option.map_eq_some_iff.mp e
  obtain ⟨i, z, rfl, h3, h4, h5⟩ := firstAt_some e3
  rw [Nat.zero_add] at q2
  exact mt_indexD hu pins s σ H _ _ v us Q I rx rs ⟨a, y, p, ps, i, z, rfl, rfl, .lst (SqL.of e1) (rep_pyL _ _ _ t eq), rep_py _ _ _ h1 ep, c2, c1, h3, h4, h5, q2 _ int_rep⟩
theorem strs_rep : ∀ {ds : List D} {vs : List V} {ys : List Str}, RepL K α H ds vs → strsOf ds = some ys → vs = ys.map V.str
  | [], vs, ys, r, e => by unfold RepL at r; unfold strsOf at e; cases e; rw [r]; rfl
  | d :: ds, vs, ys, r, e => by
    obtain ⟨v, vr, rfl, h, t⟩ := r.inv
    cases d with
    | str b =>
      unfold strsOf at e
      obtain ⟨cs, e1, rfl⟩ := Option.map_eq_some_iff.mp e
      cases rep_str h
      rw [strs_rep t e1]
      rfl
    | _ => unfold strsOf at e; cases e
theorem mr_join : MtR X "str.join" (rBm X.K .join) := by
  rintro pins s σ H x xs v us Q I rx rs ⟨α, S, dx, ds, sr, hx, hd, g⟩
  unfold bmD at g
  dsimp only at g
  split at g <;> first | exact g.elim | skip
  obtain ⟨y, rfl, h1⟩ := repL1 hd
  cases rep_str hx
  split at g <;> first | exact g.elim | skip
  rename_i ys e
  obtain ⟨es, e1, e2⟩ := Option.bind_eq_some_iff.mp e
  obtain ⟨a, vs, rfl, hs, t⟩ := items_at sr h1 e1
  have ev := strs_rep t e2
  subst ev
  split at g <;> first | exact g.elim | skip
  rename_i hl
  exact mt_join pins s σ H _ _ v us Q I rx rs ⟨_, a, ys, rfl, rfl, hs, hl, g.now sr str_rep⟩
end Mp
end
section
set_option Elab.async false
set_option linter.all false
/-! MpEqs: the semantics' equations, one for each form (printed by gen_eqs.py). -/
namespace Mp
open PySem (Str Operator CmpOp PyData)
section
variable {C : Cf} {cu : Option Ex} {ρ : Env} {S : Sto}
theorem evE_var {i} : evE C cu (CE.var i) ρ S = (ofO (getV ρ i) S) := by rw [evE]
theorem evE_int {i} : evE C cu (CE.int i) ρ S = (.ok (.int i) S) := by rw [evE]
theorem evE_bl {b} : evE C cu (CE.bl b) ρ S = (.ok (.bl b) S) := by rw [evE]
theorem evE_non : evE C cu (CE.non) ρ S = (.ok .non S) := by rw [evE]
theorem evE_str {x} : evE C cu (CE.str x) ρ S = (.ok (.str x) S) := by rw [evE]
theorem evE_glob {x} : evE C cu (CE.glob x) ρ S = (ofO (C.con x) S) := by rw [evE]
theorem evE_ccon {c f} : evE C cu (CE.ccon c f) ρ S = (ofO (C.ccon c f) S) := by rw [evE]
theorem evE_tup {es} : evE C cu (CE.tup es) ρ S = ((evEs C cu es ρ S).bind fun ds S1 => .ok (.tup ds) S1) := by rw [evE]
theorem evE_lst {es} : evE C cu (CE.lst es) ρ S = ((evEs C cu es ρ S).bind fun ds S1 => .ok (.ref S1.length) (S1 ++ [.lst ds])) := by rw [evE]
theorem evE_bin {op a b} : evE C cu (CE.bin op a b) ρ S = ((evE C cu a ρ S).bind fun x S1 => (evE C cu b ρ S1).bind fun y S2 => binD op x y S2) := by rw [evE]
theorem evE_neg {a} : evE C cu (CE.neg a) ρ S = ((evE C cu a ρ S).bind fun x S1 => (ofO (asInt x) S1).bind fun i S2 => .ok (.int (-i)) S2) := by rw [evE]
theorem evE_cmp {op a b} : evE C cu (CE.cmp op a b) ρ S = ((evE C cu a ρ S).bind fun x S1 => (evE C cu b ρ S1).bind fun y S2 => ofO ((cmpD op x y S2).map .bl) S2) := by rw [evE]
theorem evE_cmp2 {op op' a b c} : evE C cu (CE.cmp2 op op' a b c) ρ S = ((evE C cu a ρ S).bind fun x S1 => (evE C cu b ρ S1).bind fun y S2 => (ofO (cmpD op x y S2) S2).bind fun k S3 =>
      if k = true then (evE C cu c ρ S3).bind fun z S4 => ofO ((cmpD op' y z S4).map .bl) S4 else .ok (.bl false) S3) := by rw [evE]
theorem evE_and {es} : evE C cu (CE.and es) ρ S = (evAnd C cu es ρ S) := by rw [evE]
theorem evE_or {es} : evE C cu (CE.or es) ρ S = (evOr C cu es ρ S) := by rw [evE]
theorem evE_not {a} : evE C cu (CE.not a) ρ S = ((evE C cu a ρ S).bind fun x S1 => ofO ((isBl x).map fun b => .bl (!b)) S1) := by rw [evE]
theorem evE_ifx {c a b} : evE C cu (CE.ifx c a b) ρ S = ((evE C cu c ρ S).bind fun x S1 => (ofO (isBl x) S1).bind fun k S2 => if k = true then evE C cu a ρ S2 else evE C cu b ρ S2) := by rw [evE]
theorem evE_isI {a t} : evE C cu (CE.isI a t) ρ S = ((evE C cu a ρ S).bind fun x S1 => ofO ((isD C.sub x S1 t).map .bl) S1) := by rw [evE]
theorem evE_exF {f} : evE C cu (CE.exF f) ρ S = (ofO (cu.bind fun x => if C.exf x.cls f = true then x.fs.lookup f else none) S) := by rw [evE]
theorem evE_exI {c} : evE C cu (CE.exI c) ρ S = (ofO (cu.bind fun x => (C.sub x.cls c).map .bl) S) := by rw [evE]
theorem evE_fld {a f} : evE C cu (CE.fld a f) ρ S = ((evE C cu a ρ S).bind fun x S1 => ofO (fldD C.fok x f S1) S1) := by rw [evE]
theorem evE_call {f es} : evE C cu (CE.call f es) ρ S = ((evEs C cu es ρ S).bind fun ds S1 => C.call f ds S1) := by rw [evE]
theorem evE_make {c es} : evE C cu (CE.make c es) ρ S = ((evEs C cu es ρ S).bind fun ds S1 => (C.init c (.ref S1.length :: ds) (S1 ++ [.ins c []])).bind fun d S2 => if isNon d = true then .ok (.ref S1.length) S2 else .stuck) := by rw [evE]
theorem evE_meth {m a es} : evE C cu (CE.meth m a es) ρ S = ((evE C cu a ρ S).bind fun x S1 => (ofO (metD C.mok x m es.len S1) S1).bind fun c S2 => (evEs C cu es ρ S2).bind fun ds S3 => C.call (mkey c m) (x :: ds) S3) := by rw [evE]
theorem evE_smeth {c m es} : evE C cu (CE.smeth c m es) ρ S = ((evEs C cu es ρ S).bind fun ds S1 => C.call (mkey c m) ds S1) := by rw [evE]
theorem evE_blt {b es} : evE C cu (CE.blt b es) ρ S = ((evEs C cu es ρ S).bind fun ds S1 => bltD b ds S1) := by rw [evE]
theorem evE_bm {m a es} : evE C cu (CE.bm m a es) ρ S = ((evE C cu a ρ S).bind fun x S1 => if bmOk m x S1 = true then (evEs C cu es ρ S1).bind fun ds S2 => bmD m x ds S2 else .stuck) := by rw [evE]
theorem evE_sub {a i} : evE C cu (CE.sub a i) ρ S = ((evE C cu a ρ S).bind fun x S1 => (evE C cu i ρ S1).bind fun j S2 => (ofO (asInt j) S2).bind fun k S3 => ofO (ixD x k S3) S3) := by rw [evE]
theorem evE_slc {a lo hi} : evE C cu (CE.slc a lo hi) ρ S = ((evE C cu a ρ S).bind fun x S1 => (evO C cu lo ρ S1).bind fun l S2 => (evO C cu hi ρ S2).bind fun h S3 => slcD x l h S3) := by rw [evE]
theorem evE_lc {elt tg it ifs} : evE C cu (CE.lc elt tg it ifs) ρ S = ((evI C cu it ρ S).bind fun t S1 => (lcL t.ck (fun d S2 => (ofO (asgT tg d (wipe ρ tg.ix)) S2).bind fun ρ1 S3 => (evIfs C none ifs ρ1 S3).bind fun b S4 =>
      if b = true then (evE C none elt ρ1 S4).bind fun y S5 => .ok (some y) S5 else .ok none S4) t.ds S1).bind fun ds S2 => .ok (.ref S2.length) (S2 ++ [.lst ds])) := by rw [evE]
theorem evO_none : evO C cu (CO.none) ρ S = (.ok none S) := by rw [evO]
theorem evO_some {e} : evO C cu (CO.some e) ρ S = ((evE C cu e ρ S).bind fun x S1 => (ofO (asInt x) S1).bind fun i S2 => .ok (some i) S2) := by rw [evO]
theorem evEs_nil : evEs C cu (CEs.nil) ρ S = (.ok [] S) := by rw [evEs]
theorem evEs_cons {e es} : evEs C cu (CEs.cons e es) ρ S = ((evE C cu e ρ S).bind fun d S1 => (evEs C cu es ρ S1).bind fun ds S2 => .ok (d :: ds) S2) := by rw [evEs]
theorem evIfs_nil : evIfs C cu (CEs.nil) ρ S = (.ok true S) := by rw [evIfs]
theorem evIfs_cons {e es} : evIfs C cu (CEs.cons e es) ρ S = ((evE C cu e ρ S).bind fun x S1 => (ofO (isBl x) S1).bind fun k S2 => if k = true then evIfs C cu es ρ S2 else .ok false S2) := by rw [evIfs]
theorem evI_seq {e} : evI C cu (CI.seq e) ρ S = ((evE C cu e ρ S).bind fun d S1 => ofO (seqI d S1) S1) := by rw [evI]
theorem evI_range {es} : evI C cu (CI.range es) ρ S = ((evEs C cu es ρ S).bind fun ds S1 => ofO (rangeI ds) S1) := by rw [evI]
theorem evI_zip {a b} : evI C cu (CI.zip a b) ρ S = ((evE C cu a ρ S).bind fun x S1 => (evE C cu b ρ S1).bind fun y S2 => ofO (zipI x y) S2) := by rw [evI]
theorem evS_expr {e} : evS C cu (CS.expr e) ρ S = ((evE C cu e ρ S).fl ρ fun _ S1 => .nx ρ S1) := by rw [evS]
theorem evS_ret {e} : evS C cu (CS.ret e) ρ S = ((evE C cu e ρ S).fl ρ fun d S1 => .rt d S1) := by rw [evS]
theorem evS_retN : evS C cu (CS.retN) ρ S = (.rt .non S) := by rw [evS]
theorem evS_asg {tg e} : evS C cu (CS.asg tg e) ρ S = ((evE C cu e ρ S).fl ρ fun d S1 => nxE (asgT tg d ρ) S1) := by rw [evS]
theorem evS_set {a i e} : evS C cu (CS.set a i e) ρ S = ((evE C cu e ρ S).fl ρ fun d S1 => (evE C cu a ρ S1).fl ρ fun x S2 => (evE C cu i ρ S2).fl ρ fun j S3 => nxS ρ (setD x j d S3)) := by rw [evS]
theorem evS_fld {a f e} : evS C cu (CS.fld a f e) ρ S = ((evE C cu e ρ S).fl ρ fun d S1 => (evE C cu a ρ S1).fl ρ fun x S2 => nxS ρ (setF C.fok x f d S2)) := by rw [evS]
theorem evS_aug {i op e} : evS C cu (CS.aug i op e) ρ S = ((ofO (getV ρ i) S).fl ρ fun x S0 => (evE C cu e ρ S0).fl ρ fun y S1 => nxE ((augD op x y).map fun d => ρ.set i (some d)) S1) := by rw [evS]
theorem evS_ite {c a b} : evS C cu (CS.ite c a b) ρ S = (((evE C cu c ρ S).bind fun x S1 => ofO (isBl x) S1).fl ρ fun k S1 => if k = true then evSs C cu a ρ S1 else evSs C cu b ρ S1) := by rw [evS]
theorem evS_for {tg it b} : evS C cu (CS.for_ tg it b) ρ S = ((evI C cu it ρ S).fl ρ fun t S1 => forL t.ck tg (fun ρ2 S2 => evSs C cu b ρ2 S2) t.ds ρ S1) := by rw [evS]
theorem evS_while {c b} : evS C cu (CS.while_ c b) ρ S = (whL (fun ρ2 S2 => (evE C cu c ρ2 S2).bind fun x S3 => ofO (isBl x) S3) (fun ρ2 S2 => evSs C cu b ρ2 S2) wFuel ρ S) := by rw [evS]
theorem evS_try {b hs} : evS C cu (CS.try_ b hs) ρ S = ((evSs C cu b ρ S).catch_ fun x ρ1 S1 => evH C hs x ρ1 S1) := by rw [evS]
theorem evS_raise {c es} : evS C cu (CS.raise c es) ρ S = ((evEs C cu es ρ S).fl ρ fun ds S1 => exnO c (C.exc c ds) ρ S1) := by rw [evS]
theorem evS_pass : evS C cu (CS.pass) ρ S = (.nx ρ S) := by rw [evS]
theorem evS_brk : evS C cu (CS.brk) ρ S = (.bk ρ S) := by rw [evS]
theorem evS_cont : evS C cu (CS.cont) ρ S = (.ct ρ S) := by rw [evS]
theorem evSs_nil : evSs C cu (CSs.nil) ρ S = (.nx ρ S) := by rw [evSs]
theorem evSs_cons {s r} : evSs C cu (CSs.cons s r) ρ S = ((evS C cu s ρ S).then_ fun ρ1 S1 => evSs C cu r ρ1 S1) := by rw [evSs]
theorem evAnd_one {e : CE} : evAnd C cu (.cons e .nil) ρ S = evE C cu e ρ S := by rw [evAnd]
theorem evAnd_cons {e f : CE} {es : CEs} : evAnd C cu (.cons e (.cons f es)) ρ S = (evE C cu e ρ S).bind fun x S1 => (ofO (isBl x) S1).bind fun k S2 => if k = true then evAnd C cu (.cons f es) ρ S2 else .ok (.bl false) S2 := by
  rw [evAnd]
  nofun
theorem evOr_one {e : CE} : evOr C cu (.cons e .nil) ρ S = evE C cu e ρ S := by rw [evOr]
theorem evOr_cons {e f : CE} {es : CEs} : evOr C cu (.cons e (.cons f es)) ρ S = (evE C cu e ρ S).bind fun x S1 => (ofO (isBl x) S1).bind fun k S2 => if k = true then .ok (.bl true) S2 else evOr C cu (.cons f es) ρ S2 := by
  rw [evOr]
  nofun
theorem evH_nil {x : Ex} : evH C .nil x ρ S = .exn x ρ S := by rw [evH]
theorem evH_cons {x : Ex} {c : Str} {i : Option Nat} {b : CSs} {r : CHs} : evH C (.cons c i b r) x ρ S = ifO (if bornOk i ρ = true then C.sub x.cls c else none) ((evSs C (some x) b (Mp.unset i ρ) S).unset i) (evH C r x ρ S) := by rw [evH]
end
end Mp
end
section
set_option Elab.async false
set_option linter.all false
set_option maxRecDepth 100000
set_option maxHeartbeats 1000000
/-! MpBase: where a body stands; what the parts of a core text promise. -/
namespace Mp
open PySem L2

/-! ### what the text's top must say -/
structure Tab where
  funs : List (Str × Nat)
  cons : List Str
  smeths : List ((Str × Str) × Nat)
  ccons : List (Str × Str)
  inits : List (Str × Nat)
  excs : List Str
  bexcs : List (Str × String)
  exc0 : List Str
  exc1 : List (Str × List (Str × Nat))
  blts : List Str
/-- a def's promise -/
def spC (K : PySem.W.Frag) (n : Nat) (f : List D → Sto → Res D) : Sp := fun vs H Q E => vs.length = n ∧ ∃ α ds S, RepL K α H ds vs ∧ SRep K α H S ∧
  PostR K α H (f ds S) (fun d _ α' H' => ∀ v, Rep K α' H' d v → Q v H') (fun x _ α' H' => ∀ cls d, XRep K α' H' x cls d → E cls d H')
/-- a def that keeps it -/
def FnL (P : Program) (w : World) (K : PySem.W.Frag) (mg : Str → Option Value) (base : Heap) (k : Nat) (n : Nat) (f : List D → Sto → Res D) (a : Addr) : Prop :=
  ∃ fd ps, PySem.W.keepIn K (.ref a) = true ∧ Binds K fd ps [] ∧ FnOk P w K mg base (L2.CX P w) k a fd ps (spC K n f)
/-- C.m, a staticmethod around the def at f -/
structure SMet (K : PySem.W.Frag) (C : Addr) (m : Str) (f : Addr) : Prop where
  at_ : ∃ mc p rest, ClX.CRead K C mc ∧ PySem.W.findCls K (.ref C) mc m = some (.get (.builtin "staticmethod.__get__") (.ref p) .none (.ref C)) ∧ PySem.W.recIn K p "staticmethod" = some (.ref f :: rest)
  kp : PySem.W.keepIn K (.ref f) = true
/-- the fields of a raised exception, from the arguments (the last stored first) -/
def fldsV (ws : List V) (l : List (Str × Nat)) : List (Str × V) := l.filterMap fun p => (ws[p.2]?).map fun v => (p.1, v)
def fldsD (ds : List D) (l : List (Str × Nat)) : List (Str × D) := l.filterMap fun p => (ds[p.2]?).map fun v => (p.1, v)
/-- an exception's __init__: each field takes a parameter -/
def spI (K : PySem.W.Frag) (C : Addr) (l : List (Str × Nat)) : Sp := fun vs H Q _ => ∃ a ws, vs = .ref a :: ws ∧ ws.length = l.length ∧ H a = some (exo a C none) ∧
  ∀ H2 d, H d = none → d ≠ a → H2 a = some (exo a C (some d)) → H2 d = some (exd d (fldsV ws l)) → (∀ b, b ≠ a → b ≠ d → H2 b = H b) → Q .non H2
structure Lnk (T : Tab) (pg : Prg) (k : Nat) (P : Program) (w : World) (K : PySem.W.Frag) (mg : Str → Option Value) (base : Heap) : Prop where
  con : ∀ x d, x ∈ T.cons → pg.con x = some d → ∃ v u, mg x = some u ∧ RelV v u ∧ ∀ α H, Rep K α H d v
  blt : ∀ x ∈ T.blts, mg x = none
  fn : ∀ x n, (x, n) ∈ T.funs → ∃ a, mg x = some (.ref a) ∧ FnL P w K mg base k n ((lev pg k).call x) a
  fok : ∀ c f, pg.fok c f = true → Cls K (He.ga K c) ∧ NoAttr K (He.ga K c) f
  mok : ∀ c m n, pg.mok c m = some n → Cls K (He.ga K c) ∧ ∃ a, Meth K (He.ga K c) m a ∧ FnL P w K mg base k (n + 1) ((lev pg k).call (mkey c m)) a
  make_ : ∀ c n, (c, n) ∈ T.inits → mg c = some (.ref (He.ga K c)) ∧ ∃ a, Mk K (He.ga K c) a ∧ ∀ j, k = j + 1 → FnL P w K mg base j (n + 1) ((lev pg k).init c) a
  ccon : ∀ c f d, (c, f) ∈ T.ccons → pg.ccon c f = some d → mg c = some (.ref (He.ga K c)) ∧ ∃ mc v u, ClX.CRead K (He.ga K c) mc ∧ ClX.CVal K (He.ga K c) mc f v u ∧ ∀ α H, Rep K α H d v
  smeth : ∀ c m n, ((c, m), n) ∈ T.smeths → mg c = some (.ref (He.ga K c)) ∧ ∃ a, SMet K (He.ga K c) m a ∧ FnL P w K mg base k n ((lev pg k).call (mkey c m)) a
  exf : ∀ c f, pg.exf c f = true → XfC K (He.ga K c) ∧ PySem.W.findIn K (.ref (He.ga K c)) f = some none
  sub : ∀ c d b, d ∈ T.excs → pg.sub c d = some b → PySem.W.exmOne K (.ref (He.ga K c)) (.ref (He.ga K d)) = some b
  exc0 : ∀ c ∈ T.exc0, (∃ B newId initId bmB, PySem.ExcBaseFacts B newId initId bmB ∧ PySem.W.excIn K (He.ga K c) bmB newId = true) ∧ mg c = some (.ref (He.ga K c)) ∧ PySem.W.keepIn K (.ref (He.ga K c)) = true ∧
    PySem.W.subIn K (.ref (He.ga K c)) (.type "BaseException") = some true ∧ PySem.W.typeIn K (.ref (He.ga K c)) = some (.type "type") ∧ ∀ ds fs, pg.exc c ds = some fs → fs = []
  exc1 : ∀ c l, (c, l) ∈ T.exc1 → OexC K (He.ga K c) ∧ mg c = some (.ref (He.ga K c)) ∧ (∀ ds fs, pg.exc c ds = some fs → fs = fldsD ds l) ∧ l.length ≤ 900 ∧ l ≠ [] ∧
    ∃ fI fd ps, PySem.W.findIn K (.ref (He.ga K c)) "__init__" = some (some (.ref fI)) ∧ PySem.W.typeIn K (.ref fI) = some (.type "function") ∧ Binds K fd ps [] ∧ ∀ j, FnOk P w K mg base (L2.CX P w) (j + 1) fI fd ps (spI K (He.ga K c) l)
  exn : ∀ d ∈ T.excs, mg d = some (.ref (He.ga K d))
  bex : ∀ d n, (d, n) ∈ T.bexcs → mg d = none ∧ bootBuiltins d = some (.type n)
  exi : ∀ c d b, pg.sub c d = some b → ExcC K (He.ga K c) ∧ (d ∈ T.excs → PySem.W.kitOne K (.ref (He.ga K c)) (.ref (He.ga K d)) = some b) ∧ ∀ n, (d, n) ∈ T.bexcs → PySem.W.kitOne K (.ref (He.ga K c)) (.type n) = some b
/-- an exception in flight, or held by the frame, is taken -/
structure TakesL (X : Cx) (W : WX) : Prop where
  fr : ∃ L env0 outer0, X.env.frame = some L ∧ X.stack = env0 :: outer0 ∧ env0.frame = some L ∧ ∀ (a : Addr) (B : Heap) (sI s' : Shared) (pins : List (Addr × Obj)) (σ : St) (H : Hp) (cls : Value) (d : Option Addr),
    Inv X pins σ H sI → (∀ b o, sI.heap.get? b = some o → b ∉ frs X.stack → B.get? b = some o) → sI.heap.UpToSlots s'.heap → HandSPX.FlyingZ B X.stack a (Zc cls d) s'.heap ∨ HandSPX.HeldZ B X.stack a (Zc cls d) L s'.heap →
      H a = none → s'.os = sI.os → PyProof.Rows.AllBare s'.gens → W cls d σ H → X.xe (.ref a) s'
/-- where one stands -/
structure At (T : Tab) (pg : Prg) (k : Nat) (N : List Str) (sc : Scope) (hi : Option Hot) (X : Cx) (W : WX) : Prop where
  n : X.N = N
  scp : X.env.scope = sc
  lnk : Lnk T pg k X.prog X.w X.K X.mg X.base
  pa : ∀ σ, PassesAt (L2.CX X.prog X.w) X σ (WE W σ)
  calm : hi = none → X.calm = true ∧ Room k X.A
  tl : hi = none → TakesL X W
  nd : X.N.Nodup
  un : X.A.units + 65 < cLine
  hot : ∀ h, hi = some h → ∃ X0 oe pn, X = Cx.suite X0 h.a ((h.a, oe) :: pn) ∧ Zc h.cls h.d oe ∧ ∃ vs, oe.data = .fields vs
def cuOf (hi : Option Hot) : Option Ex := hi.map (·.x)
section
variable (T : Tab) (pg : Prg) (k : Nat) (N : List Str) (sc : Scope) (hi : Option Hot)
def SE (c : CE) (e : Expr) : Prop := ∀ X W, At T pg k N sc hi X W → PE X e (tE X.K W hi (evE (lev pg k) (cuOf hi) c))
noncomputable def tst (C : Cf) (cu : Option Ex) (c : CE) (ρ : Env) (S : Sto) : Res Bool := (evE C cu c ρ S).bind fun x S1 => ofO (isBl x) S1
def ST (c : CE) (e : Expr) : Prop := ∀ X W, At T pg k N sc hi X W → PT X e (tT X.K W hi (tst (lev pg k) (cuOf hi) c))
def SW (c : CE) (e : Expr) : Prop := ∀ X W, At T pg k N sc hi X W → PW X e (tT X.K W hi (tst (lev pg k) (cuOf hi) c))
def SA (cs : CEs) (es : List Expr) : Prop := ∀ X W, At T pg k N sc hi X W → PA X es (tA X.K W hi (evEs (lev pg k) (cuOf hi) cs))
def SO (o : CO) (e : Option Expr) : Prop := ∀ X W, At T pg k N sc hi X W → PO X e (tO X.K W hi (evO (lev pg k) (cuOf hi) o))
end

/-! ### weaker readings -/
theorem PE.weak {X : Cx} {e : Expr} {t t' : TE} (h : PE X e t) (w : ∀ σ H Q, t' σ H Q → t σ H Q) : PE X e t' := ⟨fun pins s σ H Q I q => h.run pins s σ H Q I (w σ H Q q)⟩
theorem PT.weak {X : Cx} {e : Expr} {t t' : TT} (h : PT X e t) (w : ∀ σ H Q, t' σ H Q → t σ H Q) : PT X e t' := ⟨fun pins s σ H Q I q => h.run pins s σ H Q I (w σ H Q q)⟩
theorem PW.weak {X : Cx} {e : Expr} {t t' : TT} (h : PW X e t) (w : ∀ σ H Q, t' σ H Q → t σ H Q) : PW X e t' := ⟨fun wh pins s σ H Q I q => h.run wh pins s σ H Q I (w σ H Q q)⟩
theorem PA.weak {X : Cx} {e : List Expr} {t t' : TA} (h : PA X e t) (w : ∀ σ H Q, t' σ H Q → t σ H Q) : PA X e t' := ⟨fun pos pins s σ H Q I q => h.run pos pins s σ H Q I (w σ H Q q)⟩
theorem PO.weak {X : Cx} {e : Option Expr} {t t' : TO} (h : PO X e t) (w : ∀ σ H Q, t' σ H Q → t σ H Q) : PO X e t' := ⟨fun pins s σ H Q I q => h.run pins s σ H Q I (w σ H Q q)⟩

/-! ### the syntax's side conditions -/
def noStar : Expr → Bool
  | .Starred .. => false
  | _ => true
theorem star_of {e : Expr} {es : List Expr} {env : PySem.Env} (h : noStar e = true) : starEach (e :: es) env = (false, eval e env) :: starEach es env := by
  cases e <;> first | rfl | exact absurd h Bool.false_ne_true
theorem plain_of {pos : Pos} {env : PySem.Env} : ∀ {es : List Expr}, es.all noStar = true → (backTo pos (starEach es env)).any (·.1) = false
  | [], _ => rfl
  | e :: es, h => by
    rw [List.all_cons, Bool.and_eq_true] at h
    rw [star_of h.1]
    show (false || (backTo pos (starEach es env)).any (·.1)) = false
    rw [plain_of h.2]
    rfl
theorem plain_all {pos : Pos} {env : PySem.Env} : ∀ {es : List Expr}, es.all noStar = true → (backTo pos (starEach es env)).all (fun x => !x.1) = true
  | [], _ => rfl
  | e :: es, h => by
    rw [List.all_cons, Bool.and_eq_true] at h
    rw [star_of h.1]
    show (true && (backTo pos (starEach es env)).all (fun x => !x.1)) = true
    rw [plain_all h.2]
    rfl
def attrOk : Expr → Bool
  | .Call (.Name x _) [] [] _ => x != ("super" : Str)
  | .Call _ (_ :: _) _ _ => true
  | .Call (.Attribute ..) _ _ _ => true
  | .Call .. => false
  | _ => true
theorem attr_base {e : Expr} {f : Str} {env : PySem.Env} (h : attrOk e = true) : attributeBase e f env (eval e env) = eval e env := by
  unfold attrOk at h
  split at h
  · exact abase_call h
  · rename_i a b c d e2
    cases a <;> rfl
  · rename_i a b c d e2 g2
    cases d <;> rfl
  · cases h
  · rename_i h1 h2 h3 h4
    cases e with
    | Call a b c d => exact absurd rfl (h4 a b c d)
    | _ => rfl
/-- a method call's tree -/
def fewB (n : Nat) : Bool := decide (n < 30)
theorem meth_tree {o : Expr} {m : Str} {apos pos : Pos} {es : List Expr} {env : PySem.Env} (hb : attrOk o = true) (hl : (apos.endLine == pos.line) = true) (hs : es.all noStar = true) (hn : fewB es.length = true) : eval (.Call (.Attribute o m apos) es [] pos) env = (do
      let ov ← eval o env
      standAt apos.atName
      let (f, first) ← holding [ov] (getMethod ov m (do return (← importBound o env).getD true))
      callWith pos f first (backTo pos (starEach es env)) (backToKw pos (keywordEach [] env))) := by
  refine mcall_of (kws := []) (attr_base hb) fun ov => ?_
  have hf : methodCallForm (es.length + ([] : List Keyword).length) (backTo pos (starEach es env)) (backToKw pos (keywordEach [] env)) = true := by
    unfold methodCallForm
    rw [plain_all hs]
    show (true && true && decide (es.length + 0 + 0 < 30)) = true
    exact hn
  unfold methodCall methodCallPos calleeOf
  rw [hf, hl]
  rfl
def noSlice : Expr → Bool
  | .Slice .. => false
  | _ => true
theorem plain_ix {e : Expr} (h : noSlice e = true) : PlainIx e := by
  intro o i
  cases e <;> first | rfl | exact absurd h Bool.false_ne_true
def noSet : Expr → Bool
  | .Set .. => false
  | _ => true
theorem no_marks {e : Expr} {op : CmpOp} (h : noSet e = true) : behindInMarks op e = false := by
  cases e <;> first | rfl | exact absurd h Bool.false_ne_true
def plainTest : Expr → Bool
  | .UnaryOp .. => false
  | .BoolOp .. => false
  | .IfExp .. => false
  | .Compare .. => false
  | _ => true
theorem plain_test {e : Expr} {env : PySem.Env} (h : plainTest e = true) (whole : Sem Value) : isTrue e env whole = (do let v ← whole; standAt e.pos; holding [v] (truthy v)) := by
  cases e <;> first | rfl | exact absurd h Bool.false_ne_true
def visB (sc : Scope) (x : Str) : Bool := match sc.names.lookup x with
  | some .local => true
  | some .cell => true
  | some .free => true
  | _ => false
theorem vis_of {sc : Scope} {x : Str} (h : visB sc x = true) : Vis sc x := by
  unfold visB at h
  unfold Vis
  split at h
  · rename_i e; exact .inl e
  · rename_i e; exact .inr (.inl e)
  · rename_i e; exact .inr (.inr e)
  · cases h
def nmOk (x : Str) : Bool := !(x == ("__debug__" : Str)) && (!(x == ("__classdict__" : Str)) && !(x == ("__name__" : Str)))
theorem nm_of {x : Str} (h : nmOk x = true) : (x == ("__debug__" : Str)) = false ∧ (x == ("__classdict__" : Str)) = false ∧ x ≠ "__name__" := by
  unfold nmOk at h
  rw [Bool.and_eq_true, Bool.and_eq_true, Bool.not_eq_true', Bool.not_eq_true', Bool.not_eq_true'] at h
  exact ⟨h.1, h.2.1, fun e => by rw [e] at h; exact absurd h.2.2 (by decide)⟩
def glB (sc : Scope) (x : Str) : Bool := (match sc.names.lookup x with
  | some .globalImplicit => true
  | _ => false) && nmOk x
theorem gl_of {X : Cx} {x : Str} (h : glB X.env.scope x = true) : Gl X x ∧ (x == ("__debug__" : Str)) = false ∧ x ≠ "__name__" := by
  unfold glB at h
  rw [Bool.and_eq_true] at h
  refine ⟨?_, (nm_of h.2).1, (nm_of h.2).2.2⟩
  have h1 := h.1
  split at h1
  · rename_i e; exact e
  · cases h1
theorem isBl_some {d : D} {b : Bool} (h : isBl d = some b) : d = .bl b := by
  cases d <;> first | (cases h; rfl) | cases h

/-! ### never an exception -/
def NoX {β : Type} (r : Res β) : Prop := match r with
  | .exn _ _ => False
  | _ => True
theorem NoX.ofO {β : Type} {o : Option β} {S : Sto} : NoX (Mp.ofO o S) := by cases o <;> exact trivial
theorem PostR.gv {K : PySem.W.Frag} {α : List Addr} {H : Hp} {r : Res D} {Q : VK} {E : Wd Ex} (h : PostR K α H r (fun d _ α' H' => ∀ v, Rep K α' H' d v → Q v H') E) (n : NoX r) : Gv K α H r Q := by
  cases r with
  | ok d S => exact h
  | exn x S => exact n.elim
  | stuck => exact h
theorem nox_add {x y : D} {S : Sto} : NoX (addD x y S) := by
  unfold addD
  repeat' split
  all_goals trivial
theorem nox_bin {op : Operator} {x y : D} {S : Sto} : NoX (binD op x y S) := by
  unfold binD
  split
  · exact nox_add
  all_goals first | trivial | (repeat' split) <;> trivial
theorem nox_slc {x : D} {l h : Option Int} {S : Sto} : NoX (slcD x l h S) := by
  unfold slcD
  repeat' split
  all_goals trivial
theorem nox_blt {b : Blt} {xs : List D} {S : Sto} : NoX (bltD b xs S) := by
  unfold bltD
  repeat' split
  all_goals first | trivial | exact NoX.ofO
theorem nox_bm {b : Bm} {x : D} {xs : List D} {S : Sto} : NoX (bmD b x xs S) := by
  unfold bmD
  repeat' split
  all_goals first | trivial | exact NoX.ofO
theorem Res.bind_assoc {α β γ : Type} (r : Res α) (f : α → Sto → Res β) (g : β → Sto → Res γ) : (r.bind f).bind g = r.bind fun a S => (f a S).bind g := by cases r <;> rfl
theorem bind_ok {α β : Type} {r : Res α} {f : α → Sto → Res β} {b : β} {S : Sto} (h : r.bind f = .ok b S) : ∃ a S1, r = .ok a S1 ∧ f a S1 = .ok b S := by
  cases r with
  | ok a S1 => exact ⟨a, S1, rfl, h⟩
  | exn x S1 => cases h
  | stuck => cases h
theorem evEs_len {C : Cf} {cu : Option Ex} : ∀ {cs : CEs} {ρ : Env} {S : Sto} {ds : List D} {S' : Sto}, evEs C cu cs ρ S = .ok ds S' → ds.length = cs.len
  | .nil, ρ, S, ds, S', h => by
    unfold evEs at h
    cases h
    rfl
  | .cons c cs, ρ, S, ds, S', h => by
    unfold evEs at h
    obtain ⟨d, S1, _, h1⟩ := bind_ok h
    obtain ⟨es, S2, h2, h3⟩ := bind_ok h1
    cases h3
    rw [List.length_cons, evEs_len h2]
    rfl
/-- arguments are asked, then the rest; they are as many as are written -/
theorem tA.askN {K : PySem.W.Frag} {W : WX} {hi : Option Hot} {C : Cf} {cu : Option Ex} {cs : CEs} {ρ : Env} {σ : St} {γ : Type} {α : List Addr} {H : Hp} {S : Sto} {g : List D → Sto → Res γ} {R : Wd γ} {Q : List V → Hp → Prop} (h : St0 K hi α H ρ σ S) (p : PostR K α H ((evEs C cu cs ρ S).bind g) R (XW K W σ))
    (q : ∀ d S' α' H' v, Le K α H α' H' → St0 K hi α' H' ρ σ S' → RepL K α' H' d v → d.length = cs.len → PostR K α' H' (g d S') R (XW K W σ) → Q v H') : tA K W hi (evEs C cu cs) σ H Q := by
  refine ⟨α, ρ, S, h, ?_⟩
  cases e : evEs C cu cs ρ S with
  | ok d S1 =>
    rw [e] at p
    exact fun α' H' l s v r => q d S1 α' H' v l (h.next l s) r (evEs_len e) (PostR.le p l)
  | exn x S1 => rw [e] at p; exact p
  | stuck => rw [e] at p; exact p

section
variable {T : Tab} {pg : Prg} {k : Nat} {N : List Str} {sc : Scope} {hi : Option Hot} {pos : Pos}
theorem lev_con {k : Nat} {x : Str} : (lev pg k).con x = pg.con x := by cases k <;> rfl
theorem lev_ccon {k : Nat} {x y : Str} : (lev pg k).ccon x y = pg.ccon x y := by cases k <;> rfl
theorem lev_sub {k : Nat} {x y : Str} : (lev pg k).sub x y = pg.sub x y := by cases k <;> rfl
theorem lev_exf {k : Nat} {x y : Str} : (lev pg k).exf x y = pg.exf x y := by cases k <;> rfl
theorem lev_fok {k : Nat} : (lev pg k).fok = pg.fok := by cases k <;> rfl
theorem lev_mok {k : Nat} : (lev pg k).mok = pg.mok := by cases k <;> rfl
theorem lev_exc {k : Nat} {x : Str} {ds : List D} {fs : List (Str × D)} (h : (lev pg k).exc x ds = some fs) : pg.exc x ds = some fs ∧ ∃ j, k = j + 2 := by
  cases k with
  | zero => cases h
  | succ j =>
    have h : (if j = 0 then none else pg.exc x ds) = some fs := h
    cases j with
    | zero => cases h
    | succ j => exact ⟨h, j, rfl⟩
theorem At.gl {X : Cx} {W : WX} (A : At T pg k N sc hi X W) {x : Str} (h : glB sc x = true) : Gl X x ∧ (x == ("__debug__" : Str)) = false ∧ x ≠ "__name__" := gl_of (X := X) (x := x) (by rw [A.scp]; exact h)

theorem se_var {i : Nat} {x : Str} (h1 : N[i]? = some x) (h2 : visB sc x = true) (h3 : nmOk x = true) : SE T pg k N sc hi (.var i) (.Name x pos) := fun X W A => by
  refine PE.weak (pe_var (i := i) (by rw [A.n]; exact h1) (by rw [A.scp]; exact vis_of h2) (nm_of h3).1 (nm_of h3).2.1) fun σ H Q ⟨α, ρ, S, st, p⟩ => ?_
  rw [evE_var] at p
  obtain ⟨d, e, q⟩ := p.ofO st.2.1
  obtain ⟨v, e1, r⟩ := st.1.get e
  exact ⟨v, e1, q v r⟩
theorem se_int {i : Int} {j : Nat} : SE T pg k N sc hi (.int i) (.Constant (.int i) j pos) := fun X W A => PE.weak pe_int fun σ H Q ⟨α, ρ, S, st, p⟩ => by
  rw [evE_int] at p
  exact p.now st.2.1 _ int_rep
theorem se_bl {i : Bool} {j : Nat} : SE T pg k N sc hi (.bl i) (.Constant (.bool i) j pos) := fun X W A => PE.weak pe_bl fun σ H Q ⟨α, ρ, S, st, p⟩ => by
  rw [evE_bl] at p
  exact p.now st.2.1 _ bl_rep
theorem se_str {i : Str} {j : Nat} : SE T pg k N sc hi (.str i) (.Constant (.str i) j pos) := fun X W A => PE.weak pe_str fun σ H Q ⟨α, ρ, S, st, p⟩ => by
  rw [evE_str] at p
  exact p.now st.2.1 _ str_rep
theorem se_non {j : Nat} : SE T pg k N sc hi .non (.Constant .none j pos) := fun X W A => PE.weak pe_non fun σ H Q ⟨α, ρ, S, st, p⟩ => by
  rw [evE_non] at p
  exact p.now st.2.1 _ non_rep
end
end Mp
end
section
set_option Elab.async false
set_option linter.all false
set_option maxRecDepth 100000
set_option maxHeartbeats 1000000
/-! MpExp: expressions: a core expression's answer is what the text's evaluation gives. -/
namespace Mp
open PySem L2
section
variable {T : Tab} {pg : Prg} {k : Nat} {N : List Str} {sc : Scope} {hi : Option Hot} {pos : Pos}
theorem pe_const {X : Cx} {W : WX} {A : At T pg k N sc hi X W} {x : Str} (g : glB sc x = true) {d : D} (hx : x ∈ T.cons) (q : pg.con x = some d) : ∃ v, PE X (.Name x pos) (tC v) ∧ ∀ α H, Rep X.K α H d v := by
  obtain ⟨g1, g2, g3⟩ := A.gl g
  obtain ⟨v, u, hm, r, rp⟩ := A.lnk.con x d hx q
  exact ⟨v, pe_glob g1 hm r g2, rp⟩
/-- a part that answers with a known value or is never asked -/
theorem se_of {c : CE} {e : Expr} {W : WX} {X : Cx} {o : Option D} (hev : ∀ ρ S, evE (lev pg k) (cuOf hi) c ρ S = ofO o S) (h : ∀ d, o = some d → ∃ v, PE X e (tC v) ∧ ∀ α H, Rep X.K α H d v) : PE X e (tE X.K W hi (evE (lev pg k) (cuOf hi) c)) := by
  cases q : o with
  | none =>
    refine ⟨fun pins s σ H Q I ⟨α, ρ, S, st, p⟩ => ?_⟩
    rw [hev, q] at p
    exact p.elim
  | some d =>
    obtain ⟨v, hp, r⟩ := h d q
    refine PE.weak hp fun σ H Q ⟨α, ρ, S, st, p⟩ => ?_
    rw [hev, q] at p
    exact p.now st.2.1 v (r _ _)
theorem se_glob {x : Str} (h : glB sc x = true) (hx : x ∈ T.cons) : SE T pg k N sc hi (.glob x) (.Name x pos) := fun X W A => by
  refine se_of (o := pg.con x) (fun ρ S => by rw [evE_glob, lev_con]) fun d q => ?_
  exact pe_const (A := A) h hx q
theorem se_ccon {c f : Str} {p1 : Pos} (h : glB sc c = true) (hx : (c, f) ∈ T.ccons) : SE T pg k N sc hi (.ccon c f) (.Attribute (.Name c p1) f pos) := fun X W A => by
  refine se_of (o := pg.ccon c f) (fun ρ S => by rw [evE_ccon, lev_ccon]) fun d q => ?_
  obtain ⟨g1, g2, g3⟩ := A.gl h
  obtain ⟨hm, mc, v, u, cr, cv, rp⟩ := A.lnk.ccon c f d hx q
  refine ⟨v, PE.weak (ClX.pe_cval (pe_glob (v := .ref (He.ga X.K c)) g1 hm rfl g2)) fun σ H Q q => ?_, rp⟩
  exact ⟨_, mc, v, u, rfl, cr, cv, q⟩

/-! ### argument lists, displays -/
theorem sa_nil : SA T pg k N sc hi .nil [] := fun X W A => PA.weak pa_nil fun σ H Q ⟨α, ρ, S, st, p⟩ => by
  rw [evEs_nil] at p
  exact p.now st.2.1 [] .nil
theorem sa_cons {c : CE} {cs : CEs} {e : Expr} {es : List Expr} (h1 : SE T pg k N sc hi c e) (h2 : SA T pg k N sc hi cs es) (hs : noStar e = true) : SA T pg k N sc hi (.cons c cs) (e :: es) := fun X W A =>
  PA.weak (pa_cons (h1 X W A) (h2 X W A) (star_of hs)) fun σ H Q ⟨α, ρ, S, st, p⟩ => by
    rw [evEs_cons] at p
    refine tE.ask st p fun d S1 α1 H1 v l1 st1 r1 p1 => ?_
    refine tA.ask st1 p1 fun ds S2 α2 H2 vs l2 st2 r2 p2 => ?_
    exact p2.now st2.2.1 _ (.cons (r1.mono l2) r2)
theorem few_line {n : Nat} (h : n ≤ 1000) : n ≤ sizeLine := by rw [sizeLine_eq]; omega
theorem se_tup {cs : CEs} {es : List Expr} {j : Nat} (h : SA T pg k N sc hi cs es) (hn : cs.len ≤ 1000) : SE T pg k N sc hi (.tup cs) (.Tuple es j pos) := fun X W A =>
  PE.weak (pe_tup (h X W A)) fun σ H Q ⟨α, ρ, S, st, p⟩ => by
    rw [evE_tup] at p
    refine tA.askN st p fun ds S1 α1 H1 vs l1 st1 r1 hl p1 => ⟨?_, fun a ha => ?_⟩
    · rw [← r1.length, hl]; exact few_line hn
    · exact (p1.gv trivial).tup st1.2.1 r1 a ha
theorem se_lst {cs : CEs} {es : List Expr} (h : SA T pg k N sc hi cs es) (hn : cs.len ≤ 1000) : SE T pg k N sc hi (.lst cs) (.List es pos) := fun X W A =>
  PE.weak (pe_lst (h X W A)) fun σ H Q ⟨α, ρ, S, st, p⟩ => by
    rw [evE_lst] at p
    refine tA.askN st p fun ds S1 α1 H1 vs l1 st1 r1 hl p1 => ⟨?_, fun a ha => ?_⟩
    · rw [← r1.length, hl]; exact few_line hn
    · exact (p1.gv trivial).lst st1.2.1 r1 a ha

theorem asint_bind {X : Cx} {W : WX} {α : List Addr} {H : Hp} {S : Sto} {d : D} {σ : St} {γ : Type} {g : Int → Sto → Res γ} {R : Wd γ} (p : PostR X.K α H ((ofO (asInt d) S).bind g) R (XW X.K W σ)) : ∃ b, d = .int b ∧ PostR X.K α H (g b S) R (XW X.K W σ) := by
  cases d with
  | int i => exact ⟨i, rfl, p⟩
  | _ => exact p.elim

/-! ### operators -/
theorem se_bin {op : Operator} {a b : CE} {e f : Expr} (h1 : SE T pg k N sc hi a e) (h2 : SE T pg k N sc hi b f) : SE T pg k N sc hi (.bin op a b) (.BinOp e op f pos) := fun X W A =>
  PE.weak (pe_op (opr_bin op) (h1 X W A) (h2 X W A)) fun σ H Q ⟨α, ρ, S, st, p⟩ => by
    rw [evE_bin] at p
    refine tE.ask st p fun d S1 α1 H1 v l1 st1 r1 p1 => ?_
    refine tE.ask st1 p1 fun e S2 α2 H2 u l2 st2 r2 p2 => ?_
    exact ⟨α2, S2, d, e, st2.2.1, r1.mono l2, r2, p2.gv nox_bin⟩
theorem se_neg {a : CE} {e : Expr} (h1 : SE T pg k N sc hi a e) : SE T pg k N sc hi (.neg a) (.UnaryOp .USub e pos) := fun X W A =>
  PE.weak (pe_un un_neg (h1 X W A)) fun σ H Q ⟨α, ρ, S, st, p⟩ => by
    rw [evE_neg] at p
    refine tE.ask st p fun d S1 α1 H1 v l1 st1 r1 p1 => ?_
    obtain ⟨i, rfl, p2⟩ := asint_bind p1
    exact ⟨i, rep_int r1, p2.now st1.2.1 _ int_rep⟩
theorem rcmp_of {X : Cx} {W : WX} {op : CmpOp} {α : List Addr} {H : Hp} {S : Sto} {d e : D} {v u : V} {Q : VK} {ρ : Env} {σ : St} (st : St0 X.K hi α H ρ σ S) (r1 : Rep X.K α H d v) (r2 : Rep X.K α H e u) (p : PostR X.K α H (ofO ((cmpD op d e S).map .bl) S) (fun d _ α' H' => ∀ v, Rep X.K α' H' d v → Q v H') (XW X.K W σ)) : rCmp X.K op v u H Q := by
  obtain ⟨z, hz, q⟩ := p.ofO st.2.1
  cases h : cmpD op d e S with
  | none => rw [h] at hz; cases hz
  | some b =>
    rw [h] at hz
    cases hz
    exact ⟨α, S, d, e, st.2.1, r1, r2, b, h, q _ bl_rep⟩
theorem se_cmp {op : CmpOp} {a b : CE} {e f : Expr} (h1 : SE T pg k N sc hi a e) (h2 : SE T pg k N sc hi b f) (hs : noSet f = true) : SE T pg k N sc hi (.cmp op a b) (.Compare e [op] [f] pos) := fun X W A =>
  PE.weak (pe_cmpR (opr_cmp A.un op) (h1 X W A) (h2 X W A) (no_marks hs)) fun σ H Q ⟨α, ρ, S, st, p⟩ => by
    rw [evE_cmp] at p
    refine tE.ask st p fun d S1 α1 H1 v l1 st1 r1 p1 => ?_
    refine tE.ask st1 p1 fun e S2 α2 H2 u l2 st2 r2 p2 => ?_
    exact rcmp_of st2 (r1.mono l2) r2 p2
theorem tst_post {X : Cx} {W : WX} {α : List Addr} {H : Hp} {o : Option Bool} {S : Sto} {R : Bool → Hp → Prop} {σ : St} (p : PostR X.K α H ((ofO (o.map .bl) S).bind fun x S1 => ofO (isBl x) S1) (fun b _ _ H' => R b H') (XW X.K W σ)) :
    PostR X.K α H (ofO (o.map .bl) S) (fun d _ α' H' => ∀ v, Rep X.K α' H' d v → ∃ c, v = .bl c ∧ R c H') (XW X.K W σ) := by
  cases o with
  | none => exact p
  | some b => exact fun α' H' l s v r => ⟨b, rep_bl r, p α' H' l s⟩
theorem st_cmp {op : CmpOp} {a b : CE} {e f : Expr} (h1 : SE T pg k N sc hi a e) (h2 : SE T pg k N sc hi b f) (hs : noSet f = true) : ST T pg k N sc hi (.cmp op a b) (.Compare e [op] [f] pos) := fun X W A =>
  PT.weak (pt_cmpR (opr_cmp A.un op) (h1 X W A) (h2 X W A) (no_marks hs)) fun σ H Q ⟨α, ρ, S, st, p⟩ => by
    unfold tst at p; rw [evE_cmp] at p
    rw [Res.bind_assoc] at p
    refine tE.ask st p fun d S1 α1 H1 v l1 st1 r1 p1 => ?_
    rw [Res.bind_assoc] at p1
    refine tE.ask st1 p1 fun e S2 α2 H2 u l2 st2 r2 p2 => ?_
    exact rcmp_of (W := W) st2 (r1.mono l2) r2 (tst_post p2)
theorem last_marks {e f : Expr} {op op' : CmpOp} (h : noSet f = true) : lastMarks [op, op'] [e, f] = false := by
  cases f <;> first | rfl | exact absurd h Bool.false_ne_true
theorem rcmp2_of {X : Cx} {W : WX} {op : CmpOp} {α : List Addr} {H : Hp} {S : Sto} {d e : D} {v u : V} {Q : VK} {ρ : Env} {σ : St} {γ : Type} {g : Bool → Sto → Res γ} {R : Wd γ} (st : St0 X.K hi α H ρ σ S) (r1 : Rep X.K α H d v) (r2 : Rep X.K α H e u)
    (p : PostR X.K α H ((ofO (cmpD op d e S) S).bind g) R (XW X.K W σ)) (q : ∀ b, PostR X.K α H (g b S) R (XW X.K W σ) → Q (.bl b) H) : rCmp X.K op v u H Q := by
  cases h : cmpD op d e S with
  | none => rw [h] at p; exact p.elim
  | some b =>
    rw [h] at p
    exact ⟨α, S, d, e, st.2.1, r1, r2, b, h, q b p⟩
theorem se_cmp2 {op op' : CmpOp} {a b c : CE} {e f g : Expr} (h1 : SE T pg k N sc hi a e) (h2 : SE T pg k N sc hi b f) (h3 : SE T pg k N sc hi c g) (hs : noSet g = true) : SE T pg k N sc hi (.cmp2 op op' a b c) (.Compare e [op, op'] [f, g] pos) := fun X W A =>
  PE.weak (pe_chain (opr_cmp A.un op) (opr_cmp A.un op') (h1 X W A) (h2 X W A) (h3 X W A) (last_marks hs)) fun σ H Q ⟨α, ρ, S, st, p⟩ => by
    rw [evE_cmp2] at p
    refine tE.ask st p fun d S1 α1 H1 v l1 st1 r1 p1 => ?_
    refine tE.ask st1 p1 fun e S2 α2 H2 u l2 st2 r2 p2 => ?_
    refine rcmp2_of st2 (r1.mono l2) r2 p2 fun z p3 => ⟨z, rfl, ?_⟩
    cases z with
    | false => exact p3.now st2.2.1 _ bl_rep
    | true =>
      refine tE.ask st2 p3 fun e2 S3 α3 H3 u2 l3 st3 r3 p3 => ?_
      exact rcmp_of st3 (r2.mono l3) r3 p3
theorem st_cmp2 {op op' : CmpOp} {a b c : CE} {e f g : Expr} (h1 : SE T pg k N sc hi a e) (h2 : SE T pg k N sc hi b f) (h3 : SE T pg k N sc hi c g) (hs : noSet g = true) : ST T pg k N sc hi (.cmp2 op op' a b c) (.Compare e [op, op'] [f, g] pos) := fun X W A =>
  PT.weak (pt_chain (opr_cmp A.un op) (opr_cmp A.un op') (h1 X W A) (h2 X W A) (h3 X W A) (last_marks hs)) fun σ H Q ⟨α, ρ, S, st, p⟩ => by
    unfold tst at p; rw [evE_cmp2] at p
    rw [Res.bind_assoc] at p
    refine tE.ask st p fun d S1 α1 H1 v l1 st1 r1 p1 => ?_
    rw [Res.bind_assoc] at p1
    refine tE.ask st1 p1 fun e S2 α2 H2 u l2 st2 r2 p2 => ?_
    rw [Res.bind_assoc] at p2
    refine rcmp2_of st2 (r1.mono l2) r2 p2 fun z p3 => ⟨z, rfl, ?_⟩
    cases z with
    | false => exact ⟨false, rfl, p3.now st2.2.1⟩
    | true =>
      refine if_pos rfl ▸ ?_
      rw [if_pos rfl, Res.bind_assoc] at p3
      refine tE.ask st2 p3 fun e2 S3 α3 H3 u2 l3 st3 r3 p3 => ?_
      exact rcmp_of (W := W) st3 (r2.mono l3) r3 (tst_post p3)
theorem se_not {a : CE} {e : Expr} (h1 : SE T pg k N sc hi a e) : SE T pg k N sc hi (.not a) (.UnaryOp .Not e pos) := fun X W A =>
  PE.weak (pe_not (h1 X W A)) fun σ H Q ⟨α, ρ, S, st, p⟩ => by
    rw [evE_not] at p
    refine tE.ask st p fun d S1 α1 H1 v l1 st1 r1 p1 => ?_
    obtain ⟨z, hz, q⟩ := p1.ofO st1.2.1
    cases h : isBl d with
    | none => rw [h] at hz; cases hz
    | some b =>
      rw [h] at hz
      cases hz
      cases isBl_some h
      exact ⟨b, rep_bl r1, q _ bl_rep⟩

/-! ### tests -/
theorem st_val {a : CE} {e : Expr} (h1 : SE T pg k N sc hi a e) (hp : plainTest e = true) : ST T pg k N sc hi a e := fun X W A =>
  PT.weak (pt_val (h1 X W A) (plain_test hp)) fun σ H Q ⟨α, ρ, S, st, p⟩ => by
    unfold tst at p
    refine tE.ask st p fun d S1 α1 H1 v l1 st1 r1 p1 => ?_
    obtain ⟨b, hb, q⟩ := p1.ofO st1.2.1
    cases isBl_some hb
    exact ⟨b, rep_bl r1, q⟩
theorem tst_not {C : Cf} {cu : Option Ex} {a : CE} {ρ : Env} {S : Sto} : tst C cu (.not a) ρ S = (tst C cu a ρ S).bind fun b S1 => .ok (!b) S1 := by
  unfold tst
  rw [evE_not, Res.bind_assoc, Res.bind_assoc]
  congr 1
  funext x S1
  cases isBl x <;> rfl
theorem ev_and {C : Cf} {cu : Option Ex} {a b : CE} {cs : CEs} {ρ : Env} {S : Sto} : evE C cu (.and (.cons a (.cons b cs))) ρ S = (evE C cu a ρ S).bind fun x S1 => (ofO (isBl x) S1).bind fun k S2 => if k = true then evE C cu (.and (.cons b cs)) ρ S2 else .ok (.bl false) S2 := by
  rw [evE_and, evAnd_cons]
  simp only [evE_and]
theorem ev_or {C : Cf} {cu : Option Ex} {a b : CE} {cs : CEs} {ρ : Env} {S : Sto} : evE C cu (.or (.cons a (.cons b cs))) ρ S = (evE C cu a ρ S).bind fun x S1 => (ofO (isBl x) S1).bind fun k S2 => if k = true then .ok (.bl true) S2 else evE C cu (.or (.cons b cs)) ρ S2 := by
  rw [evE_or, evOr_cons]
  simp only [evE_or]
theorem ev_and1 {C : Cf} {cu : Option Ex} {a : CE} : evE C cu (.and (.cons a .nil)) = evE C cu a := by
  funext ρ S
  rw [evE_and, evAnd_one]
theorem ev_or1 {C : Cf} {cu : Option Ex} {a : CE} : evE C cu (.or (.cons a .nil)) = evE C cu a := by
  funext ρ S
  rw [evE_or, evOr_one]
theorem tst_and {C : Cf} {cu : Option Ex} {a b : CE} {cs : CEs} {ρ : Env} {S : Sto} : tst C cu (.and (.cons a (.cons b cs))) ρ S = (tst C cu a ρ S).bind fun c S1 => if c = true then tst C cu (.and (.cons b cs)) ρ S1 else .ok false S1 := by
  unfold tst
  rw [ev_and, Res.bind_assoc, Res.bind_assoc]
  congr 1
  funext x S1
  cases isBl x with
  | none => rfl
  | some c => cases c <;> rfl
theorem tst_or {C : Cf} {cu : Option Ex} {a b : CE} {cs : CEs} {ρ : Env} {S : Sto} : tst C cu (.or (.cons a (.cons b cs))) ρ S = (tst C cu a ρ S).bind fun c S1 => if c = true then .ok true S1 else tst C cu (.or (.cons b cs)) ρ S1 := by
  unfold tst
  rw [ev_or, Res.bind_assoc, Res.bind_assoc]
  congr 1
  funext x S1
  cases isBl x with
  | none => rfl
  | some c => cases c <;> rfl
theorem tst_and1 {C : Cf} {cu : Option Ex} {a : CE} : tst C cu (.and (.cons a .nil)) = tst C cu a := by
  funext ρ S
  unfold tst
  rw [ev_and1]
theorem tst_or1 {C : Cf} {cu : Option Ex} {a : CE} : tst C cu (.or (.cons a .nil)) = tst C cu a := by
  funext ρ S
  unfold tst
  rw [ev_or1]
theorem st_not {a : CE} {e : Expr} (h1 : ST T pg k N sc hi a e) : ST T pg k N sc hi (.not a) (.UnaryOp .Not e pos) := fun X W A =>
  PT.weak (pt_not (h1 X W A)) fun σ H Q ⟨α, ρ, S, st, p⟩ => by
    rw [tst_not] at p
    exact tT.ask st p fun d S1 α1 H1 l1 st1 p1 => p1.now st1.2.1
theorem sw_and1 {a : CE} {e : Expr} (h : ST T pg k N sc hi a e) : SW T pg k N sc hi (.and (.cons a .nil)) (.BoolOp .And [e] pos) := fun X W A => by
  rw [tst_and1]
  exact pw_and1 (h X W A)
theorem sw_or1 {a : CE} {e : Expr} (h : ST T pg k N sc hi a e) : SW T pg k N sc hi (.or (.cons a .nil)) (.BoolOp .Or [e] pos) := fun X W A => by
  rw [tst_or1]
  exact pw_or1 (h X W A)
theorem sw_and {a b : CE} {cs : CEs} {e f : Expr} {es : List Expr} (h1 : ST T pg k N sc hi a e) (h2 : SW T pg k N sc hi (.and (.cons b cs)) (.BoolOp .And (f :: es) pos)) : SW T pg k N sc hi (.and (.cons a (.cons b cs))) (.BoolOp .And (e :: f :: es) pos) := fun X W A =>
  PW.weak (pw_and (h1 X W A) (h2 X W A)) fun σ H Q ⟨α, ρ, S, st, p⟩ => by
    rw [tst_and] at p
    refine tT.ask st p fun d S1 α1 H1 l1 st1 p1 => ?_
    cases d with
    | false => exact p1.now st1.2.1
    | true => exact ⟨α1, ρ, S1, st1, p1⟩
theorem sw_or {a b : CE} {cs : CEs} {e f : Expr} {es : List Expr} (h1 : ST T pg k N sc hi a e) (h2 : SW T pg k N sc hi (.or (.cons b cs)) (.BoolOp .Or (f :: es) pos)) : SW T pg k N sc hi (.or (.cons a (.cons b cs))) (.BoolOp .Or (e :: f :: es) pos) := fun X W A =>
  PW.weak (pw_or (h1 X W A) (h2 X W A)) fun σ H Q ⟨α, ρ, S, st, p⟩ => by
    rw [tst_or] at p
    refine tT.ask st p fun d S1 α1 H1 l1 st1 p1 => ?_
    cases d with
    | true => exact p1.now st1.2.1
    | false => exact ⟨α1, ρ, S1, st1, p1⟩
theorem SW.st {a : CE} {e : Expr} (h : SW T pg k N sc hi a e) : ST T pg k N sc hi a e := fun X W A => (h X W A).pt
theorem se_and1 {a : CE} {e : Expr} (h : SE T pg k N sc hi a e) : SE T pg k N sc hi (.and (.cons a .nil)) (.BoolOp .And [e] pos) := fun X W A => by
  rw [ev_and1]
  exact pe_one (h X W A)
theorem se_or1 {a : CE} {e : Expr} (h : SE T pg k N sc hi a e) : SE T pg k N sc hi (.or (.cons a .nil)) (.BoolOp .Or [e] pos) := fun X W A => by
  rw [ev_or1]
  exact pe_one (h X W A)
theorem isbl_bind {X : Cx} {W : WX} {α : List Addr} {H : Hp} {S : Sto} {d : D} {σ : St} {γ : Type} {g : Bool → Sto → Res γ} {R : Wd γ} (p : PostR X.K α H ((ofO (isBl d) S).bind g) R (XW X.K W σ)) : ∃ b, d = .bl b ∧ PostR X.K α H (g b S) R (XW X.K W σ) := by
  cases h : isBl d with
  | none => rw [h] at p; exact p.elim
  | some b =>
    rw [h] at p
    exact ⟨b, isBl_some h, p⟩
theorem se_and {a b : CE} {cs : CEs} {e f : Expr} {es : List Expr} (h1 : SE T pg k N sc hi a e) (h2 : SE T pg k N sc hi (.and (.cons b cs)) (.BoolOp .And (f :: es) pos)) : SE T pg k N sc hi (.and (.cons a (.cons b cs))) (.BoolOp .And (e :: f :: es) pos) := fun X W A =>
  PE.weak (pe_and (h1 X W A) (h2 X W A)) fun σ H Q ⟨α, ρ, S, st, p⟩ => by
    rw [ev_and] at p
    refine tE.ask st p fun d S1 α1 H1 v l1 st1 r1 p1 => ?_
    obtain ⟨c, rfl, p2⟩ := isbl_bind p1
    refine ⟨c, rep_bl r1, ?_⟩
    cases c with
    | false => exact p2.now st1.2.1 _ bl_rep
    | true => exact ⟨α1, ρ, S1, st1, p2⟩
theorem se_or {a b : CE} {cs : CEs} {e f : Expr} {es : List Expr} (h1 : SE T pg k N sc hi a e) (h2 : SE T pg k N sc hi (.or (.cons b cs)) (.BoolOp .Or (f :: es) pos)) : SE T pg k N sc hi (.or (.cons a (.cons b cs))) (.BoolOp .Or (e :: f :: es) pos) := fun X W A =>
  PE.weak (pe_or (h1 X W A) (h2 X W A)) fun σ H Q ⟨α, ρ, S, st, p⟩ => by
    rw [ev_or] at p
    refine tE.ask st p fun d S1 α1 H1 v l1 st1 r1 p1 => ?_
    obtain ⟨c, rfl, p2⟩ := isbl_bind p1
    refine ⟨c, rep_bl r1, ?_⟩
    cases c with
    | true => exact p2.now st1.2.1 _ bl_rep
    | false => exact ⟨α1, ρ, S1, st1, p2⟩
theorem se_ifx {c a b : CE} {ec ea eb : Expr} (hc : ST T pg k N sc hi c ec) (ha : SE T pg k N sc hi a ea) (hb : SE T pg k N sc hi b eb) : SE T pg k N sc hi (.ifx c a b) (.IfExp ec ea eb pos) := fun X W A =>
  PE.weak (pe_ifExp (hc X W A) (ha X W A) (hb X W A)) fun σ H Q ⟨α, ρ, S, st, p⟩ => by
    rw [evE_ifx] at p
    rw [← Res.bind_assoc] at p
    refine tT.ask (f := tst (lev pg k) (cuOf hi) c) st p fun z S1 α1 H1 l1 st1 p1 => ?_
    cases z with
    | true => exact ⟨α1, ρ, S1, st1, p1⟩
    | false => exact ⟨α1, ρ, S1, st1, p1⟩

/-! ### fields, items, slices -/
theorem se_sub {a b : CE} {e f : Expr} (h1 : SE T pg k N sc hi a e) (h2 : SE T pg k N sc hi b f) (hs : noSlice f = true) : SE T pg k N sc hi (.sub a b) (.Subscript e f pos) := fun X W A =>
  PE.weak (pe_ix ixr_d (h1 X W A) (h2 X W A) (plain_ix hs)) fun σ H Q ⟨α, ρ, S, st, p⟩ => by
    rw [evE_sub] at p
    refine tE.ask st p fun d S1 α1 H1 v l1 st1 r1 p1 => ?_
    refine tE.ask st1 p1 fun e S2 α2 H2 u l2 st2 r2 p2 => ?_
    obtain ⟨i, rfl, p3⟩ := asint_bind p2
    exact ⟨α2, S2, d, i, st2.2.1, r1.mono l2, rep_int r2, p3.gv NoX.ofO⟩
theorem so_none : SO T pg k N sc hi .none none := fun X W A => PO.weak po_none fun σ H Q ⟨α, ρ, S, st, p⟩ => by
  rw [evO_none] at p
  exact p.now st.2.1
theorem so_some {a : CE} {e : Expr} (h : SE T pg k N sc hi a e) : SO T pg k N sc hi (.some a) (some e) := fun X W A => PO.weak (po_some (h X W A)) fun σ H Q ⟨α, ρ, S, st, p⟩ => by
  rw [evO_some] at p
  refine tE.ask st p fun d S1 α1 H1 v l1 st1 r1 p1 => ?_
  obtain ⟨i, rfl, p2⟩ := asint_bind p1
  exact ⟨i, rep_int r1, p2.now st1.2.1⟩
theorem se_slc {a : CE} {lo hi' : CO} {e : Expr} {el eh : Option Expr} {p2 : Pos} (h1 : SE T pg k N sc hi a e) (h2 : SO T pg k N sc hi lo el) (h3 : SO T pg k N sc hi hi' eh) : SE T pg k N sc hi (.slc a lo hi') (.Subscript e (.Slice el eh none p2) pos) := fun X W A =>
  PE.weak (pe_slice slr_d (h1 X W A) (h2 X W A) (h3 X W A)) fun σ H Q ⟨α, ρ, S, st, p⟩ => by
    rw [evE_slc] at p
    refine tE.ask st p fun d S1 α1 H1 v l1 st1 r1 p1 => ?_
    refine tO.ask st1 p1 fun x S2 α2 H2 l2 st2 p2 => ?_
    refine tO.ask st2 p2 fun y S3 α3 H3 l3 st3 p3 => ?_
    exact ⟨α3, S3, d, st3.2.1, (r1.mono l2).mono l3, p3.gv nox_slc⟩
theorem fld_at {ok : Str → Str → Bool} {d : D} {f : Str} {S : Sto} {x : D} (h : fldD ok d f S = some x) : ∃ n c fs, d = .ref n ∧ S[n]? = some (.ins c fs) ∧ fs.lookup f = some x ∧ ok c f = true := by
  unfold fldD at h
  split at h
  · rename_i n
    split at h
    · rename_i c fs e
      split at h
      · rename_i q
        exact ⟨n, c, fs, rfl, e, h, q⟩
      · cases h
    · cases h
  · cases h
end
end Mp
end
section
set_option Elab.async false
set_option linter.all false
set_option maxRecDepth 100000
set_option maxHeartbeats 1000000
/-! MpCall: fields, calls, methods, built-ins. -/
namespace Mp
open PySem L2
section
variable {T : Tab} {pg : Prg} {k : Nat} {N : List Str} {sc : Scope} {hi : Option Hot} {pos : Pos}
theorem obind {α β : Type} {o : Option α} {f : α → Option β} {b : β} (h : o.bind f = some b) : ∃ a, o = some a ∧ f a = some b := by
  cases o with
  | none => cases h
  | some a => exact ⟨a, rfl, h⟩
theorem omap {α β : Type} {o : Option α} {f : α → β} {b : β} (h : o.map f = some b) : ∃ a, o = some a ∧ b = f a := by
  cases o with
  | none => cases h
  | some a => cases h; exact ⟨a, rfl, rfl⟩
/-- what the answer of a call leaves, at a call -/
theorem call_post {X : Cx} {W : WX} {α : List Addr} {H : Hp} {σ : St} {n : Nat} {f : List D → Sto → Res D} {ds : List D} {vs : List V} {S : Sto} {Q : VK} (s : SRep X.K α H S) (r : RepL X.K α H ds vs) (hn : ds.length = n)
    (p : PostR X.K α H (f ds S) (fun d _ α' H' => ∀ v, Rep X.K α' H' d v → Q v H') (XW X.K W σ)) : spC X.K n f vs H Q (WE W σ) := ⟨by rw [← r.length, hn], α, ds, S, r, s, p⟩
theorem se_fld {a : CE} {f : Str} {e : Expr} (h1 : SE T pg k N sc hi a e) (hb : attrOk e = true) : SE T pg k N sc hi (.fld a f) (.Attribute e f pos) := fun X W A =>
  PE.weak (pe_fld (h1 X W A) (attr_base hb)) fun σ H Q ⟨α, ρ, S, st, p⟩ => by
    rw [evE_fld] at p
    refine tE.ask st p fun d S1 α1 H1 v l1 st1 r1 p1 => ?_
    obtain ⟨x, hx, q⟩ := p1.ofO st1.2.1
    obtain ⟨n, c, fs, rfl, hS, hl, ok⟩ := fld_at hx
    rw [lev_fok] at ok
    obtain ⟨cl, na⟩ := A.lnk.fok c f ok
    obtain ⟨a, ha, rfl⟩ := rep_ref r1
    obtain ⟨dx, vfs, hH, rf⟩ := ins_at st1.2.1 ha hS
    obtain ⟨u, hu, ru⟩ := rf.lookup hl
    exact ⟨a, _, dx, vfs, u, rfl, hH, cl, na, hu, q u ru⟩

/-! ### calls of defs -/
theorem se_call {f : Str} {c : CE} {cs : CEs} {e : Expr} {es : List Expr} {p : Pos} (hh : hi = none) (g : glB sc f = true) (hf : (f, cs.len + 1) ∈ T.funs) (h : SA T pg k N sc hi (.cons c cs) (e :: es)) (hs : (e :: es).all noStar = true) :
    SE T pg k N sc hi (.call f (.cons c cs)) (.Call (.Name f p) (e :: es) [] pos) := fun X W A => by
  obtain ⟨g1, g2, g3⟩ := A.gl g
  obtain ⟨a, hm, fd, ps, kp, bd, F⟩ := A.lnk.fn f _ hf
  rw [List.all_cons, Bool.and_eq_true] at hs
  refine PE.weak (pe_callS F (A.calm hh).2 g1 hm kp bd A.pa (h X W A) g2 (star_of hs.1) (plain_of hs.2)) fun σ H Q ⟨α, ρ, S, st, p⟩ => ?_
  rw [evE_call] at p
  exact tA.askN st p fun ds S1 α1 H1 vs l1 st1 r1 hl p1 => call_post st1.2.1 r1 hl p1
theorem se_call0 {f : Str} {p : Pos} (hh : hi = none) (g : glB sc f = true) (hf : (f, 0) ∈ T.funs) : SE T pg k N sc hi (.call f .nil) (.Call (.Name f p) [] [] pos) := fun X W A => by
  obtain ⟨g1, g2, g3⟩ := A.gl g
  obtain ⟨a, hm, fd, ps, kp, bd, F⟩ := A.lnk.fn f _ hf
  refine ⟨fun pins s σ H Q I ⟨α, ρ, S, st, p⟩ => ?_⟩
  refine wpAny_Call_Name_kw (ld_glob I g1 hm ?_ g2)
  rw [evE_call, evEs_nil] at p
  exact PySem.W.callWith_K0 I.kIn kp (run_fnS (us := []) (E := WE W) F (A.calm hh).2 bd (A.pa σ) I .nil (call_post st.2.1 .nil rfl p))

/-! ### a new instance -/
theorem run_makeS {X : Cx} {W : WX} {C f : Addr} {fd : FuncData} {ps : List Str} {sp : Sp} {σ : St} {pins : List (Addr × Obj)} {H : Hp} {s : Shared} {Q : VK} {us : List Value} {vs : List V} (M : Mk X.K C f) (F : FnOk X.prog X.w X.K X.mg X.base (L2.CX X.prog X.w) k f fd ps sp) (hr : Room (k + 1) X.A) (hb : Binds X.K fd ps [])
    (hx : PassesAt (L2.CX X.prog X.w) X σ (WE W σ)) (I : Inv X pins σ H s) (r : Vals vs us)
    (h : ∀ x dx, H x = none → H dx = none → dx ≠ x → sp (.ref x :: vs) (upd (upd H dx (.own x)) x (.ins C dx [])) (fun v H2 => v = .non ∧ Q (.ref x) H2) (WE W σ)) :
    wpAny (model X.prog X.w) X.A (call (.ref C) us) (EP X pins σ Q) X.xe s := by
  have hq := h (s.heap.objs.size + 1) s.heap.objs.size (I.hok.fresh (Nat.le_succ _)) (I.hok.fresh (Nat.le_refl _)) (Nat.ne_of_lt (Nat.lt_succ_self _))
  have I2 := Inv.made (C := C) I
  have r2 : Vals (V.ref (s.heap.objs.size + 1) :: vs) (Value.ref (s.heap.objs.size + 1) :: us) := .cons rfl r
  have hl : (Value.ref (s.heap.objs.size + 1) :: us).length = ps.length := by
    have e := r2.length
    rw [F.len _ _ _ _ hq] at e
    exact e.symm
  have b := hb _ (Value.ref (s.heap.objs.size + 1) :: us) I2.kIn (by rw [List.append_nil]; exact hl)
  rw [List.append_nil] at b
  refine wpAny_call (make_map (f := f) I.kIn M.makes M.init (beq_iff_eq.mp M.fn) (codeAny_mono (F.run _ X.stack _ _ ⟨Value.ref (s.heap.objs.size + 1) :: us, []⟩ (Value.ref (s.heap.objs.size + 1) :: us) _ _ (WE W σ) (hr.make C us [])
    (I2.env0.make C us []) b r2 hq) fun r s' hq' => ?_))
  cases r with
  | error e => exact hx pins _ _ e s' I2 hq'
  | ok fl =>
    cases fl with
    | ret u =>
      obtain ⟨v, H', I3, rv, ev, q3⟩ := I2.after hq'
      subst ev
      exact ⟨rv, ⟨V.ref (s.heap.objs.size + 1), H', I3, rfl, q3⟩⟩
    | next => exact False.elim hq'
    | brk => exact False.elim hq'
    | cont => exact False.elim hq'
theorem make_post {X : Cx} {W : WX} {α : List Addr} {H : Hp} {σ : St} {n : Nat} {c : Str} {f : List D → Sto → Res D} {ds : List D} {vs : List V} {S : Sto} {Q : VK} (s : SRep X.K α H S) (r : RepL X.K α H ds vs) (hn : ds.length = n)
    (p : PostR X.K α H ((f (.ref S.length :: ds) (S ++ [.ins c []])).bind fun d S2 => if isNon d = true then .ok (.ref S.length) S2 else .stuck) (fun d _ α' H' => ∀ v, Rep X.K α' H' d v → Q v H') (XW X.K W σ))
    {x dx : Addr} (hx : H x = none) (hdx : H dx = none) (hne : dx ≠ x) : spC X.K (n + 1) f (.ref x :: vs) (upd (upd H dx (.own x)) x (.ins (He.ga X.K c) dx [])) (fun v H2 => v = .non ∧ Q (.ref x) H2) (WE W σ) := by
  have hx2 : upd H dx (.own x) x = none := by rw [upd_ne (Ne.symm hne)]; exact hx
  have s1 : SRep X.K α (upd H dx (.own x)) S := s.new hdx
  have nx : x ∉ α := s.fresh hx
  have l1 : Le X.K α H (α ++ [x]) (upd (upd H dx (.own x)) x (.ins (He.ga X.K c) dx [])) := (Le.new hdx).trans (Le.push hx2 nx)
  have s2 : SRep X.K (α ++ [x]) (upd (upd H dx (.own x)) x (.ins (He.ga X.K c) dx [])) (S ++ [.ins c []]) := s1.push hx2 nx ⟨dx, [], upd_same, rfl⟩
  have ha : (α ++ [x])[S.length]? = some x := by rw [← s.len, List.getElem?_append_right (Nat.le_refl _), Nat.sub_self]; rfl
  refine ⟨by rw [List.length_cons, ← r.length, hn], α ++ [x], .ref S.length :: ds, S ++ [.ins c []], .cons (ref_rep ha) (r.mono l1), s2, ?_⟩
  refine (PostR.le p l1).bind.imp (fun d S' α' H' l s' q v rv => ?_) fun _ _ _ _ _ _ z => z
  cases d with
  | non => exact ⟨rep_non rv, PostR.now q s' _ (ref_rep (l.at_ ha))⟩
  | _ => exact q.elim
theorem se_make {f : Str} {c : CE} {cs : CEs} {e : Expr} {es : List Expr} {p : Pos} (hh : hi = none) (g : glB sc f = true) (hf : (f, cs.len + 1) ∈ T.inits) (h : SA T pg k N sc hi (.cons c cs) (e :: es)) (hs : (e :: es).all noStar = true) :
    SE T pg k N sc hi (.make f (.cons c cs)) (.Call (.Name f p) (e :: es) [] pos) := fun X W A => by
  obtain ⟨g1, g2, g3⟩ := A.gl g
  obtain ⟨hm, a, M, hF⟩ := A.lnk.make_ f _ hf
  rw [List.all_cons, Bool.and_eq_true] at hs
  refine ⟨fun pins s σ H Q I ⟨α, ρ, S, st, p⟩ => ?_⟩
  rw [evE_make] at p
  refine wpAny_Call_Name_kw (ld_glob I g1 hm ?_ g2)
  cases k with
  | zero =>
    refine PySem.W.callWith_K (h₀ := X.base) I.ok.mod.kin M.kp (thn ((h X W A).run pos pins s σ H _ I (tA.askN (Q := fun vs H1 => False) st p fun ds S1 α1 H1 vs l1 st1 r1 hl p1 => p1)) fun us s1 ⟨vs, H1, I1, r, q⟩ => q.elim) (star_of hs.1) (plain_of hs.2)
  | succ j =>
    obtain ⟨fd, ps, kp, bd, F⟩ := hF j rfl
    refine PySem.W.callWith_K (h₀ := X.base) I.ok.mod.kin M.kp (thn ((h X W A).run pos pins s σ H _ I (tA.askN (Q := fun vs H1 => ∀ x dx, H1 x = none → H1 dx = none → dx ≠ x → spC X.K (cs.len + 1 + 1) ((lev pg (j + 1)).init f) (.ref x :: vs) (upd (upd H1 dx (.own x)) x (.ins (He.ga X.K f) dx [])) (fun v H2 => v = .non ∧ Q (.ref x) H2) (WE W σ)) st p fun ds S1 α1 H1 vs l1 st1 r1 hl p1 => ?_)) fun us s1 ⟨vs, H1, I1, r, q⟩ => ⟨I1.kIn, ?_⟩) (star_of hs.1) (plain_of hs.2)
    · intro x dx hx hdx hne
      exact make_post st1.2.1 r1 hl p1 hx hdx hne
    · exact run_makeS M F (A.calm hh).2 bd (A.pa σ) I1 r q
theorem se_make0 {f : Str} {p : Pos} (hh : hi = none) (g : glB sc f = true) (hf : (f, 0) ∈ T.inits) : SE T pg k N sc hi (.make f .nil) (.Call (.Name f p) [] [] pos) := fun X W A => by
  obtain ⟨g1, g2, g3⟩ := A.gl g
  obtain ⟨hm, a, M, hF⟩ := A.lnk.make_ f _ hf
  refine ⟨fun pins s σ H Q I ⟨α, ρ, S, st, p⟩ => ?_⟩
  rw [evE_make, evEs_nil] at p
  refine wpAny_Call_Name_kw (ld_glob I g1 hm ?_ g2)
  cases k with
  | zero => exact p.elim
  | succ j =>
    obtain ⟨fd, ps, kp, bd, F⟩ := hF j rfl
    exact PySem.W.callWith_K0 I.kIn M.kp (run_makeS (us := []) M F (A.calm hh).2 bd (A.pa σ) I .nil fun x dx hx hdx hne => make_post st.2.1 .nil rfl p hx hdx hne)

/-! ### methods -/
theorem met_at {ok : Str → Str → Option Nat} {d : D} {m : Str} {n : Nat} {S : Sto} {c : Str} (h : metD ok d m n S = some c) : ∃ i fs, d = .ref i ∧ S[i]? = some (.ins c fs) ∧ ok c m = some n ∧ fs.lookup m = none := by
  unfold metD at h
  split at h
  · rename_i i
    split at h
    · rename_i c' fs e
      split at h
      · rename_i q
        cases h
        exact ⟨i, fs, rfl, e, q.1, q.2⟩
      · cases h
    · cases h
  · cases h
theorem se_meth {m : Str} {a c : CE} {cs : CEs} {o e : Expr} {es : List Expr} {apos : Pos} (hh : hi = none) (hb : attrOk o = true) (hl : (apos.endLine == pos.line) = true) (hn : fewB (e :: es).length = true) (h1 : SE T pg k N sc hi a o) (h : SA T pg k N sc hi (.cons c cs) (e :: es)) (hs : (e :: es).all noStar = true) :
    SE T pg k N sc hi (.meth m a (.cons c cs)) (.Call (.Attribute o m apos) (e :: es) [] pos) := fun X W A => by
  have hsA := hs
  rw [List.all_cons, Bool.and_eq_true] at hs
  refine ⟨fun pins s σ H Q I ⟨α, ρ, S, st, p⟩ => ?_⟩
  rw [evE_meth] at p
  have ht := meth_tree (pos := pos) (m := m) (apos := apos) (es := e :: es) (env := X.env) hb hl hsA hn
  refine PySem.W.methodCall_KW (thn ((h1 X W A).run pins s σ H (fun x H1 => ∃ C f dx fs a fd ps n g, x = .ref a ∧ H1 a = some (.ins C dx fs) ∧ fs.lookup m = none ∧ Cls X.K C ∧ Meth X.K C m f ∧ Binds X.K fd ps [] ∧ FnOk X.prog X.w X.K X.mg X.base (L2.CX X.prog X.w) k f fd ps (spC X.K n g) ∧
      tA X.K W hi (evEs (lev pg k) (cuOf hi) (.cons c cs)) σ H1 fun vs H2 => spC X.K n g (.ref a :: vs) H2 Q (WE W σ)) I (tE.ask st p fun d S1 α1 H1 v l1 st1 r1 p1 => ?_)) fun u s1 ⟨x, H1, I1, rx, C, f, dx, fs, a, fd, ps, n, g, ex, ea, l, cl, hm, bd, F, q⟩ => ?_) ht
  · cases hc : metD (lev pg k).mok d m (CEs.cons c cs).len S1 with
    | none => rw [hc] at p1; exact p1.elim
    | some cn =>
      rw [hc] at p1
      obtain ⟨i, fs, rfl, hS, ok, hl⟩ := met_at hc
      rw [lev_mok] at ok
      obtain ⟨cl, f, hm, fd, ps, kp, bd, F⟩ := A.lnk.mok _ _ _ ok
      obtain ⟨a, ha, rfl⟩ := rep_ref r1
      obtain ⟨dx, vfs, hH, rf⟩ := ins_at st1.2.1 ha hS
      refine ⟨_, f, dx, vfs, a, fd, ps, _, _, rfl, hH, rf.none hl, cl, hm, bd, F, ?_⟩
      exact tA.askN st1 p1 fun ds S2 α2 H2 vs l2 st2 r2 hn p2 => call_post (ds := .ref i :: ds) st2.2.1 (.cons (r1.mono l2) r2) (by rw [List.length_cons, hn]) p2
  · subst ex
    obtain rfl : u = Value.ref a := rx
    refine getmeth_ok I1 ea cl hm l ?_
    refine PySem.W.callWith_K (first := [.ref a]) (h₀ := X.base) I.ok.mod.kin hm.kp (thn ((h X W A).run pos pins s1 σ H1 _ I1 q) fun us s2 ⟨vs, H2, I2, r, q2⟩ => ⟨I2.kIn, ?_⟩) (star_of hs.1) (plain_of hs.2)
    exact run_fnS (us := .ref a :: us) (vs := .ref a :: vs) (E := WE W) F (A.calm hh).2 bd (A.pa σ) I2 (.cons rfl r) q2
theorem se_meth0 {m : Str} {a : CE} {o : Expr} {apos : Pos} (hh : hi = none) (hb : attrOk o = true) (hl : (apos.endLine == pos.line) = true) (h1 : SE T pg k N sc hi a o) : SE T pg k N sc hi (.meth m a .nil) (.Call (.Attribute o m apos) [] [] pos) := fun X W A => by
  refine ⟨fun pins s σ H Q I ⟨α, ρ, S, st, p⟩ => ?_⟩
  rw [evE_meth] at p
  have ht := meth_tree (pos := pos) (m := m) (apos := apos) (es := []) (env := X.env) hb hl rfl rfl
  refine PySem.W.methodCall_KW (thn ((h1 X W A).run pins s σ H (fun x H1 => ∃ C f dx fs a fd ps n g, x = .ref a ∧ H1 a = some (.ins C dx fs) ∧ fs.lookup m = none ∧ Cls X.K C ∧ Meth X.K C m f ∧ Binds X.K fd ps [] ∧ FnOk X.prog X.w X.K X.mg X.base (L2.CX X.prog X.w) k f fd ps (spC X.K n g) ∧
      spC X.K n g [.ref a] H1 Q (WE W σ)) I (tE.ask st p fun d S1 α1 H1 v l1 st1 r1 p1 => ?_)) fun u s1 ⟨x, H1, I1, rx, C, f, dx, fs, a, fd, ps, n, g, ex, ea, l, cl, hm, bd, F, q⟩ => ?_) ht
  · cases hc : metD (lev pg k).mok d m CEs.nil.len S1 with
    | none => rw [hc] at p1; exact p1.elim
    | some cn =>
      rw [hc] at p1
      obtain ⟨i, fs, rfl, hS, ok, hl⟩ := met_at hc
      rw [lev_mok] at ok
      obtain ⟨cl, f, hm, fd, ps, kp, bd, F⟩ := A.lnk.mok _ _ _ ok
      obtain ⟨a, ha, rfl⟩ := rep_ref r1
      obtain ⟨dx, vfs, hH, rf⟩ := ins_at st1.2.1 ha hS
      refine ⟨_, f, dx, vfs, a, fd, ps, _, _, rfl, hH, rf.none hl, cl, hm, bd, F, ?_⟩
      have p1 := (show PostR X.K α1 H1 ((evEs (lev pg k) (cuOf hi) CEs.nil ρ S1).bind fun ds S3 => (lev pg k).call (mkey cn m) (D.ref i :: ds) S3) _ _ from p1)
      rw [evEs_nil] at p1
      exact call_post (ds := [.ref i]) st1.2.1 (.cons r1 .nil) rfl p1
  · subst ex
    obtain rfl : u = Value.ref a := rx
    refine getmeth_ok I1 ea cl hm l ?_
    exact PySem.W.callWith_K0 (first := [.ref a]) I1.kIn hm.kp (run_fnS (us := [.ref a]) (vs := [.ref a]) (E := WE W) F (A.calm hh).2 bd (A.pa σ) I1 (.cons rfl .nil) q)

/-! ### static methods -/
theorem getsm_ok {X : Cx} {C f : Addr} {m : Str} {σ : St} {pins : List (Addr × Obj)} {H : Hp} {s : Shared} {A : Around} {E : Value → Shared → Prop} {pl : Sem Bool} {Q : Value × List Value → Shared → Prop} (I : Inv X pins σ H s) (M : SMet X.K C m f) (h : ∀ s', Inv X pins σ H s' → Q (.ref f, []) s') :
    wpAny (model X.prog X.w) A (getMethod (.ref C) m pl) Q E s := by
  obtain ⟨mc, p, rest, cr, e, hp⟩ := M.at_
  refine PySem.W.method_cls I.kIn cr.ga (PySem.W.cls_bind I.kIn cr.rd e ?_)
  exact wpAny_call (PySem.W.sm_get (s := { s with toks := s.toks + 1 }) I.kIn hp (PySem.W.handed_on rfl (h _ (I.tok _))))
theorem se_smeth {c m : Str} {a : CE} {cs : CEs} {e : Expr} {es : List Expr} {apos p' : Pos} (hh : hi = none) (hl : (apos.endLine == pos.line) = true) (hn : fewB (e :: es).length = true) (g : glB sc c = true) (hf : ((c, m), cs.len + 1) ∈ T.smeths) (h : SA T pg k N sc hi (.cons a cs) (e :: es)) (hs : (e :: es).all noStar = true) :
    SE T pg k N sc hi (.smeth c m (.cons a cs)) (.Call (.Attribute (.Name c p') m apos) (e :: es) [] pos) := fun X W A => by
  obtain ⟨g1, g2, g3⟩ := A.gl g
  obtain ⟨hm, f, M, fd, ps, kp, bd, F⟩ := A.lnk.smeth c m _ hf
  have hsA := hs
  rw [List.all_cons, Bool.and_eq_true] at hs
  refine ⟨fun pins s σ H Q I ⟨α, ρ, S, st, p⟩ => ?_⟩
  rw [evE_smeth] at p
  have ht := meth_tree (pos := pos) (o := .Name c p') (m := m) (apos := apos) (es := e :: es) (env := X.env) rfl hl hsA hn
  refine PySem.W.methodCall_KW (thn ((pe_glob (v := .ref (He.ga X.K c)) g1 hm rfl g2).run pins s σ H (fun x H1 => x = .ref (He.ga X.K c) ∧ H1 = H) I ⟨rfl, rfl⟩) fun u s1 ⟨x, H1, I1, rx, ex, eh⟩ => ?_) ht
  subst ex eh
  obtain rfl : u = Value.ref (He.ga X.K c) := rx
  refine getsm_ok I1 M fun s2 I2 => ?_
  refine PySem.W.callWith_K (first := []) (h₀ := X.base) I.ok.mod.kin M.kp (thn ((h X W A).run pos pins s2 σ H1 _ I2 (tA.askN (Q := fun vs H2 => spC X.K (cs.len + 1) ((lev pg k).call (mkey c m)) vs H2 Q (WE W σ)) st p fun ds S1 α1 H1 vs l1 st1 r1 hl p1 => call_post st1.2.1 r1 hl p1)) fun us s3 ⟨vs, H2, I3, r, q2⟩ => ⟨I3.kIn, ?_⟩) (star_of hs.1) (plain_of hs.2)
  exact run_fnS (E := WE W) F (A.calm hh).2 bd (A.pa σ) I3 r q2
end
end Mp
end
section
set_option Elab.async false
set_option linter.all false
set_option maxRecDepth 100000
set_option maxHeartbeats 1000000
/-! MpBlt: built-in functions and methods, isinstance, what a handler asks of its exception. -/
namespace Mp
open PySem L2
section
variable {T : Tab} {pg : Prg} {k : Nat} {N : List Str} {sc : Scope} {hi : Option Hot} {pos : Pos}
def bltS : Blt → Str
  | .len => "len" | .tuple => "tuple" | .list => "list" | .all => "all" | .max => "max" | .min => "min" | .int => "int" | .str => "str"
def bltV : Blt → Value
  | .len => .builtin "len" | .tuple => .type "tuple" | .list => .type "list" | .all => .builtin "all" | .max => .builtin "max" | .min => .builtin "min" | .int => .type "int" | .str => .type "str"
theorem blt_boot : ∀ b : Blt, bootBuiltins (bltS b) = some (bltV b)
  | .len => PyProof.Rows.Boot.«len» | .tuple => PyProof.Rows.Boot.«tuple» | .list => PyProof.Rows.Boot.«list» | .all => PyProof.Rows.Boot.«all» | .max => PyProof.Rows.Boot.«max» | .min => PyProof.Rows.Boot.«min» | .int => PyProof.Rows.Boot.«int» | .str => PyProof.Rows.Boot.«str»
def bltHot : Blt → Bool
  | .all => false | .max => false | .min => false
  | _ => true
theorem cr_blt {X : Cx} (b : Blt) (h : bltHot b = true ∨ X.calm = true) : CallR X (bltV b) (rBlt X.K b) := by
  cases b with
  | len => exact cr_len
  | tuple => exact cr_tuple
  | list => exact cr_list
  | all => exact cr_all' (h.resolve_left Bool.false_ne_true)
  | max => exact cr_max (h.resolve_left Bool.false_ne_true)
  | min => exact cr_min (h.resolve_left Bool.false_ne_true)
  | int => exact cr_int
  | str => exact cr_str
theorem pe_callV {X : Cx} {x : Str} {p : Pos} {e : Expr} {es : List Expr} {t : TA} {b : Blt} {r : List V → Hp → VK → Prop} (hc : CallR X (bltV b) r) (hg : Gl X x) (hm : X.mg x = none) (hv : bootBuiltins x = some (bltV b)) (ha : PA X (e :: es) t) (hn : x ≠ "__name__") (hdb : (x == ("__debug__" : Str)) = false)
    (he : starEach (e :: es) X.env = (false, eval e X.env) :: starEach es X.env) (hpl : (backTo pos (starEach es X.env)).any (·.1) = false) : PE X (.Call (.Name x p) (e :: es) [] pos) (tCB r t) := by
  cases b <;> first | exact pe_callB hc hg hm hv ha hn hdb he hpl | exact pe_callTy hc hg hm hv ha hn hdb he hpl
theorem se_blt {b : Blt} {c : CE} {cs : CEs} {e : Expr} {es : List Expr} {p : Pos} (hh : bltHot b = true ∨ hi = none) (g : glB sc (bltS b) = true) (hf : bltS b ∈ T.blts) (h : SA T pg k N sc hi (.cons c cs) (e :: es)) (hs : (e :: es).all noStar = true) :
    SE T pg k N sc hi (.blt b (.cons c cs)) (.Call (.Name (bltS b) p) (e :: es) [] pos) := fun X W A => by
  obtain ⟨g1, g2, g3⟩ := A.gl g
  rw [List.all_cons, Bool.and_eq_true] at hs
  refine PE.weak (pe_callV (cr_blt b (hh.imp id fun e => (A.calm e).1)) g1 (A.lnk.blt _ hf) (blt_boot b) (h X W A) g3 g2 (star_of hs.1) (plain_of hs.2)) fun σ H Q ⟨α, ρ, S, st, p⟩ => ?_
  rw [evE_blt] at p
  exact tA.askN st p fun ds S1 α1 H1 vs l1 st1 r1 hl p1 => ⟨α1, S1, ds, st1.2.1, r1, p1.gv nox_blt⟩

/-! ### methods of lists and texts -/
def bmS : Bm → Str
  | .append => "append" | .pop => "pop" | .popAt => "pop" | .reverse => "reverse" | .index => "index" | .join => "join"
theorem bmok_ref {m : Bm} {d : D} {S : Sto} (hm : ∀ y, m = y → y ≠ .join) (h : bmOk m d S = true) : ∃ n ds, d = .ref n ∧ S[n]? = some (.lst ds) := by
  cases d with
  | ref n =>
    cases hS : S[n]? with
    | none => cases m <;> first | exact absurd rfl (hm _ rfl) | (simp [bmOk, hS] at h; done)
    | some o =>
      cases o with
      | lst ds => exact ⟨n, ds, rfl, hS⟩
      | ins c fs => cases m <;> first | exact absurd rfl (hm _ rfl) | (simp [bmOk, hS] at h; done)
  | _ => cases m <;> first | exact absurd rfl (hm _ rfl) | (simp [bmOk] at h; done)
theorem tyv_of {X : Cx} {W : WX} {α : List Addr} {H : Hp} {ρ : Env} {σ : St} {S : Sto} {d : D} {v : V} {m : Bm} (hm : ∀ y, m = y → y ≠ .join) (st : St0 X.K hi α H ρ σ S) (r : Rep X.K α H d v) (h : bmOk m d S = true) : tyV X.K "list" v H := by
  obtain ⟨n, ds, rfl, hS⟩ := bmok_ref hm h
  obtain ⟨a, ha, rfl⟩ := rep_ref r
  obtain ⟨vs, hH, rl⟩ := lst_at st.2.1 ha hS
  exact .inl ⟨rfl, vs, .inl (.inl hH)⟩
theorem bm_step {X : Cx} {α : List Addr} {H : Hp} {b : Bool} {β : Type} {r : Res β} {R : Wd β} {E : Wd Ex} (p : PostR X.K α H (if b = true then r else .stuck) R E) : b = true ∧ PostR X.K α H r R E := by
  cases b with
  | true => exact ⟨rfl, p⟩
  | false => exact p.elim
theorem few_all {cpos : Pos} {es : List Expr} {env : PySem.Env} (hs : es.all noStar = true) (hn : fewB es.length = true) : ((backTo cpos (starEach es env)).all (fun x => !x.1) && (backToKw cpos (keywordEach [] env)).all (fun x => x.1.isSome)
      && decide (es.length + ([] : List Keyword).length + (if ([] : List Keyword).isEmpty then 0 else 1) < 30)) = true := by
  rw [plain_all hs]
  show (true && true && decide (es.length + 0 + 0 < 30)) = true
  exact hn
/-- a list's method with no argument -/
theorem se_bm0 {m : Bm} {id : String} {a : CE} {o : Expr} {apos : Pos} (hm : ∀ y, m = y → y ≠ .join) (slot : Slot "list" (bmS m) id) (hty : typeOf (.builtin id) = pure (.type "method_descriptor")) (hr : ∀ X : Cx, X.A.units + 65 < cLine → MtR X id (rBm X.K m)) (hb : attrOk o = true) (hl : (apos.endLine == pos.line) = true) (h1 : SE T pg k N sc hi a o) :
    SE T pg k N sc hi (.bm m a .nil) (.Call (.Attribute o (bmS m) apos) [] [] pos) := fun X W A =>
  PE.weak (pe_bm0 PySem.F.plainAttrs_list slot hty (hr X A.un) (h1 X W A) (attr_base hb) hl) fun σ H Q ⟨α, ρ, S, st, p⟩ => by
    rw [evE_bm] at p
    refine tE.ask st p fun d S1 α1 H1 v l1 st1 r1 p1 => ?_
    obtain ⟨ok, p2⟩ := bm_step p1
    rw [evEs_nil] at p2
    exact ⟨tyv_of (W := W) hm st1 r1 ok, α1, S1, d, [], st1.2.1, r1, .nil, PostR.gv p2 nox_bm⟩
theorem se_bm {m : Bm} {id : String} {a c : CE} {cs : CEs} {o e : Expr} {es : List Expr} {apos : Pos} (hm : ∀ y, m = y → y ≠ .join) (slot : Slot "list" (bmS m) id) (hty : typeOf (.builtin id) = pure (.type "method_descriptor")) (hr : ∀ X : Cx, X.A.units + 65 < cLine → MtR X id (rBm X.K m)) (hb : attrOk o = true) (hl : (apos.endLine == pos.line) = true) (hn : fewB (e :: es).length = true) (h1 : SE T pg k N sc hi a o)
    (h : SA T pg k N sc hi (.cons c cs) (e :: es)) (hs : (e :: es).all noStar = true) : SE T pg k N sc hi (.bm m a (.cons c cs)) (.Call (.Attribute o (bmS m) apos) (e :: es) [] pos) := fun X W A => by
  have hsA := hs
  rw [List.all_cons, Bool.and_eq_true] at hs
  refine PE.weak (pe_bm PySem.F.plainAttrs_list slot hty (hr X A.un) (h1 X W A) (h X W A) (attr_base hb) (few_all hsA hn) hl (star_of hs.1) (plain_of hs.2)) fun σ H Q ⟨α, ρ, S, st, p⟩ => ?_
  rw [evE_bm] at p
  refine tE.ask st p fun d S1 α1 H1 v l1 st1 r1 p1 => ?_
  obtain ⟨ok, p2⟩ := bm_step p1
  refine ⟨tyv_of (W := W) hm st1 r1 ok, tA.ask st1 p2 fun ds S2 α2 H2 vs l2 st2 r2 p3 => ?_⟩
  exact ⟨α2, S2, d, ds, st2.2.1, r1.mono l2, r2, p3.gv nox_bm⟩
theorem se_append {a c : CE} {o e : Expr} {apos : Pos} (hb : attrOk o = true) (hl : (apos.endLine == pos.line) = true) (h1 : SE T pg k N sc hi a o) (h : SA T pg k N sc hi (.cons c .nil) [e]) (hs : noStar e = true) : SE T pg k N sc hi (.bm .append a (.cons c .nil)) (.Call (.Attribute o "append" apos) [e] [] pos) :=
  se_bm (m := .append) (fun y e => by rw [← e]; exact nofun) PySem.F.slot_list_append PySem.F.type_list_append (fun X _ => mr_append) hb hl rfl h1 h (by rw [List.all_cons, hs]; rfl)
theorem se_popAt {a c : CE} {o e : Expr} {apos : Pos} (hb : attrOk o = true) (hl : (apos.endLine == pos.line) = true) (h1 : SE T pg k N sc hi a o) (h : SA T pg k N sc hi (.cons c .nil) [e]) (hs : noStar e = true) : SE T pg k N sc hi (.bm .popAt a (.cons c .nil)) (.Call (.Attribute o "pop" apos) [e] [] pos) :=
  se_bm (m := .popAt) (fun y e => by rw [← e]; exact nofun) PySem.F.slot_list_pop PySem.F.type_list_pop (fun X _ => mr_popAt) hb hl rfl h1 h (by rw [List.all_cons, hs]; rfl)
theorem se_index {a c : CE} {o e : Expr} {apos : Pos} (hb : attrOk o = true) (hl : (apos.endLine == pos.line) = true) (h1 : SE T pg k N sc hi a o) (h : SA T pg k N sc hi (.cons c .nil) [e]) (hs : noStar e = true) : SE T pg k N sc hi (.bm .index a (.cons c .nil)) (.Call (.Attribute o "index" apos) [e] [] pos) :=
  se_bm (m := .index) (fun y e => by rw [← e]; exact nofun) PySem.F.slot_list_index PySem.F.type_list_index (fun X u => mr_index u) hb hl rfl h1 h (by rw [List.all_cons, hs]; rfl)
theorem se_pop {a : CE} {o : Expr} {apos : Pos} (hb : attrOk o = true) (hl : (apos.endLine == pos.line) = true) (h1 : SE T pg k N sc hi a o) : SE T pg k N sc hi (.bm .pop a .nil) (.Call (.Attribute o "pop" apos) [] [] pos) :=
  se_bm0 (m := .pop) (fun y e => by rw [← e]; exact nofun) PySem.F.slot_list_pop PySem.F.type_list_pop (fun X _ => mr_pop) hb hl h1
theorem se_reverse {a : CE} {o : Expr} {apos : Pos} (hb : attrOk o = true) (hl : (apos.endLine == pos.line) = true) (h1 : SE T pg k N sc hi a o) : SE T pg k N sc hi (.bm .reverse a .nil) (.Call (.Attribute o "reverse" apos) [] [] pos) :=
  se_bm0 (m := .reverse) (fun y e => by rw [← e]; exact nofun) PySem.F.slot_list_reverse PySem.F.type_list_reverse (fun X _ => mr_reverse) hb hl h1
theorem se_join {a c : CE} {o e : Expr} {apos : Pos} (hb : attrOk o = true) (hl : (apos.endLine == pos.line) = true) (h1 : SE T pg k N sc hi a o) (h : SE T pg k N sc hi c e) (hs : noStar e = true) : SE T pg k N sc hi (.bm .join a (.cons c .nil)) (.Call (.Attribute o "join" apos) [e] [] pos) := fun X W A =>
  PE.weak (pe_m1 PySem.F.slot_str_join PySem.F.type_str_join mr_join (h1 X W A) (h X W A) (star_of hs) (attr_base hb) hl) fun σ H Q ⟨α, ρ, S, st, p⟩ => by
    rw [evE_bm] at p
    refine tE.ask st p fun d S1 α1 H1 v l1 st1 r1 p1 => ?_
    obtain ⟨ok, p2⟩ := bm_step p1
    rw [evEs_cons, Res.bind_assoc] at p2
    refine ⟨?_, tE.ask st1 p2 fun x S2 α2 H2 u l2 st2 r2 p3 => ?_⟩
    · cases d with
      | str z => exact ⟨z, rep_str r1⟩
      | _ => exact absurd (show false = true from ok) Bool.false_ne_true
    · rw [evEs_nil] at p3
      exact ⟨α2, S2, d, [x], st2.2.1, r1.mono l2, .cons r2 .nil, PostR.gv p3 nox_bm⟩

/-! ### isinstance -/
def tyNm (d : D) (S : Sto) : Option String := match d with
  | .non => some "NoneType" | .bl _ => some "bool" | .int _ => some "int" | .str _ => some "str" | .tup _ => some "tuple" | .rol _ => some "list"
  | .ref n => match S[n]? with
    | some (.lst _) => some "list"
    | _ => none
def biAns (a n : String) : Bool := a == n || (a == "bool" && n == "int")
theorem kit_tab : ∀ a ∈ ["NoneType", "bool", "int", "str", "tuple", "list"], ∀ n ∈ biNames, kitB a n = some (biAns a n) := by decide +kernel
theorem ty_of {K : PySem.W.Frag} {α : List Addr} {H : Hp} {S : Sto} {d : D} {v : V} {a : String} (sr : SRep K α H S) (r : Rep K α H d v) (h : tyNm d S = some a) : TyX K H v (.type a) ∧ a ∈ ["NoneType", "bool", "int", "str", "tuple", "list"] := by
  cases d with
  | non => cases h; cases rep_non r; exact ⟨.base .non, by decide⟩
  | bl b => cases h; cases rep_bl r; exact ⟨.base (.bl _), by decide⟩
  | int b => cases h; cases rep_int r; exact ⟨.base (.int _), by decide⟩
  | str b => cases h; cases rep_str r; exact ⟨.base (.str _), by decide⟩
  | tup ds =>
    cases h
    obtain ⟨p, vs, rfl, s, _⟩ := rep_tup r
    refine ⟨?_, by decide⟩
    rcases s with (s | ⟨o, s⟩) | ⟨o, its, n, h1, h2, _⟩
    · exact .base (.tup s)
    · exact .fTuple s
    · exact .kTuple h1 h2
  | rol ds =>
    cases h
    obtain ⟨p, vs, rfl, s, _⟩ := rep_rol r
    refine ⟨?_, by decide⟩
    rcases s with ⟨o, s⟩ | s
    · exact .base (.frz s)
    · rcases s with (s | ⟨o, s⟩) | ⟨o, its, n, h1, h2, _⟩
      · cases s
      · cases s
      · exact .kList h1 h2
  | ref n =>
    unfold tyNm at h
    dsimp only at h
    split at h
    · rename_i ds e
      cases h
      obtain ⟨a, ha, rfl⟩ := rep_ref r
      obtain ⟨vs, hH, _⟩ := lst_at sr ha e
      exact ⟨.base (.lst hH), by decide⟩
    · cases h
theorem isd_ty {sub : Str → Str → Option Bool} {d : D} {S : Sto} {n : String} {b : Bool} (h : isD sub d S (.bi n) = some b) : n ∈ biNames ∧ ∃ a, tyNm d S = some a ∧ b = biAns a n := by
  unfold isD at h
  dsimp only at h
  split at h
  · rename_i hn
    have hn' : n ∈ biNames := by simpa using hn
    refine ⟨hn', ?_⟩
    have key : ∀ m ∈ biNames, (("bool" : String) == m || m == "int") = biAns "bool" m ∧ (m == "int") = biAns "int" m ∧ (m == "str") = biAns "str" m ∧ (m == "tuple") = biAns "tuple" m ∧ (m == "list") = biAns "list" m ∧ false = biAns "NoneType" m ∧ (m == "bool" || m == "int") = biAns "bool" m := by decide
    obtain ⟨_, k2, k3, k4, k5, k6, k7⟩ := key n hn'
    cases d with
    | non => cases h; exact ⟨_, rfl, k6⟩
    | bl b => cases h; exact ⟨_, rfl, k7⟩
    | int b => cases h; exact ⟨_, rfl, k2⟩
    | str b => cases h; exact ⟨_, rfl, k3⟩
    | tup ds => cases h; exact ⟨_, rfl, k4⟩
    | rol ds => cases h; exact ⟨_, rfl, k5⟩
    | ref i =>
      dsimp only at h
      split at h
      · rename_i ds e
        cases h
        exact ⟨"list", by unfold tyNm; dsimp only; rw [e], k5⟩
      · cases h
  · cases h
theorem bi_boot {n : String} (h : n ∈ biNames) : bootBuiltins (Str.ofString n) = some (.type n) := by
  simp only [biNames, List.mem_cons, List.not_mem_nil, or_false] at h
  rcases h with rfl | rfl | rfl | rfl | rfl | rfl
  · exact PyProof.Rows.Boot.«int»
  · exact PyProof.Rows.Boot.«str»
  · exact PyProof.Rows.Boot.«bool»
  · exact PyProof.Rows.Boot.«tuple»
  · exact PyProof.Rows.Boot.«list»
  · exact PyProof.Rows.Boot.«dict»
theorem se_isI {a : CE} {e : Expr} {n : String} {p p2 : Pos} (g : glB sc "isinstance" = true) (hf : ("isinstance" : Str) ∈ T.blts) (g' : glB sc (Str.ofString n) = true) (hf' : Str.ofString n ∈ T.blts) (hn : biNames.contains n = true) (h : SE T pg k N sc hi a e) (hs : noStar e = true) :
    SE T pg k N sc hi (.isI a (.bi n)) (.Call (.Name "isinstance" p) [e, .Name (Str.ofString n) p2] [] pos) := fun X W A => by
  obtain ⟨g1, g2, g3⟩ := A.gl g
  obtain ⟨q1, q2, q3⟩ := A.gl g'
  have hn' : n ∈ biNames := by simpa using hn
  have pn : PE X (.Name (Str.ofString n) p2) (tC (.ty n)) := pe_bltn (u := .type n) q1 (A.lnk.blt _ hf') (bi_boot hn') rfl q3 q2
  refine PE.weak (pe_callB (id := "isinstance") call_isi g1 (A.lnk.blt _ hf) PyProof.Rows.Boot.«isinstance» (pa_cons (h X W A) (pa_cons pn pa_nil (star_of rfl)) (star_of hs)) g3 g2 (star_of hs) (plain_of rfl)) fun σ H Q ⟨α, ρ, S, st, p⟩ => ?_
  rw [evE_isI] at p
  refine tE.ask st p fun d S1 α1 H1 v l1 st1 r1 p1 => ?_
  obtain ⟨z, hz, q⟩ := p1.ofO st1.2.1
  cases hd : isD (lev pg k).sub d S1 (.bi n) with
  | none => rw [hd] at hz; cases hz
  | some b =>
    rw [hd] at hz
    cases hz
    obtain ⟨_, t, ht, rfl⟩ := isd_ty hd
    obtain ⟨ty, hm⟩ := ty_of st1.2.1 r1 ht
    exact ⟨v, .ty n, .type t, .type n, _, rfl, .ty n, ty, kit_ty (kit_tab t hm n hn'), q _ bl_rep⟩

/-! ### what a handler asks of its exception -/
theorem exn_at {X0 : Cx} {a : Addr} {oe : Obj} {pn pins : List (Addr × Obj)} {cls : Value} {d : Option Addr} {H : Hp} {σ : St} {s : Shared} {α : List Addr} {x : Ex} (hz : Zc cls d oe) (hf : ∃ vs, oe.data = .fields vs) (I : Inv (Cx.suite X0 a ((a, oe) :: pn)) pins σ H s) (xr : XRep X0.K α H x cls d) : ∃ od, PySem.W.InstAt s.heap a oe (He.ga X0.K x.cls) od := by
  obtain ⟨ha, _⟩ := I.pin (a, oe) (List.mem_append_left _ List.mem_cons_self)
  obtain ⟨vs, hd⟩ := hf
  obtain ⟨ec, q⟩ := xr
  rcases q with ⟨_, e⟩ | ⟨dd, vfs, e, hx, _, _⟩
  · refine ⟨none, ?_⟩
    obtain ⟨oc, ob, oda, osl⟩ := oe
    obtain ⟨h1, h2⟩ := hz
    dsimp only at h1 h2 hd
    subst h1 h2 hd e ec
    exact ⟨ha, rfl, rfl, trivial⟩
  · have hx' : ObjOk X0.prog X0.w H s.heap dd (.xd vfs) := I.hok dd _ hx
    obtain ⟨mA, hns, hr⟩ := hx'
    obtain ⟨od, ho, hl⟩ := lookIn_ns hns
    exact ⟨some od, ha, by rw [hz.1, ec], by unfold PySem.W.notCls; rw [hd], by rw [hz.2, e]; exact ho⟩
theorem se_exF {i : Nat} {x f : Str} {p : Pos} (hh : ∀ h, hi = some h → h.i = some i) (h1 : N[i]? = some x) (h2 : visB sc x = true) (h3 : nmOk x = true) : SE T pg k N sc hi (.exF f) (.Attribute (.Name x p) f pos) := fun X W A => by
  refine ⟨fun pins s σ H Q I ⟨α, ρ, S, st, p⟩ => ?_⟩
  rw [evE_exF] at p
  obtain ⟨z, hz, q⟩ := p.ofO st.2.1
  cases hi with
  | none => cases hz
  | some h =>
    obtain ⟨ex, e1, e2⟩ := obind hz
    cases e1
    split at e2
    · rename_i ok
      rw [lev_exf] at ok
      obtain ⟨X0, oe, pn, rfl, hzc, hf⟩ := A.hot h rfl
      obtain ⟨xf, hno⟩ := A.lnk.exf _ _ ok
      obtain ⟨xr, hs⟩ := st.2.2
      have hv : PE (Cx.suite X0 h.a ((h.a, oe) :: pn)) (.Name x ‹Pos›) (tVar i) := pe_var (by show X0.N[i]? = _; rw [show X0.N = N from A.n]; exact h1) (by show Vis X0.env.scope x; rw [show X0.env.scope = sc from A.scp]; exact vis_of h2) (nm_of h3).1 (nm_of h3).2.1
      obtain ⟨ec, q2⟩ := xr
      rcases q2 with ⟨e0, _⟩ | ⟨dd, vfs, ed, hx, _, rf⟩
      · rw [show h.x.fs = [] from e0] at e2; cases e2
      · obtain ⟨v, hl, rv⟩ := rf.lookup e2
        exact (pe_xf xf hno hzc hf hv).run pins s σ H Q I ⟨.ref h.a, hs i (hh h rfl), rfl, ec, dd, vfs, v, ed, hx, hl, q v rv⟩
    · cases e2
theorem se_exI {i : Nat} {x c : Str} {p p2 p3 : Pos} (hh : ∀ h, hi = some h → h.i = some i) (h1 : N[i]? = some x) (h2 : visB sc x = true) (h3 : nmOk x = true) (g : glB sc "isinstance" = true) (hf : ("isinstance" : Str) ∈ T.blts) (gc : glB sc c = true) (hc : c ∈ T.excs ∨ ∃ n, (c, n) ∈ T.bexcs) :
    SE T pg k N sc hi (.exI c) (.Call (.Name "isinstance" p) [.Name x p2, .Name c p3] [] pos) := fun X W A => by
  refine ⟨fun pins s σ H Q I ⟨α, ρ, S, st, p⟩ => ?_⟩
  rw [evE_exI] at p
  obtain ⟨z, hz, q⟩ := p.ofO st.2.1
  cases hi with
  | none => cases hz
  | some h =>
    obtain ⟨ex, e1, e2⟩ := obind hz
    cases e1
    obtain ⟨b, e3, rfl⟩ := omap e2
    rw [lev_sub] at e3
    obtain ⟨g1, g2, g3⟩ := A.gl g
    obtain ⟨q1, q2, q3⟩ := A.gl gc
    obtain ⟨xc, ko, kb⟩ := A.lnk.exi _ _ _ e3
    obtain ⟨xr, hs⟩ := st.2.2
    have hcls : ∃ (v : V) (u : Value), PE X (.Name c p3) (tC v) ∧ (∀ w', RelV v w' → w' = u) ∧ PySem.W.kitOne X.K (.ref (He.ga X.K h.x.cls)) u = some b := by
      rcases hc with hc | ⟨n, hc⟩
      · exact ⟨.ref (He.ga X.K c), _, pe_glob q1 (A.lnk.exn c hc) rfl q2, fun w' e => e, ko hc⟩
      · obtain ⟨m1, m2⟩ := A.lnk.bex c n hc
        exact ⟨.ty n, _, pe_bltn q1 m1 m2 rfl q3 q2, fun w' e => e, kb n hc⟩
    obtain ⟨cv, cu, pc, hu, kk⟩ := hcls
    have hv : PE X (.Name x p2) (tVar i) := pe_var (by rw [A.n]; exact h1) (by rw [A.scp]; exact vis_of h2) (nm_of h3).1 (nm_of h3).2.1
    have hcall : CallR X (.builtin "isinstance") (fun xs H' Q' => xs = [.ref h.a, cv] ∧ H' = H ∧ Q' (.bl b) H') := by
      intro pins' s' σ' H' xs us Q' I' rs ⟨ex', eh, q'⟩
      subst ex' eh
      obtain ⟨u1, u2, rfl, r1, r2⟩ := vals2 rs
      cases (show u1 = Value.ref h.a from r1)
      cases hu u2 r2
      obtain ⟨X0, oe, pn, rfl, hzc, hf2⟩ := A.hot h rfl
      obtain ⟨od, J⟩ := exn_at hzc hf2 I' xr
      exact PySem.W.kia_one (PySem.W.kitx_exc (od := od) (by obtain ⟨cd, hcd, _⟩ := PySem.W.any_some xc.hd; rw [hcd]; rfl) xc.hg xc.hk xc.hs xc.ha xc.hn xc.ht xc.hm) I'.kIn J kk (fun z => nomatch z) fun tk => ⟨.bl b, _, I'.kept (t' := tk) fun _ _ z => z, rfl, q'⟩
    exact (pe_callB (id := "isinstance") hcall g1 (A.lnk.blt _ hf) PyProof.Rows.Boot.«isinstance» (pa_cons hv (pa_cons pc pa_nil (star_of rfl)) (star_of rfl)) g3 g2 (star_of rfl) (plain_of rfl)).run pins s σ H Q I ⟨.ref h.a, hs i (hh h rfl), rfl, rfl, q _ bl_rep⟩
end
end Mp
end
section
set_option Elab.async false
set_option linter.all false
set_option maxRecDepth 100000
set_option maxHeartbeats 1000000
/-! MpIt: what a loop goes through. -/
namespace Mp
open PySem L2
/-- J hands out its's items, while its's check holds -/
structure WkD (K : PySem.W.Frag) (α0 : List Addr) (H0 : Hp) (J : It) (its : Mp.Its) : Prop where
  go : ∀ α H S i, Le K α0 H0 α H → SRep K α H S → its.ck S → i < its.ds.length → J.go i H
  stop : ∀ α H S, Le K α0 H0 α H → SRep K α H S → its.ck S → J.stop its.ds.length H
  yld : ∀ α H S i x H' d, Le K α0 H0 α H → SRep K α H S → its.ck S → its.ds[i]? = some d → J.yld i H x H' → Le K α H α H' ∧ SRep K α H' S ∧ Rep K α H' d x
def tI (K : PySem.W.Frag) (W : WX) (hi : Option Hot) (f : Env → Sto → Res Mp.Its) : TI := fun σ H R => ∃ α ρ S, St0 K hi α H ρ σ S ∧ PostR K α H (f ρ S) (fun its _ α' H' => ∀ J, WkD K α' H' J its → its.ds.length ≤ sizeLine → R J H') (XW K W σ)
theorem PI.weak {X : Cx} {tg e : Expr} {t t' : TI} (h : PI X tg e t) (w : ∀ σ H R, t' σ H R → t σ H R) : PI X tg e t' := ⟨fun pins s σ H R I q => h.run pins s σ H R I (w σ H R q)⟩
def SI (T : Tab) (pg : Prg) (k : Nat) (N : List Str) (sc : Scope) (hi : Option Hot) (it : CI) (tg e : Expr) : Prop := ∀ X W, At T pg k N sc hi X W → PI X tg e (tI X.K W hi (evI (lev pg k) (cuOf hi) it))

/-! ### a list, a tuple or a text -/
theorem pi_seq {X : Cx} {tg e : Expr} {te : TE} (he : PE X e te) : PI X tg e (fun σ H R => te σ H fun x H1 =>
    (∃ a, x = .ref a ∧ (∃ xs, SqL X.K H1 a xs ∧ (xs.length ≤ sizeLine → R (Itl X.K a) H1))) ∨ (∃ a, x = .ref a ∧ (∃ xs, SqT X.K H1 a xs ∧ (xs.length ≤ sizeLine → R (Itt X.K a) H1))) ∨ ∃ z, x = .str z ∧ R (L2.Its z) H1) := by
  refine ⟨fun pins s σ H R I h => thn (he.run pins s σ H _ I h) fun v s1 ⟨x, H1, I1, r1, q⟩ => ?_⟩
  rcases q with ⟨a, rfl, xs, hq, q⟩ | ⟨a, rfl, xs, hq, q⟩ | ⟨z, rfl, q⟩
  · cases r1
    obtain ⟨its, rv, p, hz⟩ := I1.list hq
    have q := q hz
    exact wpAny_pyIter_list p.isList (pi_one (tk := s1.toks) I1 _ (turn_list a _) ⟨_, Heap.get?_push_size _ rfl, rfl, rfl⟩ q)
  · cases r1
    obtain ⟨its, rv, p, hz⟩ := I1.tuple hq
    have q := q hz
    exact wpAny_pyIter_tuple (show s1.heap.IsTuple a its.toArray from p) (pi_one (tk := s1.toks) I1 _ (turn_tuple a _) ⟨_, Heap.get?_push_size _ rfl, rfl, rfl⟩ q)
  · obtain ⟨t, rfl⟩ := r1
    by_cases ha : z.cps.all (· < 128) = true
    · exact wpAny_pyIter_ascii ha (pi_one (tk := s1.toks) I1 _ (turn_str _ z t "str_ascii_iterator" (.inl rfl)) ⟨_, Heap.get?_push_size _ rfl, rfl, rfl⟩ q)
    · exact wpAny_pyIter_wide (Bool.eq_false_iff.mpr ha) (pi_one (tk := s1.toks) I1 _ (turn_str _ z t "str_iterator" (.inr rfl)) ⟨_, Heap.get?_push_size _ rfl, rfl, rfl⟩ q)

section
variable {K : PySem.W.Frag} {α0 : List Addr} {H0 : Hp}
theorem rep_ix {α : List Addr} {H : Hp} {ds : List D} {vs : List V} {i : Nat} (r : RepL K α H ds vs) (h : i < ds.length) : ∃ v, vs[i]? = some v := by
  have h' : i < vs.length := by rw [← r.length]; exact h
  exact ⟨vs[i], by simp [h']⟩
theorem wk_fix {J : It} {ds : List D} (hgo : ∀ α H i, Le K α0 H0 α H → i < ds.length → J.go i H) (hst : ∀ α H, Le K α0 H0 α H → J.stop ds.length H) (hy : ∀ α H i x H' d, Le K α0 H0 α H → ds[i]? = some d → J.yld i H x H' → H' = H ∧ Rep K α H d x) : WkD K α0 H0 J ⟨ds, fun _ => True⟩ :=
  ⟨fun α H S i l s c h => hgo α H i l h, fun α H S l s c => hst α H l, fun α H S i x H' d l s c e y => by
    obtain ⟨e1, r⟩ := hy α H i x H' d l e y
    subst e1
    exact ⟨Le.refl, s, r⟩⟩
theorem wk_list {n : Nat} {a : Addr} {ds : List D} (ha : α0[n]? = some a) : WkD K α0 H0 (Itl K a) ⟨ds, fun S => S[n]? = some (.lst ds)⟩ := by
  refine ⟨fun α H S i l s c h => ?_, fun α H S l s c => ?_, fun α H S i x H' d l s c e y => ?_⟩
  · obtain ⟨vs, hH, r⟩ := lst_at s (l.at_ ha) c
    obtain ⟨v, hv⟩ := rep_ix r h
    exact ⟨vs, v, .inl (.inl hH), hv⟩
  · obtain ⟨vs, hH, r⟩ := lst_at s (l.at_ ha) c
    exact ⟨vs, .inl (.inl hH), by rw [← r.length]; exact Nat.le_refl _⟩
  · obtain ⟨vs, hH, r⟩ := lst_at s (l.at_ ha) c
    obtain ⟨e1, y⟩ := y
    subst e1
    obtain ⟨v, hv, rv⟩ := r.get e
    rw [y vs (.inl (.inl hH))] at hv
    cases hv
    exact ⟨Le.refl, s, rv⟩
theorem wk_tup {a : Addr} {ds : List D} {vs : List V} (h : SqT K H0 a vs) (r : RepL K α0 H0 ds vs) : WkD K α0 H0 (Itt K a) ⟨ds, fun _ => True⟩ :=
  wk_fix (fun α H i l hi => let ⟨v, hv⟩ := rep_ix r hi; ⟨vs, v, l.tups _ _ h, hv⟩) (fun α H l => ⟨vs, l.tups _ _ h, by rw [← r.length]; exact Nat.le_refl _⟩) fun α H i x H' d l e y => by
    obtain ⟨v, hv, rv⟩ := (r.mono l).get e
    rw [y.2 vs (l.tups _ _ h)] at hv
    cases hv
    exact ⟨y.1, by rw [y.1] at *; exact rv⟩
theorem wk_rol {a : Addr} {ds : List D} {vs : List V} (h : RoL K H0 a vs) (r : RepL K α0 H0 ds vs) : WkD K α0 H0 (Itl K a) ⟨ds, fun _ => True⟩ :=
  wk_fix (fun α H i l hi => let ⟨v, hv⟩ := rep_ix r hi; ⟨vs, v, (l.rols _ _ h).sq, hv⟩) (fun α H l => ⟨vs, (l.rols _ _ h).sq, by rw [← r.length]; exact Nat.le_refl _⟩) fun α H i x H' d l e y => by
    obtain ⟨v, hv, rv⟩ := (r.mono l).get e
    rw [y.2 vs (l.rols _ _ h).sq] at hv
    cases hv
    exact ⟨y.1, rv⟩
theorem wk_str {z : Str} : WkD K α0 H0 (L2.Its z) ⟨signsOf z, fun _ => True⟩ := by
  have hl : (signsOf z).length = z.cps.size := by unfold signsOf; rw [List.length_map, Array.length_toList]
  refine wk_fix (fun α H i l hi => ?_) (fun α H l => ?_) fun α H i x H' d l e y => ?_
  · show i < z.cps.size
    rw [← hl]; exact hi
  · show z.cps.size ≤ _
    rw [hl]; exact Nat.le_refl _
  · obtain ⟨e1, c, hc, rfl⟩ := y
    refine ⟨e1, ?_⟩
    unfold signsOf at e
    rw [List.getElem?_map, Array.getElem?_toList, hc] at e
    cases e
    exact str_rep
theorem rng_at {lo c : Int} {n i : Nat} {d : D} (h : (rangeL lo c n)[i]? = some d) : d = .int (lo + (i : Nat) * c) := by
  unfold rangeL at h
  rw [List.getElem?_map] at h
  obtain ⟨j, hj, rfl⟩ := omap h
  obtain ⟨h1, h2⟩ := List.getElem?_eq_some_iff.mp hj
  rw [List.getElem_range] at h2
  rw [← h2]
theorem rng_len {lo c : Int} {n : Nat} : (rangeL lo c n).length = n := by unfold rangeL; rw [List.length_map, List.length_range]
theorem rng_line {lo c : Int} {n : Nat} (h : n ≤ 1000000) : (rangeL lo c n).length ≤ sizeLine := by rw [rng_len, sizeLine_eq]; omega
theorem wk_rng {lo c : Int} {n : Nat} : WkD K α0 H0 (Itc lo c n) ⟨rangeL lo c n, fun _ => True⟩ := by
  refine wk_fix (fun α H i l hi => ?_) (fun α H l => ?_) fun α H i x H' d l e y => ?_
  · show i < n
    rw [rng_len] at hi; exact hi
  · show n ≤ _
    rw [rng_len]; exact Nat.le_refl _
  · obtain ⟨e1, rfl⟩ := y
    rw [rng_at e]
    exact ⟨e1, int_rep⟩
theorem wk_rng1 {lo : Int} {n : Nat} : WkD K α0 H0 (Itr lo n) ⟨rangeL lo 1 n, fun _ => True⟩ := by
  refine wk_fix (fun α H i l hi => ?_) (fun α H l => ?_) fun α H i x H' d l e y => ?_
  · show i < n
    rw [rng_len] at hi; exact hi
  · show n ≤ _
    rw [rng_len]; exact Nat.le_refl _
  · obtain ⟨e1, rfl⟩ := y
    rw [rng_at e, Int.mul_one]
    exact ⟨e1, int_rep⟩
theorem wk_zip {a b : Addr} {xs ys : List D} {vs ws : List V} (h : SqT K H0 a vs) (r : RepL K α0 H0 xs vs) (h' : SqT K H0 b ws) (r' : RepL K α0 H0 ys ws) : WkD K α0 H0 (RZ.ItzT K a b) ⟨(xs.zip ys).map fun p => .tup [p.1, p.2], fun _ => True⟩ := by
  have hl : ((xs.zip ys).map fun p => D.tup [p.1, p.2]).length = min xs.length ys.length := by rw [List.length_map, List.length_zip]
  refine ⟨fun α H S i l s c hi => ?_, fun α H S l s c => ?_, fun α H S i x H' d l s c e y => ?_⟩
  · have hi' : i < min xs.length ys.length := by rw [← hl]; exact hi
    obtain ⟨v, hv⟩ := rep_ix r (i := i) (by omega)
    obtain ⟨w, hw⟩ := rep_ix r' (i := i) (by omega)
    exact ⟨vs, ws, v, w, l.tups _ _ h, l.tups _ _ h', hv, hw⟩
  · refine ⟨vs, ws, l.tups _ _ h, l.tups _ _ h', ?_⟩
    show vs.length ≤ ((xs.zip ys).map fun p => D.tup [p.1, p.2]).length ∨ _
    rw [hl, ← r.length, ← r'.length]
    omega
  · obtain ⟨p, x', y', rfl, hp, rfl, e1, e2⟩ := y
    have e : ((xs.zip ys).map fun p => D.tup [p.1, p.2])[i]? = some d := e
    rw [List.getElem?_map] at e
    obtain ⟨pr, hpr, rfl⟩ := omap e
    obtain ⟨q1, q2⟩ := List.getElem?_zip_eq_some.mp hpr
    obtain ⟨v, hv, rv⟩ := (r.mono l).get q1
    obtain ⟨w, hw, rw'⟩ := (r'.mono l).get q2
    rw [e1 vs (l.tups _ _ h)] at hv
    rw [e2 ws (l.tups _ _ h')] at hw
    cases hv
    cases hw
    have l2 : Le K α H α (upd H p (.tup [x', y'])) := Le.new hp
    exact ⟨l2, s.new hp, tup_rep (.inl (.inl upd_same)) (.cons (rv.mono l2) (.cons (rw'.mono l2) .nil))⟩
end

section
variable {T : Tab} {pg : Prg} {k : Nat} {N : List Str} {sc : Scope} {hi : Option Hot} {pos : Pos} {tg : Expr}
theorem si_seq {a : CE} {e : Expr} (h : SE T pg k N sc hi a e) : SI T pg k N sc hi (.seq a) tg e := fun X W A =>
  PI.weak (pi_seq (h X W A)) fun σ H R ⟨α, ρ, S, st, p⟩ => by
    rw [evI_seq] at p
    refine tE.ask st p fun d S1 α1 H1 v l1 st1 r1 p1 => ?_
    obtain ⟨its, hz, q⟩ := p1.ofO st1.2.1
    unfold seqI at hz
    split at hz
    · cases hz
      obtain ⟨a, vs, rfl, s, r⟩ := rep_tup r1
      exact .inr (.inl ⟨a, rfl, vs, s, fun hz => q _ (wk_tup s r) (by rw [r.length]; exact hz)⟩)
    · cases hz
      obtain ⟨a, vs, rfl, s, r⟩ := rep_rol r1
      exact .inl ⟨a, rfl, vs, s.sq, fun hz => q _ (wk_rol s r) (by rw [r.length]; exact hz)⟩
    · split at hz
      · rename_i hz'
        cases hz
        exact .inr (.inr ⟨_, rep_str r1, q _ wk_str (by unfold signsOf; rw [List.length_map, Array.length_toList]; exact hz')⟩)
      · cases hz
    · split at hz
      · rename_i hS
        cases hz
        obtain ⟨a, ha, rfl⟩ := rep_ref r1
        obtain ⟨vs, hH, rl⟩ := lst_at st1.2.1 ha hS
        exact .inl ⟨a, rfl, vs, .inl (.inl hH), fun hz => q _ (wk_list ha) (by rw [rl.length]; exact hz)⟩
      · cases hz
    · cases hz
theorem rng_bnd {i : Int} (h : bnd i) : -(2 ^ 62) ≤ i ∧ i < 2 ^ 62 := h
theorem si_rng1 {a : CE} {e : Expr} {p : Pos} (g : glB sc "range" = true) (hf : ("range" : Str) ∈ T.blts) (h : SA T pg k N sc hi (.cons a .nil) [e]) (hs : noStar e = true) : SI T pg k N sc hi (.range (.cons a .nil)) tg (.Call (.Name "range" p) [e] [] pos) := fun X W A => by
  obtain ⟨g1, g2, g3⟩ := A.gl g
  refine PI.weak (pi_range1 g1 (A.lnk.blt _ hf) (h X W A) (star_of hs)) fun σ H R ⟨α, ρ, S, st, p⟩ => ?_
  rw [evI_range] at p
  refine tA.askN st p fun ds S1 α1 H1 vs l1 st1 r1 hl p1 => ?_
  obtain ⟨its, hz, q⟩ := p1.ofO st1.2.1
  unfold rangeI at hz
  split at hz
  · split at hz
    · rename_i j hb
      cases hz
      obtain ⟨v, rfl, h1⟩ := repL1 r1
      cases rep_int h1
      exact ⟨j, rfl, hb.1.1, hb.1.2, q _ wk_rng1 (rng_line (by have := hb.2; omega))⟩
    · cases hz
  · exact absurd hl (by show ¬ (2 = 1); decide)
  · exact absurd hl (by show ¬ (3 = 1); decide)
  · cases hz
theorem si_rng2 {a b : CE} {e f : Expr} {p : Pos} (g : glB sc "range" = true) (hf : ("range" : Str) ∈ T.blts) (h : SA T pg k N sc hi (.cons a (.cons b .nil)) [e, f]) (hs : noStar e = true) (hs' : noStar f = true) : SI T pg k N sc hi (.range (.cons a (.cons b .nil))) tg (.Call (.Name "range" p) [e, f] [] pos) := fun X W A => by
  obtain ⟨g1, g2, g3⟩ := A.gl g
  refine PI.weak (pi_range2 g1 (A.lnk.blt _ hf) (h X W A) (by rw [star_of hs, star_of hs']; rfl) (star_of hs')) fun σ H R ⟨α, ρ, S, st, p⟩ => ?_
  rw [evI_range] at p
  refine tA.askN st p fun ds S1 α1 H1 vs l1 st1 r1 hl p1 => ?_
  obtain ⟨its, hz, q⟩ := p1.ofO st1.2.1
  unfold rangeI at hz
  split at hz
  · exact absurd hl (by show ¬ (1 = 2); decide)
  · split at hz
    · rename_i i j hb
      cases hz
      obtain ⟨v, w, rfl, h1, h2⟩ := repL2 r1
      cases rep_int h1
      cases rep_int h2
      exact ⟨i, j, rfl, ⟨hb.1.1.1, hb.1.1.2, hb.1.2.1, hb.1.2.2⟩, q _ wk_rng1 (rng_line (by have := hb.2; omega))⟩
    · cases hz
  · exact absurd hl (by show ¬ (3 = 2); decide)
  · cases hz
theorem repL3 {K : PySem.W.Frag} {α : List Addr} {H : Hp} {d e f : D} {xs : List V} (r : RepL K α H [d, e, f] xs) : ∃ v w u, xs = [v, w, u] ∧ Rep K α H d v ∧ Rep K α H e w ∧ Rep K α H f u := by
  obtain ⟨v, vs, rfl, r1, t⟩ := r.inv
  obtain ⟨w, u, rfl, r2, r3⟩ := repL2 t
  exact ⟨v, w, u, rfl, r1, r2, r3⟩
theorem si_rng3 {a b c : CE} {e f f2 : Expr} {p : Pos} (g : glB sc "range" = true) (hf : ("range" : Str) ∈ T.blts) (h : SA T pg k N sc hi (.cons a (.cons b (.cons c .nil))) [e, f, f2]) (hs : [e, f, f2].all noStar = true) : SI T pg k N sc hi (.range (.cons a (.cons b (.cons c .nil)))) tg (.Call (.Name "range" p) [e, f, f2] [] pos) := fun X W A => by
  obtain ⟨g1, g2, g3⟩ := A.gl g
  rw [List.all_cons, Bool.and_eq_true] at hs
  refine PI.weak (pi_range3 g1 (A.lnk.blt _ hf) (h X W A) (star_of hs.1) (plain_of hs.2)) fun σ H R ⟨α, ρ, S, st, p⟩ => ?_
  rw [evI_range] at p
  refine tA.askN st p fun ds S1 α1 H1 vs l1 st1 r1 hl p1 => ?_
  obtain ⟨its, hz, q⟩ := p1.ofO st1.2.1
  unfold rangeI at hz
  split at hz
  · exact absurd hl (by show ¬ (1 = 3); decide)
  · exact absurd hl (by show ¬ (2 = 3); decide)
  · split at hz
    · rename_i i j c hb
      cases hz
      obtain ⟨v, w, u, rfl, h1, h2, h3⟩ := repL3 r1
      cases rep_int h1
      cases rep_int h2
      cases rep_int h3
      obtain ⟨⟨b1, b2⟩, rfl, b3⟩ := hb
      exact ⟨i, j, -1, _, rfl, RgC.neg b1.1 b1.2 b2.1 b2.2, q _ wk_rng (rng_line (by omega))⟩
    · cases hz
  · cases hz
theorem si_zip {a b : CE} {e f : Expr} {p tpos : Pos} {elts : List Expr} {kk : Nat} (g : glB sc "zip" = true) (hf : ("zip" : Str) ∈ T.blts) (h1 : SE T pg k N sc hi a e) (h2 : SE T pg k N sc hi b f) (hs : noStar e = true) (hs' : noStar f = true) :
    SI T pg k N sc hi (.zip a b) (.Tuple elts kk tpos) (.Call (.Name "zip" p) [e, f] [] pos) := fun X W A => by
  obtain ⟨g1, g2, g3⟩ := A.gl g
  refine PI.weak (RZ.pi_zipA g1 (A.lnk.blt _ hf) (pa_cons (h1 X W A) (pa_cons (h2 X W A) pa_nil (star_of hs')) (star_of hs)) (star_of hs) (plain_of (by rw [List.all_cons, hs']; rfl))) fun σ H R ⟨α, ρ, S, st, p⟩ => ?_
  rw [evI_zip] at p
  refine tE.ask st p fun d S1 α1 H1 v l1 st1 r1 p1 => ?_
  refine tE.ask st1 p1 fun d2 S2 α2 H2 w l2 st2 r2 p2 => ?_
  obtain ⟨its, hz, q⟩ := p2.ofO st2.2.1
  unfold zipI at hz
  split at hz
  · split at hz
    · rename_i hz'
      cases hz
      obtain ⟨a, vs, rfl, s, r⟩ := rep_tup (r1.mono l2)
      obtain ⟨b, ws, rfl, s', r'⟩ := rep_tup r2
      exact ⟨a, b, vs, ws, rfl, .inr ⟨s, s', q _ (wk_zip s r s' r') (by rw [List.length_map]; exact hz')⟩⟩
    · cases hz
  · cases hz
end
end Mp
end
section
set_option Elab.async false
set_option linter.all false
set_option maxRecDepth 100000
set_option maxHeartbeats 1000000
/-! MpAir: exceptions out of a comprehension's block. -/
namespace Mp
open PySem L2
/-- in a def's body -/
theorem TakesL.of {X : Cx} {W : WX} (hs : X.stack = X.env :: X.outer) (hf : X.env.frame = some X.env.locals) (tk : Takes X W) : TakesL X W :=
  ⟨X.env.locals, X.env, X.outer, hf, hs, hf, fun a B sI s' pins σ H cls d I nb up sky na os ag w => tk _ _ ⟨a, B, sI, pins, σ, H, cls, d, rfl, I, nb, up, .inr sky, na, os, ag, w⟩⟩
/-- what a call lets out -/
theorem TakesL.at {X : Cx} {W : WX} (tl : TakesL X W) (σ : St) : PassesAt (L2.CX X.prog X.w) X σ (WE W σ) := by
  intro pins H s e s' I c
  obtain ⟨L, env0, outer0, f1, f2, f3, tk⟩ := tl.fr
  obtain ⟨a, B, H', cls, d, rfl, fl, hok, ub, na, os, ag, hE⟩ := c
  -- the ground, and the frames as they are now
  obtain ⟨G, g1, g2⟩ := restrict s'.heap fun b => (B.get? b).isSome || decide (b ∈ frs X.stack)
  have st := fl.1
  have gB : ∀ b o, B.get? b = some o → G.get? b = some o := fun b o e => (g1 b (by simp [e])).trans (st b o e)
  have gF : ∀ b, b ∈ frs X.stack → G.get? b = s'.heap.get? b := fun b hb => g1 b (by simp [hb])
  have og : ∀ b o, G.get? b = some o → s'.heap.get? b = some o ∧ ((B.get? b).isSome = true ∨ b ∈ frs X.stack) := fun b o e => by
    by_cases q : ((B.get? b).isSome || decide (b ∈ frs X.stack)) = true
    · exact ⟨(g1 b q).symm.trans e, by simpa [Bool.or_eq_true] using q⟩
    · rw [g2 b (Bool.eq_false_iff.mpr q)] at e; cases e
  have J : Inv X pins σ H' { s with heap := G, gens := s'.gens, drawn := s'.drawn, toks := s'.toks } := by
    refine I.call (ch := []) ⟨?_, ?_, ?_, ?_, ub.tups, ub.frzs, ub.tbls⟩ (hok.kept gB) ag (fun _ z => nomatch z)
    · exact fun b o e n hb _ => gB b o (ub.keep b o e n hb)
    · intro b o e n hb _
      obtain ⟨sl, q⟩ := ub.slot b o e hb
      exact ⟨sl, (gF b hb).trans q⟩
    · exact fun b o e n _ => ub.free b o e n
    · intro b o e _
      by_cases hb : b ∈ frs X.stack
      · obtain ⟨sl, q⟩ := ub.slot b o e hb
        exact ⟨_, (gF b hb).trans q⟩
      · obtain ⟨o', q⟩ := ub.there b o e hb
        exact ⟨o', gB b o' q⟩
  refine tk a B _ s' pins σ H' cls d J (fun b o e hb => ?_) (Heap.UpToSlots.of_keeps fun b o e => (og b o e).1) (.inl fl) na os ag hE
  obtain ⟨e', h⟩ := og b o e
  rcases h with h | h
  · obtain ⟨o', q⟩ := Option.isSome_iff_exists.mp h
    have z := st b o' q
    rw [e'] at z
    cases z
    exact q
  · exact absurd h hb

/-! ### out of a block -/
theorem traced_but {h h' B : Heap} {e C : Addr} {Z : Obj → Prop} {fl : Value} {m : Str → Option Value} (t : HandSPX.TracedZ h B e Z fl) (hn : h.Ns C m) (sb : Heap.SameBut C h h') : HandSPX.TracedZ h' B e Z fl := by
  obtain ⟨oe, vs, T, oT, ts, he, hz, hd, h1, hT, ne, hT2, hd2, h3⟩ := t
  obtain ⟨oL, es, ep, hoL, hdL, _⟩ := hn
  have nC : ∀ b o ws, h.get? b = some o → o.data = .fields ws → b ≠ C := fun b o ws e q z => by
    subst z
    rw [hoL] at e
    cases e
    rw [hdL] at q
    cases q
  exact ⟨oe, vs, T, oT, ts, (sb.2 e (nC _ _ _ he hd)).trans he, hz, hd, h1, hT, ne, (sb.2 T (nC _ _ _ hT2 hd2)).trans hT2, hd2, h3⟩
theorem fails_held {M : Model} {A : Around} {E : Value → Shared → Prop} {s' : Shared} {B : Heap} {l : List PySem.Env} {cenv : PySem.Env} {e L : Addr} {Z : Obj → Prop} {m : Str → Option Value} (hf : cenv.frame = some L) (hbC : B.get? cenv.locals = none) (hn : s'.heap.Ns cenv.locals m)
    (hh : HandSPX.HeldZ B l e Z L s'.heap) (hQ : ∀ h', HandSPX.HeldZ B l e Z L h' → (∀ b o, s'.heap.get? b = some o → b ≠ cenv.locals → (∀ vs, o.data ≠ .fields vs) → ∃ sl, h'.get? b = some { o with slots := sl }) → E (.ref e) { s' with heap := h' }) :
    CompFails M A E cenv (.ref e) s' := by
  refine ⟨m, hn, fun h2 m2 hn2 sb => ?_⟩
  obtain ⟨b1, b0, f1, t1⟩ := hh
  have b2 : B.StaysIn h2 := fun b o hb => (sb.2 b fun q => by rw [q, hbC] at hb; cases hb).trans (b1 b o hb)
  have f2 : h2.FunFrames B l := Heap.FunFrames.sameBut sb hn2 f1
  have t2 := traced_but t1 hn sb
  obtain ⟨oe, vs, T, oT, ts, he, hz, hd, h1, _⟩ := id t2
  unfold passOn
  refine wpAny_bind (wpAny_field he hd h1 ?_)
  rw [if_neg (show ¬ ((Value.ref T == Value.none) = true) from by simp), hf]
  refine wpAny_bind (HandSPX.setFlight_onZ (L := L) ⟨b2, b0, f2, t2⟩ fun h3 hh3 up => wpAny_throw (hQ h3 hh3 fun b o hb hC hnf => ?_))
  exact up b o ((sb.2 b hC).trans hb) hnf
end Mp
end
section
set_option Elab.async false
set_option linter.all false
set_option maxRecDepth 100000
set_option maxHeartbeats 1000000
/-! MpLc: a list comprehension whose element, tests may raise. -/
namespace Mp
open PySem L2
abbrev blkX (X : Cx) (s : Shared) (H : Hp) (scope : Scope) (ce : PySem.Env) (fp : List Addr) (xe : Value → Shared → Prop) : Cx := (X.blk s H scope ce fp).tr [] xe
theorem held_less {B B' h : Heap} {l : List PySem.Env} {a L : Addr} {Z : Obj → Prop} (sub : ∀ b o, B'.get? b = some o → B.get? b = some o) (hh : HandSPX.HeldZ B l a Z L h) : HandSPX.HeldZ B' l a Z L h := by
  have non : ∀ b, B.get? b = none → B'.get? b = none := fun b n => by
    cases q : B'.get? b with
    | none => rfl
    | some o => rw [sub b o q] at n; cases n
  obtain ⟨b1, b0, f1, oe, vs, T, oT, ts, he, hz, hd, h1, hT, r⟩ := hh
  refine ⟨fun b o e => b1 b o (sub b o e), non _ b0, funFrames_none f1 fun c hc => non c ?_, oe, vs, T, oT, ts, he, hz, hd, h1, non _ hT, r⟩
  exact (Heap.FunFrames.mem f1 hc).1
/-- the block hands on what its def takes -/
theorem blk_takes {X : Cx} {W : WX} {pins : List (Addr × Obj)} {σ : St} {H3 : Hp} {s3 : Shared} {scope : Scope} {ce : PySem.Env} {fp : List Addr} (tl : TakesL X W) (I3 : Inv X pins σ H3 s3) (cL : ce.locals = s3.heap.objs.size) (cf : ce.frame = X.env.frame) (hfp : ∀ b ∈ fp, FpOk X pins H3 b) :
    TakesL (blkX X s3 H3 scope ce fp (notedBy (model X.prog X.w) X.A ce (CompFails (model X.prog X.w) X.A X.xe ce))) (fun cls d _ H => W cls d σ H) := by
  obtain ⟨L, env0, outer0, f1, f2, f3, tk⟩ := tl.fr
  refine ⟨L, env0, outer0, cf.trans f1, f2, f3, fun a B sI s' pb σb H cls d Ib nb up sky na os ag w => ?_⟩
  have bare := Ib.bare
  have old : ∀ b o, s3.heap.get? b = some o → b ≠ ce.locals := fun b o e q => by
    have h1 := Heap.lt_size e
    rw [q, cL] at h1
    exact Nat.lt_irrefl _ h1
  have nf : ce.locals ∉ frs X.stack := fun hm => by
    obtain ⟨_, o, ho, _⟩ := I3.stack.mem hm
    exact old _ o ho rfl
  have fC : H ce.locals = none := Ib.free
  obtain ⟨m, hn, _⟩ := Ib.loc
  have hn : sI.heap.Ns ce.locals m := hn
  have stB : B.StaysIn s'.heap := by
    rcases sky with z | z
    · exact z.1
    · exact z.1
  have hn' : s'.heap.Ns ce.locals m := by
    obtain ⟨oL, es, ep, e1, e2, r⟩ := hn
    exact ⟨oL, es, ep, stB _ _ (nb _ _ e1 nf), e2, r⟩
  -- without the block's names
  have un : ∀ b o, (PySem.W.hideAll sI.heap [ce.locals]).get? b = some o → sI.heap.get? b = some o ∧ b ≠ ce.locals := fun b o e => ⟨PySem.W.of_hideAll _ e, fun q => by
    rw [PySem.W.hideAll_none _ (by rw [q]; exact List.mem_cons_self)] at e
    cases e⟩
  have hid : ∀ b o, sI.heap.get? b = some o → b ≠ ce.locals → (PySem.W.hideAll sI.heap [ce.locals]).get? b = some o := fun b o e q => PySem.W.hideAll_get _ e (by simpa using q)
  have J : Inv X pins σ H { sI with heap := PySem.W.hideAll sI.heap [ce.locals] } := by
    refine I3.call' (s' := { sI with heap := PySem.W.hideAll sI.heap [ce.locals] }) (ch := fp) Ib.os ⟨?_, ?_, ?_, ?_, Ib.base.tups, Ib.base.frzs, Ib.base.tbls⟩ ?_ bare fun b hb => ⟨(hfp b hb).2.2.2.1, (hfp b hb).2.1, (hfp b hb).2.2.2.2.1, (hfp b hb).2.2.2.2.2⟩
    · exact fun b o e n hs hx => hid b o (Ib.base.keep b o e n hs hx) (old b o e)
    · intro b o e n hs hx
      obtain ⟨sl, q⟩ := Ib.base.slot b o e n hs hx
      exact ⟨sl, hid b _ q (old b o e)⟩
    · exact fun b o e n hx => Ib.base.free b o e n hx
    · intro b o e hx
      obtain ⟨o', q⟩ := Ib.base.there b o e hx
      exact ⟨o', hid b o' q (old b o e)⟩
    · exact fun b o q => (Ib.hok b o q).stay (fun c u hc r => hid c u r fun z => by
        rcases hc with hc | hc
        · rw [← hc, z, fC] at q; cases q
        · rw [z, fC] at hc; cases hc) (fun _ r => r) fun _ _ r => r
  have fin : ∀ h1, HandSPX.HeldZ B (env0 :: outer0) a (Zc cls d) L h1 → s'.heap.UpToSlots h1 → CompFails (model X.prog X.w) X.A X.xe ce (.ref a) { s' with heap := h1 } := fun h1 hh up1 => by
    refine fails_held (B := PySem.W.hideAll B [ce.locals]) (l := env0 :: outer0) (L := L) (Z := Zc cls d) (m := m) (cf.trans f1) (PySem.W.hideAll_none _ List.mem_cons_self) (hn'.upToSlots up1) (held_less (fun b o e => PySem.W.of_hideAll _ e) hh) fun h3 hh3 k => ?_
    refine tk a _ _ { s' with heap := h3 } pins σ H cls d J (fun b o e hb => ?_) (fun b o e hnf => ?_) (.inr (by rw [f2]; exact hh3)) na os ag w
    · obtain ⟨e1, e2⟩ := un b o e
      exact PySem.W.hideAll_get _ (nb b o e1 hb) (by simpa using e2)
    · obtain ⟨e1, e2⟩ := un b o e
      obtain ⟨sl1, q1⟩ := up b o e1 hnf
      obtain ⟨sl2, q2⟩ := up1 b _ q1 hnf
      obtain ⟨sl3, q3⟩ := k b _ q2 e2 hnf
      exact ⟨sl3, q3⟩
  have hfr : X.A.frames = some (env0 :: outer0) := by rw [I3.ok.frames, f2]
  show wpAny (model X.prog X.w) X.A (noteFrame (.ref a) ce) _ _ s'
  rw [noteFrame_env (.ref a) (show ce.frame = env0.frame by rw [cf, f1, f3])]
  rcases sky with fl | hh
  · have fl : HandSPX.FlyingZ B (env0 :: outer0) a (Zc cls d) s'.heap := by rw [← f2]; exact fl
    exact HandSPX.looks_onZ Zc.steady hfr f3 fl fun h1 hh up1 => fin h1 hh up1
  · have hh : HandSPX.HeldZ B (env0 :: outer0) a (Zc cls d) L s'.heap := by rw [← f2]; exact hh
    exact HandSPX.againZ f3 hh.2.2.2 (fin s'.heap hh (Heap.UpToSlots.refl _))
theorem ends_err {M : Model} {A : Around} {E : Value → Shared → Prop} {use : Option (Value → Sem Unit)} {Q : Value → Shared → Prop} {acc : Value} {ce : PySem.Env} : (fun e s' => compEnds M A E use Q acc ce (.error e) s') = CompFails M A E ce := by
  cases use <;> rfl
section
variable {X : Cx}
theorem lcx_core {W : WX} {pins : List (Addr × Obj)} {s : Shared} {σ : St} {H : Hp} {Q : VK} {elt tg iter : Expr} {ifs : List Expr} {scope : Scope} {own : List (Str × Nat)} {pos pos' : Pos} {wi : TI} {g : TG} {tt : TT} {te : TE} {use : Option (Value → Sem Unit)} {Qf : Value → Shared → Prop}
    (hc : X.calm = true) (hN : X.N.Nodup) (tl : TakesL X W) (I : Inv X pins σ H s) (hi : PI X tg iter wi) (ok : BlkOk X.N X.env.scope scope own)
    (hg : ∀ s H C cl fp xe, PG (blkX X s H scope (compEnvC scope cl C X.env) fp xe) tg g)
    (ht : ∀ s H C cl fp xe, TakesL (blkX X s H scope (compEnvC scope cl C X.env) fp xe) (fun c d _ H => W c d σ H) → PTs (blkX X s H scope (compEnvC scope cl C X.env) fp xe) ifs tt)
    (he : ∀ s H C cl fp xe, TakesL (blkX X s H scope (compEnvC scope cl C X.env) fp xe) (fun c d _ H => W c d σ H) → PE (blkX X s H scope (compEnvC scope cl C X.env) fp xe) elt te)
    (hs : ∀ x, foldedSetIterable iter X.env x = pure x) (h : tLc wi g tt te (own.map (·.2)) σ H Q)
    (hRR : ∀ D s' m H' (cenv : PySem.Env), Inv X pins σ H' s' → Q (.ref D) H' → s'.heap.Ns cenv.locals m → FpOk X pins H' cenv.locals → compEnds (model X.prog X.w) X.A X.xe use Qf (.ref D) cenv (.ok .next) s') :
    wpAny (model X.prog X.w) X.A (comprehension (.ListComp elt [⟨tg, iter, ifs, 0⟩] scope pos) scope X.env pos' (newList []) false (eval iter X.env) use) Qf X.xe s := by
  have hfree : ∀ y ∈ scope.names, y.2 = .free → ∃ c, X.env.cells.lookup y.1 = some c := fun y hy e => (ok.free y hy e).elim (fun k => I.ok.has _ (.inl k)) fun k => I.ok.has _ (.inr k)
  refine comprehension_at (use := use) rfl hs (closure_ok hfree) ok.kind (fun y hy e => by rw [ok.uniq y hy, e])
    (thn (hi.run pins s σ H _ I h) fun xv s1 hx => thn hx fun itv s2 h2 => ?_)
  obtain ⟨it, fp, tn, J, H2, e, I2, T, st2, f2, q⟩ := h2
  subst e
  refine wpAny_newObj_type (newEnv_comp ?_) (by show 0 ≤ sizeLine; decide)
  -- the new list, at D
  obtain ⟨D, hD⟩ : ∃ D, D = s2.heap.objs.size := ⟨_, rfl⟩
  have hDn : H2 D = none := I2.hok.fresh (Nat.le_of_eq hD.symm)
  obtain ⟨Wd, ⟨m0, w0⟩, turn⟩ := q D hDn
  rw [← hD]
  obtain ⟨s3, hs3⟩ : ∃ s3 : Shared, s3 = { s2 with heap := s2.heap.push { cls := .type "list", data := .seq ([] : List Value).toArray } } := ⟨_, rfl⟩
  have h3 : s3.heap = s2.heap.push { cls := .type "list", data := .seq ([] : List Value).toArray } := by rw [hs3]
  have I3 : Inv X pins σ (upd H2 D (.lst [])) s3 := by
    rw [hs3]
    exact I2.laid (t' := s2.toks) (fun b o e => Heap.get?_push_of_some _ e) (Nat.le_of_eq hD.symm) ⟨Nat.zero_le _, [], 0, .nil, by rw [hD]; exact Heap.get?_push_size _ rfl⟩
  have sz : ∀ b ∈ fp, b < s2.heap.objs.size := fun b hb => by
    obtain ⟨o, e, _⟩ := T.obj _ _ st2 b hb
    exact Heap.lt_size e
  have f3 : ∀ b ∈ fp, FpOk X pins (upd H2 D (.lst [])) b ∧ b < s3.heap.objs.size := fun b hb =>
    ⟨⟨(upd_ne (by rw [hD]; exact Nat.ne_of_lt (sz b hb))).trans (f2 b hb).1, (f2 b hb).2⟩, by rw [h3, Heap.size_push]; exact Nat.lt_succ_of_lt (sz b hb)⟩
  have st3 : tn 0 s3.heap := T.keep _ _ _ st2 fun b _ o e => by rw [h3]; exact Heap.get?_push_of_some _ e
  have I4 := block_start I3 ok hN f3
  obtain ⟨ce, hce⟩ : ∃ ce, ce = compEnvC scope (cellsFrom (s3.heap.objs.size + 1) scope.names (cloFrom X.env.cells scope.names [])) s3.heap.objs.size X.env := ⟨_, rfl⟩
  have cL : ce.locals = s3.heap.objs.size := by rw [hce]; rfl
  have cf : ce.frame = X.env.frame := by rw [hce]; rfl
  rw [← hce] at I4
  obtain ⟨xe, hxe⟩ : ∃ xe, xe = notedBy (model X.prog X.w) X.A ce (CompFails (model X.prog X.w) X.A X.xe ce) := ⟨_, rfl⟩
  have tlb : TakesL (blkX X s3 (upd H2 D (.lst [])) scope ce fp xe) (fun c d _ H => W c d σ H) := by
    rw [hxe]
    exact blk_takes tl I3 cL cf fun b hb => (f3 b hb).1
  have pg : PG (blkX X s3 (upd H2 D (.lst [])) scope ce fp xe) tg g := by rw [hce]; exact hg _ _ _ _ _ _
  have pt : PTs (blkX X s3 (upd H2 D (.lst [])) scope ce fp xe) ifs tt := by rw [hce] at tlb ⊢; exact ht _ _ _ _ _ _ tlb
  have pe : PE (blkX X s3 (upd H2 D (.lst [])) scope ce fp xe) elt te := by rw [hce] at tlb ⊢; exact he _ _ _ _ _ _ tlb
  have nfp : ∀ b ∈ fp, (upd H2 D (.lst [])) b = none := fun b hb => (f3 b hb).1.1
  obtain ⟨H3, hH3⟩ : ∃ H3, H3 = upd H2 D (.lst []) := ⟨_, rfl⟩
  rw [← hH3] at I3 I4 f3 tlb pg pt pe nfp w0
  obtain ⟨s4, hs4⟩ : ∃ s4 : Shared, s4 = { s3 with heap := pushCells (s3.heap.push { cls := .type "dict", data := .dict #[] }) scope.names } := ⟨_, rfl⟩
  rw [← hs4] at I4
  have I4 : Inv (blkX X s3 H3 scope ce fp xe) [] (L2.wipe σ (own.map (·.2))) H3 s4 := I4.toTry xe
  have st4 : tn 0 s4.heap := T.keep _ _ _ st3 fun b _ o e => by rw [hs4]; exact pushCells_keeps _ _ _ _ (Heap.get?_push_of_some _ e)
  have stat : ∀ {σ' : St} {H' : Hp} {s' : Shared}, Inv (blkX X s3 H3 scope ce fp xe) [] σ' H' s' → (∀ b ∈ fp, H' b = none) → ∀ b ∈ fp, FpOk (blkX X s3 H3 scope ce fp xe) [] H' b := fun {σ' H' s'} I' hn b hb =>
    ⟨hn b hb, (I'.ok.exf b hb).1, I'.ok.exfs b hb, .inl hb, fun x c e => (I'.ok.exf b hb).2 x c e, fun p hp => absurd (show p ∈ ([] : List (Addr × Obj)) ++ [] from hp) (by simp)⟩
  have loop : codeAny (model X.prog X.w) X.A (.compLoop (.ListComp elt [⟨tg, iter, ifs, 0⟩] scope pos) 0 (.ref it) (.ref D) ce) (compEnds (model X.prog X.w) X.A X.xe use Qf (.ref D) ce) s4 := by
    refine compLoop_any (fun n s' => ∃ i H', Inv (blkX X s3 H3 scope ce fp xe) [] (L2.wipe σ (own.map (·.2))) H' s' ∧ tn i s'.heap ∧ (∀ b ∈ fp, H' b = none) ∧ Wd i n H') ?_ m0 ⟨0, H3, I4, st4, nfp, w0⟩
    rintro n s5 ⟨i, H5, I5, st5, n5, w5⟩
    rw [ends_err, ← hxe]
    rcases turn i n H5 w5 with ⟨stop, qq⟩ | ⟨go, Nx, hNx, step⟩
    · refine thnF (T.done (blkX X s3 H3 scope ce fp xe) rfl rfl rfl hc i [] s5 _ H5 (fun _ _ => False) I5 (stat I5 n5) st5 stop) fun r s6 ⟨hr, I6⟩ => ?_
      subst hr
      have I7 : Inv X pins σ H5 s6 := I3.call' (ch := fp) I6.os I6.base I6.hok I6.bare fun b hb => ⟨(f3 b hb).1.2.2.2.1, (f3 b hb).1.2.1, (f3 b hb).1.2.2.2.2.1, (f3 b hb).1.2.2.2.2.2⟩
      obtain ⟨m, hn, _⟩ := I6.loc
      exact hRR D s6 m H5 ce I7 qq hn (I3.fpOk (Nat.le_of_eq cL.symm) I6.free)
    · refine thnF (T.item (blkX X s3 H3 scope ce fp xe) rfl rfl rfl hc i [] s5 _ H5 (fun _ _ => False) I5 (stat I5 n5) st5 go) fun r s6 ⟨u, hr, h6⟩ => ?_
      subst hr
      refine thnF h6 fun _ s7 ⟨x, H7, I7, r7, y7, st7, n7⟩ => ?_
      have I7' := I7.pinned (stat I7 n7) (T.obj _ _ st7)
      refine thn (pg.run _ s7 _ H7 x u _ I7' r7 (step x H7 y7)) fun _ s8 ⟨σ8, H8, I8, hw8, q8⟩ => ?_
      refine thn (pt.run _ s8 σ8 H8 _ I8 q8) fun b s9 ⟨H9, I9, q9⟩ => ?_
      -- the turn's end
      have fin : ∀ {s' : Shared} {H' : Hp}, Inv (blkX X s3 H3 scope ce fp xe) ([] ++ pinsAt fp s7.heap) σ8 H' s' → Nx H' → ∃ m, m < n ∧ ∃ i H', Inv (blkX X s3 H3 scope ce fp xe) [] (L2.wipe σ (own.map (·.2))) H' s' ∧ tn i s'.heap ∧ (∀ b ∈ fp, H' b = none) ∧ Wd i m H' := fun {s' H'} I' nx => by
        obtain ⟨m', hm, w'⟩ := hNx H' nx
        have pin' : ∀ b ∈ fp, ∀ o, s7.heap.get? b = some o → s'.heap.get? b = some o ∧ H' b = none := fun b hb o e => by
          have z := I'.pin (b, o) (List.mem_append_right _ (List.mem_append_right _ (mem_pinsAt hb e)))
          exact ⟨z.1, z.2.1⟩
        refine ⟨m', hm, i + 1, H', I'.unpinned.weak (by rw [← hw8, wipe_length]) (fun j v e => ?_), T.keep _ _ _ st7 fun b hb o e => (pin' b hb o e).1, fun b hb => ?_, w'⟩
        · rw [← hw8] at e
          exact (wipe_some e).1
        · obtain ⟨o, e, _⟩ := T.obj _ _ st7 b hb
          exact (pin' b hb o e).2
      cases b with
      | false => exact fin I9 q9
      | true =>
        refine thn (pe.run _ s9 σ8 H9 _ I9 q9) fun z s10 ⟨yv, H10, I10, r10, acc, hD10, hz10, nx⟩ => ?_
        exact app_ok (X := blkX X s3 H3 scope ce fp xe) I10 hD10 hz10 r10 fun s11 I11 => fin I11 nx
  subst hs4
  subst hs3
  subst hce
  exact codeAny_compStart_list loop (T.self X.A 0 _ _ _ st4 loop)
/-- as a value -/
theorem pe_lcx {W : WX} {elt tg iter : Expr} {ifs : List Expr} {scope : Scope} {own : List (Str × Nat)} {pos : Pos} {wi : TI} {g : TG} {tt : St → TT} {te : St → TE} (hc : X.calm = true) (hN : X.N.Nodup) (tl : TakesL X W) (hi : PI X tg iter wi) (ok : BlkOk X.N X.env.scope scope own)
    (hg : ∀ s H C cl fp xe, PG (blkX X s H scope (compEnvC scope cl C X.env) fp xe) tg g)
    (ht : ∀ σ s H C cl fp xe, TakesL (blkX X s H scope (compEnvC scope cl C X.env) fp xe) (fun c d _ H => W c d σ H) → PTs (blkX X s H scope (compEnvC scope cl C X.env) fp xe) ifs (tt σ))
    (he : ∀ σ s H C cl fp xe, TakesL (blkX X s H scope (compEnvC scope cl C X.env) fp xe) (fun c d _ H => W c d σ H) → PE (blkX X s H scope (compEnvC scope cl C X.env) fp xe) elt (te σ))
    (hs : ∀ x, foldedSetIterable iter X.env x = pure x) : PE X (.ListComp elt [⟨tg, iter, ifs, 0⟩] scope pos) (fun σ H Q => tLc wi g (tt σ) (te σ) (own.map (·.2)) σ H Q) := by
  refine ⟨fun pins s σ H Q I h => ?_⟩
  rw [eval_ListComp]
  refine lcx_core hc hN tl I hi ok hg (ht σ) (he σ) hs h fun D s' m H' cenv I' q hn f => ⟨m, hn, fun h'' sb => ?_⟩
  obtain ⟨f0, f1, f2, f3, f4, f5⟩ := f
  exact ⟨.ref D, H', I'.turned (t' := s'.toks) (fun b o hb e => (sb.2 b hb).trans e) f0 f1 f3 f4 f5, rfl, q⟩
/-- a local's name = [..], on one line -/
theorem ps_lcx {W : WX} {i : Nat} {y : Str} {py : Pos} {elt tg iter : Expr} {ifs : List Expr} {scope : Scope} {own : List (Str × Nat)} {pos spos : Pos} {wi : TI} {g : TG} {tt : St → TT} {te : St → TE} (hc : X.calm = true) (hN : X.N.Nodup) (tl : TakesL X W) (hy : X.N[i]? = some y) (hyl : X.env.scope.names.lookup y = some .local)
    (hsw : swapsWith (.ListComp elt [⟨tg, iter, ifs, 0⟩] scope pos) (some (.Name y py)) spos.line X.env = pure true) (hi : PI X tg iter wi) (ok : BlkOk X.N X.env.scope scope own)
    (hg : ∀ s H C cl fp xe, PG (blkX X s H scope (compEnvC scope cl C X.env) fp xe) tg g)
    (ht : ∀ σ s H C cl fp xe, TakesL (blkX X s H scope (compEnvC scope cl C X.env) fp xe) (fun c d _ H => W c d σ H) → PTs (blkX X s H scope (compEnvC scope cl C X.env) fp xe) ifs (tt σ))
    (he : ∀ σ s H C cl fp xe, TakesL (blkX X s H scope (compEnvC scope cl C X.env) fp xe) (fun c d _ H => W c d σ H) → PE (blkX X s H scope (compEnvC scope cl C X.env) fp xe) elt (te σ))
    (hs : ∀ x, foldedSetIterable iter X.env x = pure x) : PS X (.Assign [.Name y py] (.ListComp elt [⟨tg, iter, ifs, 0⟩] scope pos) spos) (tAsg (fun σ H Q => tLc wi g (tt σ) (te σ) (own.map (·.2)) σ H Q) (gName i)) := by
  refine ⟨fun pins s σ H D I h => ?_⟩
  rw [exec_Assign_Name_used _ _ _ _ hsw]
  refine wpAny_bind (wpAny_standAt (wpAny_bind ?_))
  show wpAny _ X.A (do let _ ← comprehension (.ListComp elt [⟨tg, iter, ifs, 0⟩] scope pos) scope X.env (firstIterPos [⟨tg, iter, ifs, 0⟩] pos) (newList []) false (eval iter X.env) (some (assign (.Name y py) X.env))) _ _ s
  have h : tLc wi g (tt σ) (te σ) (own.map (·.2)) σ H (fun x H1 => gName i x σ H1 D.nx) := h
  refine wpAny_bind (thn (lcx_core (Qf := fun _ s' => SP X pins D .next s') hc hN tl I hi ok hg (ht σ) (he σ) hs h fun l s' m H' cenv I' q hn f => ?_) fun _ s' hq => wpAny_pure (wpAny_pure hq))
  show wpAny _ _ (assign (.Name y py) X.env (.ref l)) _ _ _
  refine wpAny_assign_Name (store_ok2 (v := V.ref l) I' hN hy (.inl hyl) rfl (fun s2 I2 ⟨a, sb, ha⟩ => ?_) (.inr hyl))
  obtain ⟨f0, f1, f2, f3, f4, f5⟩ := f
  have haC : cenv.locals ≠ a := by
    rcases ha with z | z
    · rw [z]; exact f1
    · exact fun e => f4 y a z e.symm
  exact ⟨m, hn.sameBut sb haC, fun h3 sb3 => ⟨_, H', I2.turned (t' := s2.toks) (fun b o hb e => (sb3.2 b hb).trans e) f0 f1 f3 f4 f5, q⟩⟩
end
end Mp
end
section
set_option Elab.async false
set_option linter.all false
set_option maxRecDepth 100000
set_option maxHeartbeats 1000000
/-! MpComp: a core comprehension is what the text's does. -/
namespace Mp
open PySem L2
/-! ### without the new list -/
section
variable {K : PySem.W.Frag} {α α' : List Addr} {H H' : Hp} {S : Sto} {D : Addr} {vs : List V}
theorem delSqT {a : Addr} {xs : List V} (hD : H D = some (.lst vs)) : SqT K (del H D) a xs ↔ SqT K H a xs := by
  have key : ∀ o : HO, (∀ ws, o ≠ .lst ws) → ((del H D) a = some o ↔ H a = some o) := fun o ho => by
    by_cases e : a = D
    · subst e
      rw [del_same, hD]
      exact ⟨nofun, fun z => absurd (Option.some.inj z).symm (ho vs)⟩
    · rw [del_ne e]
  unfold SqT Rd
  rw [key (.tup xs) nofun]
  have k2 : ∀ o, ((del H D) a = some (.frz o (.tup xs)) ↔ H a = some (.frz o (.tup xs))) := fun o => key _ nofun
  simp only [k2]
theorem delRoL {a : Addr} {xs : List V} (hD : H D = some (.lst vs)) : RoL K (del H D) a xs ↔ RoL K H a xs := by
  have key : ∀ o : HO, (∀ ws, o ≠ .lst ws) → ((del H D) a = some o ↔ H a = some o) := fun o ho => by
    by_cases e : a = D
    · subst e
      rw [del_same, hD]
      exact ⟨nofun, fun z => absurd (Option.some.inj z).symm (ho vs)⟩
    · rw [del_ne e]
  unfold RoL
  have k2 : ∀ o, ((del H D) a = some (.frz o (.lst xs)) ↔ H a = some (.frz o (.lst xs))) := fun o => key _ nofun
  simp only [k2]
mutual
theorem delRep (hD : H D = some (.lst vs)) : ∀ (d : Mp.D) (v : V), Rep K α H d v → Rep K α (del H D) d v
  | .non, _, h => h
  | .bl _, _, h => h
  | .int _, _, h => h
  | .str _, _, h => h
  | .tup ds, _, h => by
    unfold Rep at h ⊢
    obtain ⟨a, xs, e, s, r⟩ := h
    exact ⟨a, xs, e, (delSqT hD).mpr s, delRepL hD ds xs r⟩
  | .rol ds, _, h => by
    unfold Rep at h ⊢
    obtain ⟨a, xs, e, s, r⟩ := h
    exact ⟨a, xs, e, (delRoL hD).mpr s, delRepL hD ds xs r⟩
  | .ref n, _, h => h
theorem delRepL (hD : H D = some (.lst vs)) : ∀ (ds : List Mp.D) (xs : List V), RepL K α H ds xs → RepL K α (del H D) ds xs
  | [], _, h => h
  | d :: ds, _, h => by
    unfold RepL at h ⊢
    obtain ⟨v, vr, e, r, t⟩ := h
    exact ⟨v, vr, e, delRep hD d v r, delRepL hD ds vr t⟩
end
theorem delRepF (hD : H D = some (.lst vs)) : ∀ (ds : List (Str × Mp.D)) (xs : List (Str × V)), RepF K α H ds xs → RepF K α (del H D) ds xs
  | [], _, h => h
  | (x, d) :: ds, _, h => by
    unfold RepF at h ⊢
    obtain ⟨v, vr, e, r, t⟩ := h
    exact ⟨v, vr, e, delRep hD d v r, delRepF hD ds vr t⟩
theorem delS (s : SRep K α H S) (hn : D ∉ α) (hD : H D = some (.lst vs)) : SRep K α (del H D) S := by
  refine ⟨s.len, s.nd, fun n o e => ?_⟩
  obtain ⟨a, e1, r⟩ := s.at_ n o e
  have ne : a ≠ D := fun z => hn (by rw [← z]; exact List.mem_of_getElem? e1)
  refine ⟨a, e1, ?_⟩
  cases o with
  | lst ds =>
    obtain ⟨ws, q, r⟩ := r
    exact ⟨ws, (del_ne ne).trans q, delRepL hD _ _ r⟩
  | ins c fs =>
    obtain ⟨dx, ws, q, r⟩ := r
    exact ⟨dx, ws, (del_ne ne).trans q, delRepF hD _ _ r⟩
theorem Le.stays (l : Le K α H α' H') (hn : D ∉ α) (hD : H D = some (.lst vs)) : H' D = some (.lst vs) ∧ D ∉ α' := by
  refine ⟨l.keep _ _ hD hn, fun z => ?_⟩
  obtain ⟨β, e, hb⟩ := l.ext
  rw [e] at z
  rcases List.mem_append.mp z with z | z
  · exact hn z
  · rw [(hb _ z).1] at hD
    cases hD
theorem delLe (l : Le K α H α' H') (hn : D ∉ α) (hD : H D = some (.lst vs)) : Le K α (del H D) α' (del H' D) := by
  have hD' := (l.stays hn hD).1
  obtain ⟨β, e, hb⟩ := l.ext
  refine ⟨⟨β, e, fun a ha => ⟨?_, (hb a ha).2⟩⟩, fun a o q ha => ?_, fun a q => ?_, fun a xs q => (delSqT hD').mpr (l.tups _ _ ((delSqT hD).mp q)), fun a xs q => (delRoL hD').mpr (l.rols _ _ ((delRoL hD).mp q))⟩
  · by_cases z : a = D
    · rw [z, del_same]
    · rw [del_ne z]; exact (hb a ha).1
  · by_cases z : a = D
    · rw [z, del_same] at q; cases q
    · rw [del_ne z] at q ⊢
      exact l.keep a o q ha
  · by_cases z : a = D
    · rw [z, del_same] at q; exact absurd rfl q
    · rw [del_ne z] at q ⊢
      exact l.there a q
theorem put_back (hD : H D = some (.lst vs)) : upd (del H D) D (.lst vs) = H := by
  funext a
  by_cases z : a = D
  · rw [z, upd_same, hD]
  · rw [upd_ne z, del_ne z]
theorem backLe (hD : H D = some (.lst vs)) : Le K α (del H D) α H := by
  have l : Le K α (del H D) α (upd (del H D) D (.lst vs)) := Le.new del_same
  rw [put_back hD] at l
  exact l
theorem backS (s : SRep K α (del H D) S) (hD : H D = some (.lst vs)) : SRep K α H S := by
  have l : SRep K α (upd (del H D) D (.lst vs)) S := s.new del_same
  rw [put_back hD] at l
  exact l
/-- a part's answer, the new list put aside -/
theorem PostR.aside {β γ : Type} {r : Res β} {g : β → Sto → Res γ} {R : Wd γ} {E : Wd Ex} (p : PostR K α (del H D) (r.bind g) R E) (hn : D ∉ α) (hD : H D = some (.lst vs)) :
    PostR K α H r (fun b S' α' H' => H' D = some (.lst vs) ∧ D ∉ α' ∧ Le K α H α' H' ∧ SRep K α' (del H' D) S' ∧ PostR K α' (del H' D) (g b S') R E) E := by
  cases r with
  | ok b S1 =>
    intro α' H' l s
    obtain ⟨h1, h2⟩ := l.stays hn hD
    exact ⟨h1, h2, l, delS s h2 h1, PostR.le p (delLe l hn hD)⟩
  | exn x S1 => exact fun α' H' l s => p α' H' ((backLe hD).trans l) s
  | stuck => exact p
end

/-! ### targets -/
def setN : List Nat → List V → St → St
  | i :: is, v :: vs, σ => setN is vs (σ.set i (some v))
  | _, _, σ => σ
def gT (K : PySem.W.Frag) : Tg → TG
  | .name i => gName i
  | .tup is => fun v σ H Q => ∃ a xs, v = .ref a ∧ SqT K H a xs ∧ xs.length = is.length ∧ Q (setN is xs σ) H
theorem wipe_nil {σ : St} : L2.wipe σ [] = σ := rfl
theorem wipe_set {i : Nat} {o : Option V} : ∀ {vs : List Nat} {σ : St}, i ∈ vs → L2.wipe (σ.set i o) vs = L2.wipe σ vs
  | v :: vs, σ, h => by
    show (L2.wipe (σ.set i o) vs).set v none = (L2.wipe σ vs).set v none
    by_cases e : i ∈ vs
    · rw [wipe_set e]
    · have e2 : i = v := by
        rcases List.mem_cons.mp h with z | z
        · exact z
        · exact absurd z e
      subst e2
      have key : ∀ {ws : List Nat}, i ∉ ws → L2.wipe (σ.set i o) ws = (L2.wipe σ ws).set i o := fun {ws} => by
        induction ws with
        | nil => intro _; rfl
        | cons w ws ih =>
          intro hw
          have h1 : i ≠ w := fun z => hw (by rw [z]; exact List.mem_cons_self)
          show (L2.wipe (σ.set i o) ws).set w none = ((L2.wipe σ ws).set w none).set i o
          rw [ih fun z => hw (List.mem_cons_of_mem _ z), List.set_comm _ _ h1]
      rw [key e, List.set_set]
theorem wipe_setN {is : List Nat} : ∀ {js : List Nat} {xs : List V} {σ : St}, (∀ j ∈ js, j ∈ is) → L2.wipe (setN js xs σ) is = L2.wipe σ is
  | [], _, _, _ => by unfold setN; rfl
  | j :: js, [], _, _ => by unfold setN; rfl
  | j :: js, x :: xs, σ, h => by
    show L2.wipe (setN js xs (σ.set j (some x))) is = _
    rw [wipe_setN fun z hz => h z (List.mem_cons_of_mem _ hz), wipe_set (h j List.mem_cons_self)]
theorem wipe_wipe {is : List Nat} {σ : St} : ∀ {js : List Nat}, (∀ j ∈ js, j ∈ is) → L2.wipe (L2.wipe σ js) is = L2.wipe σ is
  | [], _ => rfl
  | j :: js, h => by
    show L2.wipe ((L2.wipe σ js).set j none) is = _
    rw [wipe_set (h j List.mem_cons_self), wipe_wipe fun z hz => h z (List.mem_cons_of_mem _ hz)]
section
variable {K : PySem.W.Frag} {α : List Addr} {H : Hp}
theorem ERep.wipes {ρ : Env} {σ : St} (h : ERep K α H ρ σ) : ∀ is : List Nat, ERep K α H (Mp.wipe ρ is) (L2.wipe σ is)
  | [] => h
  | i :: is => ERep.wipe (ERep.wipes h is) i none
theorem asgN_rep : ∀ {is : List Nat} {ds : List Mp.D} {vs : List V} {ρ ρ' : Env} {σ : St}, ERep K α H ρ σ → RepL K α H ds vs → asgN is ds ρ = some ρ' → ERep K α H ρ' (setN is vs σ) ∧ vs.length = is.length
  | [], [], _, ρ, ρ', σ, h, r, e => by
    cases repL0 r
    cases e
    exact ⟨h, rfl⟩
  | i :: is, d :: ds, _, ρ, ρ', σ, h, r, e => by
    obtain ⟨v, vs, rfl, r1, r2⟩ := r.inv
    obtain ⟨a, b⟩ := asgN_rep (h.set r1 i) r2 e
    exact ⟨a, by rw [List.length_cons, List.length_cons, b]⟩
  | [], _ :: _, _, _, _, _, _, _, e => by cases e
  | _ :: _, [], _, _, _, _, _, _, e => by cases e
theorem gt_of {tg : Tg} {d : Mp.D} {v : V} {ρ ρ' : Env} {σ : St} {Q : St → Hp → Prop} (h : ERep K α H ρ σ) (r : Rep K α H d v) (e : asgT tg d ρ = some ρ') (q : ∀ σ', ERep K α H ρ' σ' → (∀ is : List Nat, (∀ j ∈ tg.ix, j ∈ is) → L2.wipe σ' is = L2.wipe σ is) → Q σ' H) : gT K tg v σ H Q := by
  cases tg with
  | name i =>
    cases e
    exact q _ (h.set r i) fun is hi => wipe_set (hi i List.mem_cons_self)
  | tup is =>
    cases d with
    | tup ds =>
      obtain ⟨a, vs, rfl, s, rl⟩ := rep_tup r
      obtain ⟨h1, h2⟩ := asgN_rep h rl e
      exact ⟨a, vs, rfl, s, h2, q _ h1 fun js hj => wipe_setN hj⟩
    | _ => cases e
end
/-- the names of a target: cellOk, a name may be a cell -/
def locB (cellOk : Bool) (sc : Scope) (x : Str) : Bool := match sc.names.lookup x with
  | some .local => true
  | some .cell => cellOk
  | _ => false
def tgNs (cellOk : Bool) (N : List Str) (sc : Scope) : List Nat → List Expr → Bool
  | [], [] => true
  | i :: is, .Name x _ :: es => decide (N[i]? = some x) && (locB cellOk sc x && tgNs cellOk N sc is es)
  | _, _ => false
def tgB (cellOk : Bool) (N : List Str) (sc : Scope) : Tg → Expr → Bool
  | .name i, .Name x _ => decide (N[i]? = some x) && locB cellOk sc x
  | .tup is, .Tuple es _ _ => tgNs cellOk N sc is es
  | _, _ => false
def tgOwn : Tg → Expr → List (Str × Nat)
  | .name i, .Name x _ => [(x, i)]
  | .tup is, .Tuple es _ _ => (es.zip is).map fun p => ((match p.1 with | .Name x _ => x | _ => Str.empty), p.2)
  | _, _ => []
section
variable {X : Cx} {N : List Str} {sc : Scope} {b : Bool}
theorem loc_of {x : Str} (hs : X.env.scope = sc) (hf : b = true → ∀ x, X.fn x = true) (h : locB b sc x = true) : L2.Loc X.env.scope x ∧ (X.fn x = true ∨ X.env.scope.names.lookup x = some .local) := by
  unfold locB at h
  rw [hs]
  unfold L2.Loc
  split at h
  · rename_i e; exact ⟨.inl e, .inr e⟩
  · rename_i e; exact ⟨.inr e, .inl (hf h x)⟩
  · cases h
def gNs : List Nat → TGs
  | [] => gNil
  | i :: is => gCons (gName i) (gNs is)
theorem gns_of : ∀ {is : List Nat} {xs : List V} {σ : St} {H : Hp} {Q : St → Hp → Prop}, xs.length = is.length → Q (setN is xs σ) H → gNs is xs σ H Q
  | [], [], _, _, _, _, q => ⟨rfl, q⟩
  | i :: is, x :: xs, σ, H, Q, h, q => ⟨x, xs, rfl, gns_of (by simpa using h) q⟩
  | [], _ :: _, _, _, _, h, _ => by cases h
  | _ :: _, [], _, _, _, h, _ => by cases h
theorem pgs_of (hn : X.N = N) (hN : X.N.Nodup) (hs : X.env.scope = sc) (hf : b = true → ∀ x, X.fn x = true) : ∀ {is : List Nat} {es : List Expr}, tgNs b N sc is es = true → PGs X es (gNs is) ∧ (assignEach es X.env).length = is.length ∧ (assignEach es X.env).findIdx? (·.1) = none
  | [], [], _ => ⟨pgs_nil, rfl, rfl⟩
  | i :: is, .Name x p :: es, h => by
    unfold tgNs at h
    rw [Bool.and_eq_true, Bool.and_eq_true, decide_eq_true_eq] at h
    obtain ⟨h1, h2, h3⟩ := h
    obtain ⟨q1, q2⟩ := loc_of hs hf h2
    obtain ⟨r1, r2, r3⟩ := pgs_of hn hN hs hf h3
    refine ⟨pgs_cons (pg_name hN (by rw [hn]; exact h1) q1 q2) r1 rfl, ?_, ?_⟩
    · show (assignEach es X.env).length + 1 = is.length + 1
      rw [r2]
    · show List.findIdx? _ ((false, assign (.Name x p) X.env) :: assignEach es X.env) = none
      rw [List.findIdx?_cons, r3]
      rfl
theorem pg_of {tg : Tg} {e : Expr} (hc : X.calm = true) (hn : X.N = N) (hN : X.N.Nodup) (hs : X.env.scope = sc) (hf : b = true → ∀ x, X.fn x = true) (h : tgB b N sc tg e = true) : PG X e (gT X.K tg) := by
  unfold tgB at h
  split at h
  · rw [Bool.and_eq_true, decide_eq_true_eq] at h
    obtain ⟨q1, q2⟩ := loc_of hs hf h.2
    exact pg_name hN (by rw [hn]; exact h.1) q1 q2
  · obtain ⟨r1, r2, r3⟩ := pgs_of hn hN hs hf h
    exact ⟨fun pins s σ H v u Q I r ⟨a, xs, e1, q1, q2, q3⟩ => (pg_tup hc r1 r2 r3).run pins s σ H v u Q I r ⟨a, xs, e1, q1, q2, gns_of q2 q3⟩⟩
  · cases h
theorem own_ix {tg : Tg} {e : Expr} (h : tgB b N sc tg e = true) : (tgOwn tg e).map (·.2) = tg.ix := by
  unfold tgB at h
  split at h
  · rfl
  · rename_i is es _ _
    have key : ∀ {is : List Nat} {es : List Expr}, tgNs b N sc is es = true → ((es.zip is).map fun p => ((match p.1 with | .Name x _ => x | _ => Str.empty), p.2)).map (·.2) = is := by
      intro is
      induction is with
      | nil => intro es h; cases es with
        | nil => rfl
        | cons _ _ => rfl
      | cons i is ih => intro es h; cases es with
        | nil => cases h
        | cons e es =>
          cases e <;> try cases h
          unfold tgNs at h
          rw [Bool.and_eq_true, Bool.and_eq_true] at h
          exact congrArg (i :: ·) (ih h.2.2)
    exact key h
  · cases h
end
end Mp
end
section
set_option Elab.async false
set_option linter.all false
set_option maxRecDepth 100000
set_option maxHeartbeats 1000000
/-! MpComp2: [e for x in xs if c]. -/
namespace Mp
open PySem L2
theorem lcL_nil {ck : Sto → Prop} {f : D → Sto → Res (Option D)} {S : Sto} (h : ck S) : lcL ck f [] S = .ok [] S := by unfold lcL; exact if_pos h
theorem lcL_cons {ck : Sto → Prop} {f : D → Sto → Res (Option D)} {d : D} {ds : List D} {S : Sto} (h : ck S) : lcL ck f (d :: ds) S = (f d S).bind fun r S1 => (lcL ck f ds S1).bind fun rs S2 => .ok (r.toList ++ rs) S2 := by rw [lcL]; exact if_pos h
theorem lcL_ck {ck : Sto → Prop} {f : D → Sto → Res (Option D)} {ds : List D} {S : Sto} (h : lcL ck f ds S ≠ .stuck) : ck S := by
  cases ds with
  | nil =>
    unfold lcL at h
    exact Classical.byContradiction fun q => h (if_neg q)
  | cons d ds =>
    rw [lcL] at h
    exact Classical.byContradiction fun q => h (if_neg q)
/-- what one item gives -/
noncomputable def fb (C : Cf) (tg : Tg) (elt : CE) (ifs : CEs) (ρ : Env) : D → Sto → Res (Option D) := fun d S2 => (ofO (asgT tg d (Mp.wipe ρ tg.ix)) S2).bind fun ρ1 S3 => (evIfs C none ifs ρ1 S3).bind fun b S4 =>
      if b = true then (evE C none elt ρ1 S4).bind fun y S5 => .ok (some y) S5 else .ok none S4
theorem lc_of {K : PySem.W.Frag} {C : Cf} {W : WX} {α1 : List Addr} {H1 : Hp} {S1 : Sto} {ρ : Env} {σ : St} {J : It} {its : Mp.Its} {tg : Tg} {elt : CE} {ifs : CEs} {Q : VK} (wk : WkD K α1 H1 J its) (hz : its.ds.length ≤ sizeLine) (st : St0 K none α1 H1 ρ σ S1)
    (p : PostR K α1 H1 ((lcL its.ck (fb C tg elt ifs ρ) its.ds S1).bind fun ds S2 => .ok (.ref S2.length) (S2 ++ [.lst ds])) (fun d _ α' H' => ∀ v, Rep K α' H' d v → Q v H') (XW K W σ)) (D : Addr) (hD : H1 D = none) :
    ∃ Wd : Nat → Nat → Hp → Prop, (∃ m, Wd 0 m (upd H1 D (.lst []))) ∧ ∀ i m H, Wd i m H →
      (J.stop i H ∧ Q (.ref D) H) ∨ (J.go i H ∧ ∃ Nx : Hp → Prop, (∀ H', Nx H' → ∃ m', m' < m ∧ Wd (i + 1) m' H') ∧ ∀ x H', J.yld i H x H' → gT K tg x (L2.wipe σ tg.ix) H' fun σ2 H2 => L2.wipe σ2 tg.ix = L2.wipe σ tg.ix ∧ tT K (fun c d _ H => W c d σ H) none (evIfs C none ifs) σ2 H2 fun b H3 =>
        if b = true then tE K (fun c d _ H => W c d σ H) none (evE C none elt) σ2 H3 fun y H4 => ∃ acc, H4 D = some (.lst acc) ∧ acc.length < sizeLine ∧ Nx (upd H4 D (.lst (acc ++ [y]))) else Nx H3) := by
  refine ⟨fun i m H => m = its.ds.length - i ∧ i ≤ its.ds.length ∧ ∃ α S acc vs, Le K α1 H1 α (del H D) ∧ SRep K α (del H D) S ∧ H D = some (.lst vs) ∧ RepL K α (del H D) acc vs ∧ acc.length ≤ i ∧
    PostR K α (del H D) ((lcL its.ck (fb C tg elt ifs ρ) (its.ds.drop i) S).bind fun rs S2 => .ok (.ref S2.length) (S2 ++ [.lst (acc ++ rs)])) (fun d _ α' H' => ∀ v, Rep K α' H' d v → Q v H') (XW K W σ), ?_, ?_⟩
  · have e : del (upd H1 D (.lst [])) D = H1 := by
      funext a
      by_cases z : a = D
      · rw [z, del_same, hD]
      · rw [del_ne z, upd_ne z]
    exact ⟨_, rfl, Nat.zero_le _, α1, S1, [], [], by rw [e]; exact Le.refl, by rw [e]; exact st.2.1, upd_same, by rw [e]; exact .nil, Nat.le_refl _, by rw [e]; exact p⟩
  · rintro i m H ⟨rfl, hi, α, S, acc, vs, l, s, hH, ra, hl, q⟩
    have hDn : D ∉ α := s.fresh del_same
    have ck : its.ck S := lcL_ck (ds := its.ds.drop i) (f := fb C tg elt ifs ρ) fun z => by rw [z] at q; exact q
    have lH : Le K α1 H1 α H := l.trans (backLe hH)
    have sH : SRep K α H S := backS s hH
    by_cases hlt : i < its.ds.length
    · refine .inr ⟨wk.go α H S i lH sH ck hlt, fun H' => its.ds.length - (i + 1) = its.ds.length - (i + 1) ∧ i + 1 ≤ its.ds.length ∧ ∃ α S acc vs, Le K α1 H1 α (del H' D) ∧ SRep K α (del H' D) S ∧ H' D = some (.lst vs) ∧ RepL K α (del H' D) acc vs ∧ acc.length ≤ i + 1 ∧
        PostR K α (del H' D) ((lcL its.ck (fb C tg elt ifs ρ) (its.ds.drop (i + 1)) S).bind fun rs S2 => .ok (.ref S2.length) (S2 ++ [.lst (acc ++ rs)])) (fun d _ α' H' => ∀ v, Rep K α' H' d v → Q v H') (XW K W σ), fun H' w => ⟨_, by omega, w⟩, fun x H' y => ?_⟩
      have hd : its.ds[i]? = some its.ds[i] := List.getElem?_eq_getElem hlt
      obtain ⟨l2, s2, rx⟩ := wk.yld α H S i x H' its.ds[i] lH sH ck hd y
      obtain ⟨hH', hDn'⟩ := l2.stays hDn hH
      -- the text of the turn
      rw [List.drop_eq_getElem_cons hlt, lcL_cons ck, Res.bind_assoc] at q
      have q := PostR.le q (delLe l2 hDn hH)
      unfold fb at q
      rw [Res.bind_assoc] at q
      cases ha : asgT tg its.ds[i] (Mp.wipe ρ tg.ix) with
      | none => rw [ha] at q; exact q.elim
      | some ρ1 =>
        rw [ha] at q
        have er : ERep K α H' (Mp.wipe ρ tg.ix) (L2.wipe σ tg.ix) := ((st.1.mono lH).mono l2).wipes tg.ix
        refine gt_of er rx ha fun σ2 er2 hw => ⟨by rw [hw _ (fun j hj => hj), wipe_wipe fun j hj => hj], ?_⟩
        have q := (show PostR K α (del H' D) (((evIfs C none ifs ρ1 S).bind fun b S4 => if b = true then (evE C none elt ρ1 S4).bind fun y S5 => .ok (some y) S5 else .ok none S4).bind _) _ _ from q)
        rw [Res.bind_assoc] at q
        refine ⟨α, ρ1, S, ⟨er2, s2, trivial⟩, (q.aside hDn' hH').imp (fun b S4 α4 H4 l4 s4 z => ?_) fun _ _ _ _ _ _ z => z⟩
        obtain ⟨hH4, hDn4, l4', sd4, q4⟩ := z
        have lA : Le K α (del H D) α4 (del H4 D) := (delLe l2 hDn hH).trans (delLe l4' hDn' hH')
        cases b with
        | false =>
          refine ⟨rfl, hlt, α4, S4, acc, vs, l.trans lA, sd4, hH4, ra.mono lA, Nat.le_succ_of_le hl, ?_⟩
          have q5 : PostR K α4 (del H4 D) (((lcL its.ck (fb C tg elt ifs ρ) (its.ds.drop (i + 1)) S4).bind fun rs S2 => .ok ((none : Option Mp.D).toList ++ rs) S2).bind fun rs S2 => .ok (Mp.D.ref S2.length) (S2 ++ [.lst (acc ++ rs)])) _ _ := q4
          rw [Res.bind_assoc] at q5
          exact q5
        | true =>
          have q5 : PostR K α4 (del H4 D) (((evE C none elt ρ1 S4).bind fun y S5 => .ok (some y) S5).bind _) _ _ := q4
          rw [Res.bind_assoc] at q5
          refine ⟨α4, ρ1, S4, ⟨er2.mono l4', s4, trivial⟩, (q5.aside hDn4 hH4).imp (fun y S5 α5 H5 l5 s5 z => fun v rv => ?_) fun _ _ _ _ _ _ z => z⟩
          obtain ⟨hH5, hDn5, l5', sd5, q6⟩ := z
          have lB : Le K α4 (del H4 D) α5 (del H5 D) := delLe l5' hDn4 hH4
          have e : del (upd H5 D (.lst (vs ++ [v]))) D = del H5 D := by
            funext a
            by_cases z : a = D
            · rw [z, del_same, del_same]
            · rw [del_ne z, del_ne z, upd_ne z]
          have hvl : vs.length ≤ i := by rw [← ra.length]; exact hl
          refine ⟨vs, hH5, Nat.lt_of_lt_of_le (Nat.lt_of_le_of_lt hvl hlt) hz, rfl, hlt, α5, S5, acc ++ [y], vs ++ [v], by rw [e]; exact (l.trans lA).trans lB, by rw [e]; exact sd5, upd_same, ?_, by rw [List.length_append]; exact Nat.succ_le_succ hl, ?_⟩
          · rw [e]
            exact ((ra.mono lA).mono lB).append (.cons (delRep hH5 _ _ rv) .nil)
          · rw [e]
            have q7 : PostR K α5 (del H5 D) (((lcL its.ck (fb C tg elt ifs ρ) (its.ds.drop (i + 1)) S5).bind fun rs S2 => .ok ((some y).toList ++ rs) S2).bind fun rs S2 => .ok (Mp.D.ref S2.length) (S2 ++ [.lst (acc ++ rs)])) _ _ := q6
            rw [Res.bind_assoc] at q7
            have e2 : ∀ rs : List Mp.D, acc ++ [y] ++ rs = acc ++ ((some y).toList ++ rs) := fun rs => by rw [List.append_assoc]; rfl
            simp only [e2]
            exact q7
    · have ei : i = its.ds.length := by omega
      subst ei
      refine .inl ⟨wk.stop α H S lH sH ck, ?_⟩
      rw [List.drop_eq_nil_of_le (Nat.le_refl _), lcL_nil ck] at q
      have lp : Le K α (del H D) (α ++ [D]) (upd (del H D) D (.lst vs)) := Le.push del_same hDn
      have sp : SRep K (α ++ [D]) (upd (del H D) D (.lst vs)) (S ++ [.lst acc]) := s.push del_same hDn ⟨vs, upd_same, ra.mono lp⟩
      rw [put_back hH] at lp sp
      have q := (show PostR K α (del H D) (.ok (.ref S.length) (S ++ [.lst (acc ++ [])])) (fun d _ α' H' => ∀ v, Rep K α' H' d v → Q v H') (XW K W σ) from q)
      rw [List.append_nil] at q
      exact q _ _ lp sp _ (ref_rep (by rw [← s.len, List.getElem?_append_right (Nat.le_refl _), Nat.sub_self]; rfl))

section
variable {T : Tab} {pg : Prg} {k : Nat} {N : List Str} {sc : Scope} {pos : Pos}
theorem At.blk {X : Cx} {W : WX} (A : At T pg k N sc none X W) {σ : St} {s : Shared} {H : Hp} {C : Addr} {cl : List (Str × Addr)} {fp : List Addr} {scope : Scope} {xe : Value → Shared → Prop} (tl : TakesL (blkX X s H scope (compEnvC scope cl C X.env) fp xe) (fun c d _ H => W c d σ H)) :
    At T pg k N (relS scope sc) none (blkX X s H scope (compEnvC scope cl C X.env) fp xe) (fun c d _ H => W c d σ H) := by
  refine ⟨A.n, ?_, A.lnk, fun σ' => tl.at σ', fun _ => A.calm rfl, fun _ => tl, A.nd, A.un, nofun⟩
  show relS scope X.env.scope = _
  rw [A.scp]
/-- a comprehension's tests -/
inductive SIf (T : Tab) (pg : Prg) (k : Nat) (N : List Str) (sc : Scope) : CEs → List Expr → Prop
  | nil : SIf T pg k N sc .nil []
  | one {c : CE} {e : Expr} (h : ST T pg k N sc none c e) : SIf T pg k N sc (.cons c .nil) [e]
theorem SIf.pts {ifs : CEs} {es : List Expr} (h : SIf T pg k N sc ifs es) {X : Cx} {W : WX} (A : At T pg k N sc none X W) : PTs X es (tT X.K W none (evIfs (lev pg k) none ifs)) := by
  cases h with
  | nil => exact ⟨fun pins s σ H Q I ⟨α, ρ, S, st, p⟩ => pts_nil.run pins s σ H Q I (by rw [evIfs_nil] at p; exact p.now st.2.1)⟩
  | @one c e h =>
    refine ⟨fun pins s σ H Q I ⟨α, ρ, S, st, p⟩ => (pts_one (h X W A)).run pins s σ H Q I ⟨α, ρ, S, st, ?_⟩⟩
    rw [evIfs_cons, ← Res.bind_assoc] at p
    have e : ((tst (lev pg k) (cuOf none) c ρ S).bind fun (k' : Bool) S2 => if k' = true then evIfs (lev pg k) none .nil ρ S2 else .ok false S2) = tst (lev pg k) (cuOf none) c ρ S := by
      cases tst (lev pg k) (cuOf none) c ρ S with
      | ok b S' => cases b <;> first | rfl | (show evIfs _ _ _ _ _ = _; rw [evIfs_nil])
      | exn x S' => rfl
      | stuck => rfl
    exact e ▸ p
def foldOk : Expr → Bool
  | .Set .. => false
  | _ => true
theorem fold_of {e : Expr} {env : PySem.Env} (h : foldOk e = true) (x : Value) : foldedSetIterable e env x = pure x := by
  cases e <;> first | rfl | exact absurd h Bool.false_ne_true
theorem se_lc {elt : CE} {tg : Tg} {it : CI} {ifs : CEs} {eE tgE iE : Expr} {ifE : List Expr} {scope : Scope} (hI : SI T pg k N sc none it tgE iE) (hT : tgB false N (relS scope sc) tg tgE = true) (hB : blkC N sc scope (tgOwn tg tgE) = true) (hE : SE T pg k N (relS scope sc) none elt eE) (hF : SIf T pg k N (relS scope sc) ifs ifE) (hf : foldOk iE = true) :
    SE T pg k N sc none (.lc elt tg it ifs) (.ListComp eE [⟨tgE, iE, ifE, 0⟩] scope pos) := fun X W A => by
  have own := own_ix hT
  refine PE.weak (pe_lcx (W := W) (wi := tI X.K W none (evI (lev pg k) none it)) (g := gT X.K tg) (tt := fun σ => tT X.K (fun c d _ H => W c d σ H) none (evIfs (lev pg k) none ifs)) (te := fun σ => tE X.K (fun c d _ H => W c d σ H) none (evE (lev pg k) none elt)) (A.calm rfl).1 A.nd (A.tl rfl) (hI X W A) (blkOk_by (own := tgOwn tg tgE) (by rw [A.n, A.scp]; exact hB))
    (fun s H C cl fp xe => pg_of (b := false) (X := blkX X s H scope (compEnvC scope cl C X.env) fp xe) (A.calm rfl).1 A.n A.nd (by show relS scope X.env.scope = _; rw [A.scp]) (fun z => absurd z Bool.false_ne_true) hT) (fun σ s H C cl fp xe tl => hF.pts (A.blk tl)) (fun σ s H C cl fp xe tl => hE _ _ (A.blk tl)) (fold_of hf)) fun σ H Q ⟨α, ρ, S, st, p⟩ => ?_
  rw [evE_lc] at p
  show tI X.K W none (evI (lev pg k) none it) σ H _
  refine ⟨α, ρ, S, st, p.bind.imp (fun its S1 α1 H1 l1 s1 p1 J wk hz D hD => ?_) fun _ _ _ _ _ _ z => z⟩
  rw [own]
  exact lc_of wk hz (st.next l1 s1) p1 D hD
/-- y = [..], on one line -/
theorem swap_lc {elt : Expr} {gs : List Comprehension} {scope : Scope} {pos py : Pos} {y : Str} {l : Nat} {X : Cx} (I : X.env.scope.kind = .function) (hy : X.env.scope.names.lookup y = some .local) (hl : (py.line == pos.line) = true) (ha : (scope.names.any fun (n, k) => n == y && (k == .local || k == .cell)) = false) :
    swapsWith (.ListComp elt gs scope pos) (some (.Name y py)) l X.env = pure true := sw_true I hy hl ha
end
end Mp
end
section
set_option Elab.async false
set_option linter.all false
set_option maxRecDepth 100000
set_option maxHeartbeats 1000000
/-! MpStm: statements. -/
namespace Mp
open PySem L2
/-- what is wished of a statement's ends -/
structure EndsD where
  nx : Env → Sto → List Addr → Hp → Prop
  rt : D → Sto → List Addr → Hp → Prop
  bk : Env → Sto → List Addr → Hp → Prop
  ct : Env → Sto → List Addr → Hp → Prop
  ex : Ex → Env → Sto → List Addr → Hp → Prop
def PostF (K : PySem.W.Frag) (α : List Addr) (H : Hp) (r : Fl) (E : EndsD) : Prop := match r with
  | .nx ρ S => ∀ α' H', Le K α H α' H' → SRep K α' H' S → E.nx ρ S α' H'
  | .rt d S => ∀ α' H', Le K α H α' H' → SRep K α' H' S → E.rt d S α' H'
  | .bk ρ S => ∀ α' H', Le K α H α' H' → SRep K α' H' S → E.bk ρ S α' H'
  | .ct ρ S => ∀ α' H', Le K α H α' H' → SRep K α' H' S → E.ct ρ S α' H'
  | .exn x ρ S => ∀ α' H', Le K α H α' H' → SRep K α' H' S → E.ex x ρ S α' H'
  | .stuck => False
section
variable {K : PySem.W.Frag} {α α' : List Addr} {H H' : Hp} {r : Fl} {E E' : EndsD} {S : Sto} {ρ : Env}
theorem PostF.le (h : PostF K α H r E) (l : Le K α H α' H') : PostF K α' H' r E := by
  cases r <;> first | exact fun a b m s => h a b (l.trans m) s | exact h
theorem PostF.imp (h : PostF K α H r E) (h1 : ∀ ρ S α' H', Le K α H α' H' → SRep K α' H' S → E.nx ρ S α' H' → E'.nx ρ S α' H') (h2 : ∀ ρ S α' H', Le K α H α' H' → SRep K α' H' S → E.rt ρ S α' H' → E'.rt ρ S α' H')
    (h3 : ∀ ρ S α' H', Le K α H α' H' → SRep K α' H' S → E.bk ρ S α' H' → E'.bk ρ S α' H') (h4 : ∀ ρ S α' H', Le K α H α' H' → SRep K α' H' S → E.ct ρ S α' H' → E'.ct ρ S α' H') (h5 : ∀ x ρ S α' H', Le K α H α' H' → SRep K α' H' S → E.ex x ρ S α' H' → E'.ex x ρ S α' H') : PostF K α H r E' := by
  cases r with
  | nx ρ S => exact fun a b m s => h1 _ _ _ _ m s (h a b m s)
  | rt ρ S => exact fun a b m s => h2 _ _ _ _ m s (h a b m s)
  | bk ρ S => exact fun a b m s => h3 _ _ _ _ m s (h a b m s)
  | ct ρ S => exact fun a b m s => h4 _ _ _ _ m s (h a b m s)
  | exn x ρ S => exact fun a b m s => h5 _ _ _ _ _ m s (h a b m s)
  | stuck => exact h
theorem PostF.nxt (h : PostF K α H (.nx ρ S) E) (s : SRep K α H S) : E.nx ρ S α H := h α H Le.refl s
theorem PostF.thn {f : Env → Sto → Fl} (h : PostF K α H (r.then_ f) E) : PostF K α H r { E with nx := fun ρ S α' H' => PostF K α' H' (f ρ S) E } := by
  cases r with
  | nx ρ S => exact fun a b m s => PostF.le h m
  | _ => exact h
theorem PostF.fl {β : Type} {q : Res β} {f : β → Sto → Fl} (h : PostF K α H (q.fl ρ f) E) : PostR K α H q (fun b S α' H' => PostF K α' H' (f b S) E) (fun x S α' H' => E.ex x ρ S α' H') := by
  cases q with
  | ok b S => exact fun a b' m s => PostF.le h m
  | exn x S => exact h
  | stuck => exact h
theorem PostF.turn {f : Env → Sto → Fl} (h : PostF K α H (r.turn f) E) : PostF K α H r { E with nx := fun ρ S α' H' => PostF K α' H' (f ρ S) E, ct := fun ρ S α' H' => PostF K α' H' (f ρ S) E, bk := E.nx } := by
  cases r with
  | nx ρ S => exact fun a b m s => PostF.le h m
  | ct ρ S => exact fun a b m s => PostF.le h m
  | _ => exact h
end
/-- where a statement stands -/
structure AtS (T : Tab) (pg : Prg) (k : Nat) (N : List Str) (sc : Scope) (hi : Option Hot) (X : Cx) (W : WX) : Prop extends At T pg k N sc hi X W where
  fnl : ∀ x, X.fn x = true
  po : PassesOwn (model X.prog X.w) X.A X.env X.xe
  tk : hi = none → Takes X W
  stk : X.stack = X.env :: X.outer
  frm : X.env.frame = some X.env.locals
/-- the slots, as a body holds them -/
def Hld (K : PySem.W.Frag) (hi : Option Hot) (α : List Addr) (H : Hp) (ρ : Env) (σ : St) : Prop := ERep K α H ρ σ ∧ CurR K hi α H σ
def endsOf (K : PySem.W.Frag) (W : WX) (hi : Option Hot) (D : Ends) : EndsD where
  nx := fun ρ _ α H => ∀ σ, Hld K hi α H ρ σ → D.nx σ H
  rt := fun d _ α H => ∀ v, Rep K α H d v → D.rt v H
  bk := fun ρ _ α H => ∀ σ, Hld K hi α H ρ σ → D.bk σ H
  ct := fun ρ _ α H => ∀ σ, Hld K hi α H ρ σ → D.ct σ H
  ex := fun x ρ _ α H => ∀ σ, Hld K hi α H ρ σ → ∀ cls d, XRep K α H x cls d → W cls d σ H
def tS (K : PySem.W.Frag) (W : WX) (hi : Option Hot) (f : Env → Sto → Fl) : TS := fun D σ H => ∃ α ρ S, St0 K hi α H ρ σ S ∧ PostF K α H (f ρ S) (endsOf K W hi D)
theorem PS.weak {X : Cx} {s : Stmt} {t t' : TS} (h : PS X s t) (w : ∀ D σ H, t' D σ H → t D σ H) : PS X s t' := ⟨fun pins s σ H D I q => h.run pins s σ H D I (w D σ H q)⟩
theorem PSs.weak {X : Cx} {s : List Stmt} {t t' : TS} (h : PSs X s t) (w : ∀ D σ H, t' D σ H → t D σ H) : PSs X s t' := ⟨fun pins s σ H D I q => h.run pins s σ H D I (w D σ H q)⟩
section
variable (T : Tab) (pg : Prg) (k : Nat) (N : List Str) (sc : Scope) (hi : Option Hot)
def SS (c : CS) (s : Stmt) : Prop := ∀ X W, AtS T pg k N sc hi X W → PS X s (tS X.K W hi (evS (lev pg k) (cuOf hi) c))
def SSs (c : CSs) (s : List Stmt) : Prop := ∀ X W, AtS T pg k N sc hi X W → PSs X s (tS X.K W hi (evSs (lev pg k) (cuOf hi) c))
end
section
variable {T : Tab} {pg : Prg} {k : Nat} {N : List Str} {sc : Scope} {hi : Option Hot} {pos : Pos}
theorem St0.hld {K : PySem.W.Frag} {α : List Addr} {H : Hp} {ρ : Env} {σ : St} {S : Sto} (st : St0 K hi α H ρ σ S) : Hld K hi α H ρ σ := ⟨st.1, st.2.2⟩
/-- a statement's expression is asked -/
theorem tE.fst {K : PySem.W.Frag} {W : WX} {f : Env → Sto → Res D} {ρ : Env} {σ : St} {α : List Addr} {H : Hp} {S : Sto} {g : D → Sto → Fl} {Ds : Ends} {Q : VK} (st : St0 K hi α H ρ σ S) (p : PostF K α H ((f ρ S).fl ρ g) (endsOf K W hi Ds))
    (q : ∀ d S' α' H' v, Le K α H α' H' → St0 K hi α' H' ρ σ S' → Rep K α' H' d v → PostF K α' H' (g d S') (endsOf K W hi Ds) → Q v H') : tE K W hi f σ H Q :=
  ⟨α, ρ, S, st, p.fl.imp (fun d S' α' H' l s z v r => q d S' α' H' v l (st.next l s) r z) fun x S' α' H' l s z cls d xr => z σ ⟨st.1.mono l, st.2.2.mono l⟩ cls d xr⟩
theorem tT.fst {K : PySem.W.Frag} {W : WX} {f : Env → Sto → Res Bool} {ρ : Env} {σ : St} {α : List Addr} {H : Hp} {S : Sto} {g : Bool → Sto → Fl} {Ds : Ends} {Q : Bool → Hp → Prop} (st : St0 K hi α H ρ σ S) (p : PostF K α H ((f ρ S).fl ρ g) (endsOf K W hi Ds))
    (q : ∀ d S' α' H', Le K α H α' H' → St0 K hi α' H' ρ σ S' → PostF K α' H' (g d S') (endsOf K W hi Ds) → Q d H') : tT K W hi f σ H Q :=
  ⟨α, ρ, S, st, p.fl.imp (fun d S' α' H' l s z => q d S' α' H' l (st.next l s) z) fun x S' α' H' l s z cls d xr => z σ ⟨st.1.mono l, st.2.2.mono l⟩ cls d xr⟩
theorem sss_nil : SSs T pg k N sc hi .nil [] := fun X W A => PSs.weak pss_nil fun D σ H ⟨α, ρ, S, st, p⟩ => by
  rw [evSs_nil] at p
  exact p.nxt st.2.1 σ st.hld
theorem sss_cons {c : CS} {cs : CSs} {s : Stmt} {ss : List Stmt} (h1 : SS T pg k N sc hi c s) (h2 : SSs T pg k N sc hi cs ss) : SSs T pg k N sc hi (.cons c cs) (s :: ss) := fun X W A =>
  PSs.weak (pss_cons (h1 X W A) (h2 X W A)) fun D σ H ⟨α, ρ, S, st, p⟩ => by
    rw [evSs_cons] at p
    refine ⟨α, ρ, S, st, p.thn.imp (fun ρ' S' α' H' l s z σ' hd => ?_) (fun _ _ _ _ _ _ z => z) (fun _ _ _ _ _ _ z => z) (fun _ _ _ _ _ _ z => z) fun _ _ _ _ _ _ _ z => z⟩
    exact ⟨α', ρ', S', ⟨hd.1, s, hd.2⟩, z⟩
/-- a docstring is no part of the core -/
theorem sss_doc {cs : CSs} {x : Str} {j : Nat} {p : Pos} {ss : List Stmt} (h2 : SSs T pg k N sc hi cs ss) : SSs T pg k N sc hi cs (.Expr (.Constant (.str x) j p) pos :: ss) := fun X W A =>
  PSs.weak (pss_cons ps_doc (h2 X W A)) fun D σ H h => h
theorem ss_pass : SS T pg k N sc hi .pass (.Pass pos) := fun X W A => PS.weak ps_pass fun D σ H ⟨α, ρ, S, st, p⟩ => by
  rw [evS_pass] at p
  exact p.nxt st.2.1 σ st.hld
theorem ss_brk : SS T pg k N sc hi .brk (.Break pos) := fun X W A => PS.weak ps_break fun D σ H ⟨α, ρ, S, st, p⟩ => by
  rw [evS_brk] at p
  exact p α H Le.refl st.2.1 σ st.hld
theorem ss_cont : SS T pg k N sc hi .cont (.Continue pos) := fun X W A => PS.weak ps_continue fun D σ H ⟨α, ρ, S, st, p⟩ => by
  rw [evS_cont] at p
  exact p α H Le.refl st.2.1 σ st.hld
theorem ss_retN : SS T pg k N sc hi .retN (.Return none pos) := fun X W A => PS.weak ps_retN fun D σ H ⟨α, ρ, S, st, p⟩ => by
  rw [evS_retN] at p
  exact p α H Le.refl st.2.1 .non non_rep
theorem ss_ret {a : CE} {e : Expr} (h : SE T pg k N sc hi a e) : SS T pg k N sc hi (.ret a) (.Return (some e) pos) := fun X W A => PS.weak (ps_ret (h X W A.toAt)) fun D σ H ⟨α, ρ, S, st, p⟩ => by
  rw [evS_ret] at p
  exact tE.fst st p fun d S1 α1 H1 v l1 st1 r1 p1 => p1 α1 H1 Le.refl st1.2.1 v r1
def noComp : Expr → Bool
  | .ListComp .. => false
  | .SetComp .. => false
  | .DictComp .. => false
  | _ => true
theorem swap_no {e : Expr} {t : Option Expr} {l : Nat} {env : PySem.Env} (h : noComp e = true) : swapsWith e t l env = pure false := by
  cases e <;> first | rfl | exact absurd h Bool.false_ne_true
theorem ss_expr {a : CE} {e : Expr} (h : SE T pg k N sc hi a e) (hn : noComp e = true) : SS T pg k N sc hi (.expr a) (.Expr e pos) := fun X W A => PS.weak (ps_expr (h X W A.toAt) (swap_no hn)) fun D σ H ⟨α, ρ, S, st, p⟩ => by
  rw [evS_expr] at p
  exact tE.fst st p fun d S1 α1 H1 v l1 st1 r1 p1 => p1.nxt st1.2.1 σ st1.hld
theorem ss_ite {c : CE} {a b : CSs} {e : Expr} {as bs : List Stmt} (hc : ST T pg k N sc hi c e) (ha : SSs T pg k N sc hi a as) (hb : SSs T pg k N sc hi b bs) : SS T pg k N sc hi (.ite c a b) (.If e as bs pos) := fun X W A =>
  PS.weak (ps_if (hc X W A.toAt) (ha X W A) (hb X W A)) fun D σ H ⟨α, ρ, S, st, p⟩ => by
    rw [evS_ite] at p
    refine tT.fst (f := tst (lev pg k) (cuOf hi) c) st p fun d S1 α1 H1 l1 st1 p1 => ?_
    cases d with
    | true => exact ⟨α1, ρ, S1, st1, p1⟩
    | false => exact ⟨α1, ρ, S1, st1, p1⟩

/-! ### stores -/
/-- a name that the held exception does not bear -/
def freeB (hb : Option (Option Nat)) (is : List Nat) : Bool := match hb with
  | some (some i) => !is.contains i
  | _ => true
theorem cur_set {K : PySem.W.Frag} {α : List Addr} {H : Hp} {σ : St} {i : Nat} {o : Option V} (c : CurR K hi α H σ) (h : freeB (hi.map (·.i)) [i] = true) : CurR K hi α H (σ.set i o) := by
  cases hi with
  | none => trivial
  | some h0 =>
    refine ⟨c.1, fun j hj => ?_⟩
    have h : freeB (some h0.i) [i] = true := h
    rw [hj] at h
    have ne : j ≠ i := by
      have z : (!([i] : List Nat).contains j) = true := h
      simpa using z
    rw [List.getElem?_set_ne (Ne.symm ne)]
    exact c.2 j hj
def solo : Expr → Bool
  | .Tuple .. => false
  | .List .. => false
  | _ => true
theorem stores_no {e t : Expr} {env : PySem.Env} (h : solo e = true ∨ solo t = true) : swappedStores [t] e env = pure none := by
  rcases h with h | h
  · cases e <;> first | (cases t <;> rfl) | exact absurd h Bool.false_ne_true
  · cases t <;> first | rfl | exact absurd h Bool.false_ne_true
theorem sole_no {e t : Expr} {l : Nat} {env : PySem.Env} (h : noComp e = true) : swapsWithSole [t] e l env = pure false := by
  cases e <;> first | rfl | exact absurd h Bool.false_ne_true
def isName : Expr → Bool
  | .Name .. => true
  | _ => false
/-- no store is exchanged: no comprehension, or the name is a cell -/
def swB (sc : Scope) (x : Str) (e : Expr) : Bool := noComp e || (match sc.names.lookup x with
  | some .cell => true
  | _ => false)
theorem sw_of {sc : Scope} {x : Str} {e : Expr} {p : Pos} {l : Nat} {env : PySem.Env} (hs : env.scope = sc) (h : swB sc x e = true) : swapsWithSole [.Name x p] e l env = pure false := by
  unfold swB at h
  rw [Bool.or_eq_true] at h
  rcases h with h | h
  · exact sole_no h
  · split at h
    · rename_i hk
      have hk2 : env.kindOf x = some .cell := by unfold PySem.Env.kindOf; rw [hs]; exact hk
      have e2 : ((some NameKind.cell : Option NameKind) == some NameKind.local) = false := rfl
      cases e <;> first | rfl | (unfold swapsWithSole swapsWith; simp only [hk2, e2, Bool.and_false, Bool.false_and])
    · cases h
theorem ss_asgN {i : Nat} {a : CE} {x : Str} {p : Pos} {e : Expr} (h : SE T pg k N sc hi a e) (hn : swB sc x e = true) (ht : tgB true N sc (.name i) (.Name x p) = true) (hf : freeB (hi.map (·.i)) [i] = true) : SS T pg k N sc hi (.asg (.name i) a) (.Assign [.Name x p] e pos) := fun X W A => by
  unfold tgB at ht
  rw [Bool.and_eq_true, decide_eq_true_eq] at ht
  obtain ⟨q1, q2⟩ := loc_of (X := X) A.scp (fun _ => A.fnl) ht.2
  refine PS.weak (ps_asg (h X W A.toAt) (pg_name A.nd (by rw [A.n]; exact ht.1) q1 q2) (sw_of A.scp hn) (stores_no (.inr rfl)) rfl) fun D σ H ⟨α, ρ, S, st, p⟩ => ?_
  rw [evS_asg] at p
  refine tE.fst st p fun d S1 α1 H1 v l1 st1 r1 p1 => ?_
  exact PostF.nxt (ρ := ρ.set i (some d)) p1 st1.2.1 _ ⟨st1.1.set r1 i, cur_set st1.2.2 hf⟩
theorem ss_asgT {is : List Nat} {a : CE} {es : List Expr} {kk : Nat} {p : Pos} {e : Expr} (hh : hi = none) (h : SE T pg k N sc hi a e) (hn : noComp e = true) (hs : solo e = true) (ht : tgB true N sc (.tup is) (.Tuple es kk p) = true) : SS T pg k N sc hi (.asg (.tup is) a) (.Assign [.Tuple es kk p] e pos) := fun X W A => by
  subst hh
  refine PS.weak (ps_asg (h X W A.toAt) (pg_of (X := X) (A.calm rfl).1 A.n A.nd A.scp (fun _ => A.fnl) ht) (sole_no hn) (stores_no (.inl hs)) rfl) fun D σ H ⟨α, ρ, S, st, p⟩ => ?_
  rw [evS_asg] at p
  refine tE.fst st p fun d S1 α1 H1 v l1 st1 r1 p1 => ?_
  cases ha : asgT (.tup is) d ρ with
  | none => rw [ha] at p1; exact p1.elim
  | some ρ1 =>
    rw [ha] at p1
    exact gt_of st1.1 r1 ha fun σ' er _ => PostF.nxt (ρ := ρ1) p1 st1.2.1 σ' ⟨er, trivial⟩
/-- a, b = x, y -/
theorem ss_par {i j : Nat} {x y : Str} {a b : CE} {e f : Expr} {px py pt pt2 : Pos} {kt k2 : Nat} (hh : hi = none) (ha : SA T pg k N sc hi (.cons a (.cons b .nil)) [e, f]) (h1 : N[i]? = some x) (h2 : N[j]? = some y) (hij : i ≠ j) (hx : sc.names.lookup x = some .local) (hy : sc.names.lookup y = some .local)
    (hw : ∀ env : PySem.Env, env.scope = sc → env.blockKind = .function → swappedStores [.Tuple [.Name x px, .Name y py] kt pt] (.Tuple [e, f] k2 pt2) env = pure (some [x, y])) (hk : sc.kind = .function) :
    SS T pg k N sc hi (.asg (.tup [i, j]) (.tup (.cons a (.cons b .nil)))) (.Assign [.Tuple [.Name x px, .Name y py] kt pt] (.Tuple [e, f] k2 pt2) pos) := fun X W A => by
  subst hh
  refine PS.weak (ps_par (X := X) (A.calm rfl).1 A.nd (by rw [A.n]; exact h1) (by rw [A.n]; exact h2) hij (by rw [A.scp]; exact hx) (by rw [A.scp]; exact hy) (ha X W A.toAt) (hw X.env A.scp (by unfold PySem.Env.blockKind; rw [A.scp, hk]; rfl)) rfl) fun D σ H ⟨α, ρ, S, st, p⟩ => ?_
  rw [evS_asg, evE_tup] at p
  have p := p.fl.bind
  refine ⟨α, ρ, S, st, ?_⟩
  cases q : evEs (lev pg k) none (.cons a (.cons b .nil)) ρ S with
  | ok ds S1 =>
    have p : PostR X.K α H (evEs (lev pg k) none (.cons a (.cons b .nil)) ρ S) _ _ := p
    rw [q] at p
    show PostR X.K α H (evEs (lev pg k) (cuOf none) (.cons a (.cons b .nil)) ρ S) _ _
    rw [show evEs (lev pg k) (cuOf none) (.cons a (.cons b .nil)) ρ S = .ok ds S1 from q]
    intro α1 H1 l1 s1 vs rv
    have hl := evEs_len q
    match ds, hl with
    | [d1, d2], _ =>
      obtain ⟨v, w, rfl, r1, r2⟩ := repL2 rv
      have p1 := p α1 H1 l1 s1
      have p2 : PostF X.K α1 H1 (.nx ((ρ.set i (some d1)).set j (some d2)) S1) (endsOf X.K W none D) := p1 α1 H1 Le.refl s1
      exact ⟨v, w, rfl, p2.nxt s1 _ ⟨((st.1.mono l1).set r1 i).set r2 j, trivial⟩⟩
  | exn x0 S1 =>
    have p : PostR X.K α H (evEs (lev pg k) none (.cons a (.cons b .nil)) ρ S) _ _ := p
    rw [q] at p
    show PostR X.K α H (evEs (lev pg k) (cuOf none) (.cons a (.cons b .nil)) ρ S) _ _
    rw [show evEs (lev pg k) (cuOf none) (.cons a (.cons b .nil)) ρ S = .exn x0 S1 from q]
    exact fun α1 H1 l1 s1 cls d xr => p α1 H1 l1 s1 σ ⟨st.1.mono l1, trivial⟩ cls d xr
  | stuck =>
    have p : PostR X.K α H (evEs (lev pg k) none (.cons a (.cons b .nil)) ρ S) _ _ := p
    rw [q] at p
    exact p.elim
/-- y = [..] on one line: the name a plain local -/
theorem ss_lc {i : Nat} {y : Str} {elt : CE} {tg : Tg} {it : CI} {ifs : CEs} {eE tgE iE : Expr} {ifE : List Expr} {scope : Scope} {py pc : Pos} (hI : SI T pg k N sc none it tgE iE) (hT : tgB false N (relS scope sc) tg tgE = true) (hB : blkC N sc scope (tgOwn tg tgE) = true) (hE : SE T pg k N (relS scope sc) none elt eE) (hF : SIf T pg k N (relS scope sc) ifs ifE) (hf : foldOk iE = true)
    (hy : N[i]? = some y) (hyl : sc.names.lookup y = some .local) (hk : sc.kind = .function) (hl : (py.line == pc.line) = true) (hno : (scope.names.any fun (n, k) => n == y && (k == .local || k == .cell)) = false) :
    SS T pg k N sc none (.asg (.name i) (.lc elt tg it ifs)) (.Assign [.Name y py] (.ListComp eE [⟨tgE, iE, ifE, 0⟩] scope pc) pos) := fun X W A => by
  have own := own_ix hT
  refine PS.weak (ps_lcx (W := W) (wi := tI X.K W none (evI (lev pg k) none it)) (g := gT X.K tg) (tt := fun σ => tT X.K (fun c d _ H => W c d σ H) none (evIfs (lev pg k) none ifs)) (te := fun σ => tE X.K (fun c d _ H => W c d σ H) none (evE (lev pg k) none elt)) (A.calm rfl).1 A.nd (A.tl rfl) (by rw [A.n]; exact hy) (by rw [A.scp]; exact hyl) (sw_true (by rw [A.scp]; exact hk) (by rw [A.scp]; exact hyl) hl hno) (hI X W A.toAt) (blkOk_by (own := tgOwn tg tgE) (by rw [A.n, A.scp]; exact hB))
    (fun s H C cl fp xe => pg_of (b := false) (X := blkX X s H scope (compEnvC scope cl C X.env) fp xe) (A.calm rfl).1 A.n A.nd (by show relS scope X.env.scope = _; rw [A.scp]) (fun z => absurd z Bool.false_ne_true) hT) (fun σ s H C cl fp xe tl => hF.pts (A.toAt.blk tl)) (fun σ s H C cl fp xe tl => hE _ _ (A.toAt.blk tl)) (fold_of hf)) fun D σ H ⟨α, ρ, S, st, p⟩ => ?_
  rw [evS_asg, evE_lc] at p
  have p := p.fl.bind
  show tI X.K W none (evI (lev pg k) none it) σ H _
  refine ⟨α, ρ, S, st, p.imp (fun its S1 α1 H1 l1 s1 p1 J wk hz D' hD => ?_) fun x S1 α1 H1 l1 s1 z cls d xr => z σ ⟨st.1.mono l1, trivial⟩ cls d xr⟩
  rw [own]
  refine lc_of (Q := fun x H1 => gName i x σ H1 D.nx) wk hz (st.next l1 s1) (p1.imp (fun d S2 α2 H2 l2 s2 z v rv => ?_) fun x S2 α2 H2 l2 s2 z cls d xr => z σ ⟨(st.1.mono l1).mono l2, trivial⟩ cls d xr) D' hD
  exact PostF.nxt (ρ := ρ.set i (some d)) z s2 _ ⟨((st.1.mono l1).mono l2).set rv i, trivial⟩

/-! ### augmented names -/
theorem aug_of {op : Operator} {x y d : D} (h : augD op x y = some d) : ∃ i j, x = .int i ∧ y = .int j ∧ ((op = .Add ∧ d = .int (i + j)) ∨ (op = .Sub ∧ d = .int (i - j))) := by
  unfold augD at h
  split at h
  · cases h; exact ⟨_, _, rfl, rfl, .inl ⟨rfl, rfl⟩⟩
  · cases h; exact ⟨_, _, rfl, rfl, .inr ⟨rfl, rfl⟩⟩
  · cases h
theorem ip_of {X : Cx} {op : Operator} : PIp X op (fun x y H Q => ∃ i j d, x = .int i ∧ y = .int j ∧ augD op (.int i) (.int j) = some (.int d) ∧ Q (.int d) H) := by
  rintro pins s σ H x y v u Q I r1 r2 ⟨i, j, d, e1, e2, e3, q⟩
  obtain ⟨i', j', h1, h2, h3⟩ := aug_of e3
  cases h1
  cases h2
  rcases h3 with ⟨rfl, e⟩ | ⟨rfl, e⟩
  · cases e; exact ip_add pins s σ H x y v u Q I r1 r2 ⟨i, j, e1, e2, q⟩
  · cases e; exact ip_sub pins s σ H x y v u Q I r1 r2 ⟨i, j, e1, e2, q⟩
theorem ss_aug {i : Nat} {op : Operator} {a : CE} {x : Str} {p : Pos} {e : Expr} (h : SE T pg k N sc hi a e) (ht : tgB true N sc (.name i) (.Name x p) = true) (hf : freeB (hi.map (·.i)) [i] = true) : SS T pg k N sc hi (.aug i op a) (.AugAssign (.Name x p) op e pos) := fun X W A => by
  unfold tgB at ht
  rw [Bool.and_eq_true, decide_eq_true_eq] at ht
  obtain ⟨q1, q2⟩ := loc_of (X := X) A.scp (fun _ => A.fnl) ht.2
  refine PS.weak (ps_aug A.nd (by rw [A.n]; exact ht.1) q1 (h X W A.toAt) ip_of q2) fun D σ H ⟨α, ρ, S, st, p⟩ => ?_
  rw [evS_aug] at p
  cases hx : getV ρ i with
  | none => rw [hx] at p; exact p.elim
  | some d0 =>
    rw [hx] at p
    obtain ⟨v0, e0, r0⟩ := st.1.get hx
    refine ⟨v0, e0, tE.fst st p fun d S1 α1 H1 v l1 st1 r1 p1 => ?_⟩
    cases hd : augD op d0 d with
    | none => rw [hd] at p1; exact p1.elim
    | some z =>
      rw [hd] at p1
      obtain ⟨i1, j1, rfl, rfl, hz⟩ := aug_of hd
      have hzi : ∃ w, z = .int w := by
        rcases hz with ⟨_, e⟩ | ⟨_, e⟩
        · exact ⟨_, e⟩
        · exact ⟨_, e⟩
      obtain ⟨w, rfl⟩ := hzi
      exact ⟨i1, j1, w, rep_int r0, rep_int r1, hd, PostF.nxt (ρ := ρ.set i (some (.int w))) p1 st1.2.1 _ ⟨st1.1.set int_rep i, cur_set st1.2.2 hf⟩⟩
end
end Mp
end
section
set_option Elab.async false
set_option linter.all false
set_option maxRecDepth 100000
set_option maxHeartbeats 1000000
/-! MpStm2: items and fields stored, loops. -/
namespace Mp
open PySem L2
section
variable {T : Tab} {pg : Prg} {k : Nat} {N : List Str} {sc : Scope} {hi : Option Hot} {pos : Pos}
/-- a later expression of a statement is asked -/
theorem set_at {x i d : D} {S S' : Sto} (h : setD x i d S = some S') : ∃ n k ds j, x = .ref n ∧ i = .int k ∧ S[n]? = some (.lst ds) ∧ ixN ds.length k = some j ∧ S' = S.set n (.lst (ds.set j d)) := by
  unfold setD at h
  split at h
  · rename_i n k
    split at h
    · rename_i ds e
      obtain ⟨j, e2, e3⟩ := omap h
      exact ⟨n, k, ds, j, rfl, rfl, e, e2, e3⟩
    · cases h
  · cases h
def subOk : Expr → Bool
  | .Slice .. => false
  | .Constant .. => true
  | .Name .. => true
  | .BinOp .. => true
  | .UnaryOp .. => true
  | .Subscript .. => true
  | .Attribute .. => true
  | .Call .. => true
  | _ => false
theorem swap_sub {e o x : Expr} {p : Pos} {l : Nat} {env : PySem.Env} : swapsWithSole [.Subscript o x p] e l env = pure false := by cases e <;> rfl
theorem swap_fld {e o : Expr} {f : Str} {p : Pos} {l : Nat} {env : PySem.Env} : swapsWith e (some (.Attribute o f p)) l env = pure false := by cases e <;> rfl
theorem ss_set {a i c : CE} {o x e : Expr} {p : Pos} (ha : SE T pg k N sc hi a o) (hx : SE T pg k N sc hi i x) (h : SE T pg k N sc hi c e) (ho : subOk x = true) :
    SS T pg k N sc hi (.set a i c) (.Assign [.Subscript o x p] e pos) := fun X W A => by
  refine PS.weak (ps_asg (h X W A.toAt) (pg_sub (ha X W A.toAt) (hx X W A.toAt) set_list (fun v => by cases x <;> first | rfl | exact absurd ho Bool.false_ne_true)) swap_sub (stores_no (.inr rfl)) rfl) fun D σ H ⟨α, ρ, S, st, p⟩ => ?_
  rw [evS_set] at p
  refine tE.fst st p fun d S1 α1 H1 v l1 st1 r1 p1 => ?_
  refine tE.fst st1 p1 fun x S2 α2 H2 u l2 st2 r2 p2 => ?_
  refine tE.fst st2 p2 fun y S3 α3 H3 w l3 st3 r3 p3 => ?_
  cases hs : setD x y d S3 with
  | none => rw [hs] at p3; exact p3.elim
  | some S4 =>
    rw [hs] at p3
    obtain ⟨n, k', ds, j, rfl, rfl, hS, hj, rfl⟩ := set_at hs
    obtain ⟨a, hα, rfl⟩ := rep_ref (r2.mono l3)
    cases rep_int r3
    obtain ⟨vs, hH, rl⟩ := lst_at st3.2.1 hα hS
    refine ⟨a, vs, k', j, rfl, rfl, hH, by rw [← rl.length]; exact hj, ?_⟩
    have l4 : Le X.K α3 H3 α3 (upd H3 a (.lst (vs.set j v))) := Le.write (List.mem_of_getElem? hα) hH (nolst rfl)
    have rd : Rep X.K α3 H3 d v := (r1.mono l2).mono l3
    have s4 : SRep X.K α3 (upd H3 a (.lst (vs.set j v))) (S3.set n (.lst (ds.set j d))) := st3.2.1.write hα hH (nolst rfl) ⟨_, upd_same, (RepL.set rd j rl).mono l4⟩
    exact p3 _ _ l4 s4 σ ⟨st3.1.mono l4, st3.2.2.mono l4⟩
theorem fldset_at {ok : Str → Str → Bool} {x d : D} {f : Str} {S S' : Sto} (h : setF ok x f d S = some S') : ∃ n c fs, x = .ref n ∧ S[n]? = some (.ins c fs) ∧ ok c f = true ∧ fs.length < 1000 ∧ S' = S.set n (.ins c (putL f d fs)) := by
  unfold setF at h
  split at h
  · rename_i n
    split at h
    · rename_i c fs e
      split at h
      · rename_i q
        cases h
        exact ⟨n, c, fs, rfl, e, q.1, q.2, rfl⟩
      · cases h
    · cases h
  · cases h
theorem noins {o : HO} {C dx : Addr} {fs : List (Str × V)} (h : o = .ins C dx fs) : ∀ ws, o ≠ .tup ws ∧ ∀ b w, o ≠ .frz b w := fun ws => by subst h; exact ⟨nofun, fun _ _ => nofun⟩
theorem ss_fld {a c : CE} {f : Str} {o e : Expr} {p : Pos} (ha : SE T pg k N sc hi a o) (h : SE T pg k N sc hi c e) : SS T pg k N sc hi (.fld a f c) (.Assign [.Attribute o f p] e pos) := fun X W A => by
  refine PS.weak (ps_fld (ha X W A.toAt) (h X W A.toAt) swap_fld) fun D σ H ⟨α, ρ, S, st, p⟩ => ?_
  rw [evS_fld] at p
  refine tE.fst st p fun d S1 α1 H1 v l1 st1 r1 p1 => ?_
  refine tE.fst st1 p1 fun x S2 α2 H2 u l2 st2 r2 p2 => ?_
  cases hs : setF (lev pg k).fok x f d S2 with
  | none => rw [hs] at p2; exact p2.elim
  | some S4 =>
    rw [hs] at p2
    obtain ⟨n, cn, fs, rfl, hS, ok, hl, rfl⟩ := fldset_at hs
    rw [lev_fok] at ok
    obtain ⟨cl, na⟩ := A.lnk.fok _ _ ok
    obtain ⟨a, hα, rfl⟩ := rep_ref r2
    obtain ⟨dx, vfs, hH, rf⟩ := ins_at st2.2.1 hα hS
    refine ⟨a, _, dx, vfs, rfl, hH, cl, na, by rw [← rf.length]; exact hl, ?_⟩
    have l4 : Le X.K α2 H2 α2 (upd H2 a (.ins (He.ga X.K cn) dx (putF f v vfs))) := Le.write (List.mem_of_getElem? hα) hH (noins rfl)
    have s4 : SRep X.K α2 (upd H2 a (.ins (He.ga X.K cn) dx (putF f v vfs))) (S2.set n (.ins cn (putL f d fs))) := st2.2.1.write hα hH (noins rfl) ⟨dx, _, upd_same, (RepF.put (r1.mono l2) rf).mono l4⟩
    exact p2 _ _ l4 s4 σ ⟨st2.1.mono l4, st2.2.2.mono l4⟩

/-! ### loops -/
theorem forL_nil {ck : Sto → Prop} {tg : Tg} {b : Env → Sto → Fl} {ρ : Env} {S : Sto} (h : ck S) : forL ck tg b [] ρ S = .nx ρ S := by unfold forL; exact if_pos h
theorem forL_cons {ck : Sto → Prop} {tg : Tg} {b : Env → Sto → Fl} {d : D} {ds : List D} {ρ : Env} {S : Sto} (h : ck S) : forL ck tg b (d :: ds) ρ S = enter (asgT tg d ρ) fun ρ1 => (b ρ1 S).turn fun ρ2 S2 => forL ck tg b ds ρ2 S2 := by rw [forL]; exact if_pos h
theorem forL_ck {ck : Sto → Prop} {tg : Tg} {b : Env → Sto → Fl} {ds : List D} {ρ : Env} {S : Sto} (h : forL ck tg b ds ρ S ≠ .stuck) : ck S := by
  cases ds with
  | nil =>
    unfold forL at h
    exact Classical.byContradiction fun q => h (if_neg q)
  | cons d ds =>
    rw [forL] at h
    exact Classical.byContradiction fun q => h (if_neg q)
/-- the turn's ends -/
theorem ends_turn {K : PySem.W.Frag} {W : WX} {Ds : Ends} {f : Env → Sto → Fl} {Nx : St → Hp → Prop} {α : List Addr} {H : Hp} {r : Fl} (p : PostF K α H (r.turn f) (endsOf K W none Ds))
    (q : ∀ ρ S α' H', Le K α H α' H' → SRep K α' H' S → PostF K α' H' (f ρ S) (endsOf K W none Ds) → ∀ σ, ERep K α' H' ρ σ → Nx σ H') : PostF K α H r (endsOf K W none { Ds with nx := Nx, ct := Nx, bk := Ds.nx }) :=
  p.turn.imp (fun ρ S a b l s z σ h => q ρ S a b l s z σ h.1) (fun _ _ _ _ _ _ z => z) (fun _ _ _ _ _ _ z => z) (fun ρ S a b l s z σ h => q ρ S a b l s z σ h.1) fun _ _ _ _ _ _ _ z => z
theorem ss_for {tg : Tg} {it : CI} {b : CSs} {tgE iE : Expr} {bs : List Stmt} (hI : SI T pg k N sc none it tgE iE) (hT : tgB true N sc tg tgE = true) (hb : SSs T pg k N sc none b bs) (hf : foldOk iE = true) : SS T pg k N sc none (.for_ tg it b) (.For tgE iE bs [] pos) := fun X W A => by
  refine PS.weak (ps_for (wi := tI X.K W none (evI (lev pg k) none it)) (g := gT X.K tg) A.po (A.calm rfl).1 (hI X W A.toAt) (pg_of (X := X) (A.calm rfl).1 A.n A.nd A.scp (fun _ => A.fnl) hT) (hb X W A) (fold_of hf)) fun Ds σ H ⟨α, ρ, S, st, p⟩ => ?_
  rw [evS_for] at p
  show tI X.K W none (evI (lev pg k) none it) σ H _
  refine ⟨α, ρ, S, st, p.fl.imp (fun its S1 α1 H1 l1 s1 p1 J wk hz => ?_) fun x S1 α1 H1 l1 s1 z cls d xr => z σ ⟨st.1.mono l1, trivial⟩ cls d xr⟩
  have p1 : PostF X.K α1 H1 (forL its.ck tg (fun ρ2 S2 => evSs (lev pg k) none b ρ2 S2) its.ds ρ S1) (endsOf X.K W none Ds) := p1
  refine ⟨fun i m σ H => m = its.ds.length - i ∧ i ≤ its.ds.length ∧ ∃ α ρ S, Le X.K α1 H1 α H ∧ SRep X.K α H S ∧ ERep X.K α H ρ σ ∧ PostF X.K α H (forL its.ck tg (fun ρ2 S2 => evSs (lev pg k) none b ρ2 S2) (its.ds.drop i) ρ S) (endsOf X.K W none Ds), ⟨_, rfl, Nat.zero_le _, α1, ρ, S1, Le.refl, s1, st.1.mono l1, p1⟩, ?_⟩
  rintro i m σ2 H2 ⟨rfl, hi, α2, ρ2, S2, l2, s2, er2, p2⟩
  have ck : its.ck S2 := forL_ck (ds := its.ds.drop i) (ρ := ρ2) (tg := tg) (b := fun ρ2 S2 => evSs (lev pg k) none b ρ2 S2) fun z => by rw [z] at p2; exact p2
  by_cases hlt : i < its.ds.length
  · refine .inr ⟨wk.go α2 H2 S2 i l2 s2 ck hlt, fun σ' H' => i + 1 ≤ its.ds.length ∧ ∃ α ρ S, Le X.K α1 H1 α H' ∧ SRep X.K α H' S ∧ ERep X.K α H' ρ σ' ∧ PostF X.K α H' (forL its.ck tg (fun ρ2 S2 => evSs (lev pg k) none b ρ2 S2) (its.ds.drop (i + 1)) ρ S) (endsOf X.K W none Ds), fun σ' H' w => ⟨its.ds.length - (i + 1), by omega, rfl, w.1, w.2⟩, fun x H' y => ?_⟩
    have hd : its.ds[i]? = some its.ds[i] := List.getElem?_eq_getElem hlt
    obtain ⟨l3, s3, rx⟩ := wk.yld α2 H2 S2 i x H' its.ds[i] l2 s2 ck hd y
    rw [List.drop_eq_getElem_cons hlt, forL_cons ck] at p2
    cases ha : asgT tg its.ds[i] ρ2 with
    | none => rw [ha] at p2; exact p2.elim
    | some ρ3 =>
      rw [ha] at p2
      have p3 := PostF.le p2 l3
      refine gt_of (er2.mono l3) rx ha fun σ3 er3 _ => ⟨α2, ρ3, S2, ⟨er3, s3, trivial⟩, ends_turn p3 fun ρ4 S4 α4 H4 l4 s4 z σ4 er4 => ?_⟩
      exact ⟨hlt, α4, ρ4, S4, (l2.trans l3).trans l4, s4, er4, z⟩
  · have ei : i = its.ds.length := by omega
    subst ei
    rw [List.drop_eq_nil_of_le (Nat.le_refl _), forL_nil ck] at p2
    exact .inl ⟨wk.stop α2 H2 S2 l2 s2 ck, p2.nxt s2 σ2 ⟨er2, trivial⟩⟩
theorem ss_while {c : CE} {b : CSs} {e : Expr} {bs : List Stmt} (hc : ST T pg k N sc none c e) (hb : SSs T pg k N sc none b bs) : SS T pg k N sc none (.while_ c b) (.While e bs [] pos) := fun X W A => by
  refine PS.weak (ps_while A.po (hc X W A.toAt) (hb X W A)) fun Ds σ H ⟨α, ρ, S, st, p⟩ => ?_
  rw [evS_while] at p
  refine ⟨fun m σ H => ∃ α ρ S, St0 X.K none α H ρ σ S ∧ PostF X.K α H (whL (tst (lev pg k) none c) (fun ρ2 S2 => evSs (lev pg k) none b ρ2 S2) m ρ S) (endsOf X.K W none Ds), ⟨wFuel, α, ρ, S, st, p⟩, ?_⟩
  rintro m σ2 H2 ⟨α2, ρ2, S2, st2, p2⟩
  cases m with
  | zero => exact p2.elim
  | succ m =>
    rw [whL] at p2
    refine tT.fst (f := tst (lev pg k) (cuOf none) c) st2 p2 fun d S3 α3 H3 l3 st3 p3 => ?_
    cases d with
    | false => exact PostF.nxt (ρ := ρ2) p3 st3.2.1 σ2 st3.hld
    | true =>
      have p3 : PostF X.K α3 H3 ((evSs (lev pg k) none b ρ2 S3).turn fun ρ2 S2 => whL (tst (lev pg k) none c) (fun ρ2 S2 => evSs (lev pg k) none b ρ2 S2) m ρ2 S2) (endsOf X.K W none Ds) := p3
      refine ⟨fun σ' H' => ∃ α ρ S, St0 X.K none α H' ρ σ' S ∧ PostF X.K α H' (whL (tst (lev pg k) none c) (fun ρ2 S2 => evSs (lev pg k) none b ρ2 S2) m ρ S) (endsOf X.K W none Ds), fun σ' H' w => ⟨m, Nat.lt_succ_self m, w⟩, α3, ρ2, S3, st3, ends_turn p3 fun ρ4 S4 α4 H4 l4 s4 z σ4 er4 => ⟨α4, ρ4, S4, ⟨er4, s4, trivial⟩, z⟩⟩
end
end Mp
end
section
set_option Elab.async false
set_option linter.all false
set_option maxRecDepth 100000
set_option maxHeartbeats 1000000
/-! MpRaise: raise. -/
namespace Mp
open PySem L2
section
variable {T : Tab} {pg : Prg} {k : Nat} {N : List Str} {sc : Scope} {pos : Pos}
theorem tA.fst {K : PySem.W.Frag} {W : WX} {C : Cf} {cu : Option Ex} {hi : Option Hot} {cs : CEs} {ρ : Env} {σ : St} {α : List Addr} {H : Hp} {S : Sto} {g : List D → Sto → Fl} {Ds : Ends} {Q : List V → Hp → Prop} (st : St0 K hi α H ρ σ S) (p : PostF K α H ((evEs C cu cs ρ S).fl ρ g) (endsOf K W hi Ds))
    (q : ∀ d S' α' H' v, Le K α H α' H' → St0 K hi α' H' ρ σ S' → RepL K α' H' d v → d.length = cs.len → PostF K α' H' (g d S') (endsOf K W hi Ds) → Q v H') : tA K W hi (evEs C cu cs) σ H Q := by
  refine ⟨α, ρ, S, st, ?_⟩
  cases e : evEs C cu cs ρ S with
  | ok d S1 =>
    rw [e] at p
    exact fun α' H' l s v r => q d S1 α' H' v l (st.next l s) r (evEs_len e) (PostF.le p l)
  | exn x S1 =>
    rw [e] at p
    exact fun α' H' l s cls d xr => p α' H' l s σ ⟨st.1.mono l, st.2.2.mono l⟩ cls d xr
  | stuck => rw [e] at p; exact p
theorem ss_raise0 {c m : Str} {j : Nat} {p p2 p3 : Pos} (g : glB sc c = true) (hc : c ∈ T.exc0) : SS T pg k N sc none (.raise c (.cons (.str m) .nil)) (.Raise (some (.Call (.Name c p) [.Constant (.str m) j p2] [] p3)) none pos) := fun X W A => by
  obtain ⟨g1, g2, g3⟩ := A.toAt.gl g
  obtain ⟨⟨B, newId, initId, bmB, F, q⟩, hm, kp, h1, h2, hf⟩ := A.lnk.exc0 c hc
  refine PS.weak (ps_raise (A.calm rfl).1 (A.tk rfl) (pmk_own F q hm kp (raises_own h1 h2) g1 g2)) fun D σ H ⟨α, ρ, S, st, p⟩ => ?_
  rw [evS_raise, evEs_cons, evE_str] at p
  have p : PostF X.K α H (((evEs (lev pg k) (cuOf none) .nil ρ S).bind fun ds S2 => .ok (Mp.D.str m :: ds) S2).fl ρ fun ds S1 => exnO c ((lev pg k).exc c ds) ρ S1) (endsOf X.K W none D) := p
  rw [evEs_nil] at p
  have p : PostF X.K α H (exnO c ((lev pg k).exc c [.str m]) ρ S) (endsOf X.K W none D) := p
  cases hx : (lev pg k).exc c [.str m] with
  | none => rw [hx] at p; exact p.elim
  | some fs =>
    rw [hx] at p
    have e := hf _ _ (lev_exc hx).1
    subst e
    exact p α H Le.refl st.2.1 σ st.hld _ none ⟨rfl, .inl ⟨rfl, rfl⟩⟩
theorem flds_rep {K : PySem.W.Frag} {α : List Addr} {H : Hp} {ds : List D} {ws : List V} (r : RepL K α H ds ws) : ∀ l : List (Str × Nat), RepF K α H (fldsD ds l) (fldsV ws l)
  | [] => rfl
  | (f, i) :: l => by
    unfold fldsD fldsV
    rw [List.filterMap_cons, List.filterMap_cons]
    cases h : ds[i]? with
    | none =>
      have h2 : ws[i]? = none := by
        rw [List.getElem?_eq_none_iff] at h ⊢
        rw [← r.length]; exact h
      rw [show ((f, i) : Str × Nat).2 = i from rfl, h2]
      exact flds_rep r l
    | some d =>
      obtain ⟨v, hv, rv⟩ := r.get h
      rw [show ((f, i) : Str × Nat).2 = i from rfl, hv]
      exact ⟨v, _, rfl, rv, flds_rep r l⟩
theorem ss_raise1 {c : Str} {l : List (Str × Nat)} {a : CE} {cs : CEs} {e : Expr} {es : List Expr} {p' p2 : Pos} (g : glB sc c = true) (hc : (c, l) ∈ T.exc1) (hl : cs.len + 1 = l.length) (h : SA T pg k N sc none (.cons a cs) (e :: es)) (hs : (e :: es).all noStar = true) :
    SS T pg k N sc none (.raise c (.cons a cs)) (.Raise (some (.Call (.Name c p') (e :: es) [] p2)) none pos) := fun X W A => by
  obtain ⟨g1, g2, g3⟩ := A.toAt.gl g
  obtain ⟨ox, hm, hf, hl9, hne, fI, fd, ps, iC, tI, bd, F⟩ := A.lnk.exc1 c l hc
  rw [List.all_cons, Bool.and_eq_true] at hs
  have low : (∀ ds, (lev pg k).exc c ds = none) → PS X (.Raise (some (.Call (.Name c p') (e :: es) [] p2)) none pos) (tS X.K W none (evS (lev pg k) (cuOf none) (.raise c (.cons a cs)))) := fun hno => by
    refine ⟨fun pins s σ H D I ⟨α, ρ, S, st, p⟩ => ?_⟩
    rw [evS_raise] at p
    have pa := h X W A.toAt
    have pm : PMk X (.Call (.Name c p') (e :: es) [] p2) (fun σ H Q => tA X.K W none (evEs (lev pg k) none (.cons a cs)) σ H fun _ _ => False) := by
      intro pins s σ H Q I h0
      refine wpAny_Call_Name_kw (ld_glob I g1 hm ?_ g2)
      exact PySem.W.callWith_K (h₀ := X.base) I.ok.mod.kin ox.kC (thn (pa.run p2 pins s σ H _ I h0) fun us s1 ⟨vs, H1, I1, r1, z⟩ => z.elim) (star_of hs.1) (plain_of hs.2)
    exact (ps_raise (A.calm rfl).1 (A.tk rfl) pm).run pins s σ H D I (tA.fst st p fun ds S1 α1 H1 vs l1 st1 r1 hn p1 => by rw [hno] at p1; exact p1)
  have hx : Passes (L2.CX X.prog X.w) X (fun _ _ _ => False) := fun _ _ _ _ _ _ _ ⟨_, _, _, _, _, _, _, _, _, _, _, _, z⟩ => z.elim
  cases k with
  | zero => exact low fun ds => rfl
  | succ j =>
    cases j with
    | zero => exact low fun ds => rfl
    | succ j =>
      refine PS.weak (ps_raise (A.calm rfl).1 (A.tk rfl) (pmk_oex ox iC tI (F j) (A.calm rfl).2 bd .nil hx g1 hm (h X W A.toAt) g2 (star_of hs.1) (plain_of hs.2))) fun D σ H ⟨α, ρ, S, st, p⟩ => ?_
      rw [evS_raise] at p
      refine tA.fst st p fun ds S1 α1 H1 vs l1 st1 r1 hn p1 => ?_
      have hvl : vs.length = l.length := by rw [← r1.length, hn]; exact hl
      refine ⟨by omega, fun b hb => ⟨b, vs, by rw [List.append_nil], hvl, upd_same, fun H2 d hd hne2 e1 e2 e3 => ⟨rfl, d, fldsV vs l, e1, e2, ?_, ?_⟩⟩⟩
      · have z := hd
        rw [upd_ne hne2] at z
        exact z
      · have hd1 : H1 d = none := (upd_ne hne2).symm.trans hd
        cases hx : (lev pg (j + 1 + 1)).exc c ds with
        | none => rw [hx] at p1; exact p1.elim
        | some fs =>
          rw [hx] at p1
          have e := hf _ _ (lev_exc hx).1
          subst e
          have at_ : ∀ x, x ≠ d → x ≠ b → (upd (del H2 b) d (.xd (fldsV vs l))) x = H1 x := fun x h1 h2 => by
            rw [upd_ne h1, del_ne h2, e3 x h2 h1, upd_ne h2]
          have neOf : ∀ x o, H1 x = some o → x ≠ d ∧ x ≠ b := fun x o q => ⟨fun z => by (rw [z, hd1] at q; cases q), fun z => by (rw [z, hb] at q; cases q)⟩
          have keepA : ∀ x o, H1 x = some o → (upd (del H2 b) d (.xd (fldsV vs l))) x = some o := fun x o q => by
            rw [at_ x (neOf x o q).1 (neOf x o q).2]; exact q
          have lz : Le X.K α1 H1 α1 (upd (del H2 b) d (.xd (fldsV vs l))) := by
            refine ⟨⟨[], by simp, fun _ z => by simp at z⟩, fun x o q _ => keepA x o q, fun x q => ?_, fun x xs q => ?_, fun x xs q => ?_⟩
            · cases z : H1 x with
              | none => exact absurd z q
              | some o => rw [keepA x o z]; exact nofun
            · rcases q with q | q
              · rcases q with q | ⟨w, q⟩
                · exact .inl (.inl (keepA _ _ q))
                · exact .inl (.inr ⟨w, keepA _ _ q⟩)
              · exact .inr q
            · rcases q with ⟨w, q⟩ | q
              · exact .inl ⟨w, keepA _ _ q⟩
              · exact .inr q
          have sz : SRep X.K α1 (upd (del H2 b) d (.xd (fldsV vs l))) S1 := by
            refine ⟨st1.2.1.len, st1.2.1.nd, fun n o e => ?_⟩
            obtain ⟨a1, ea, r⟩ := st1.2.1.at_ n o e
            refine ⟨a1, ea, r.mono lz ?_⟩
            have hsome : ∃ o', H1 a1 = some o' := by
              cases o with
              | lst ds => obtain ⟨_, q, _⟩ := r; exact ⟨_, q⟩
              | ins c fs => obtain ⟨_, _, q, _⟩ := r; exact ⟨_, q⟩
            obtain ⟨o', q⟩ := hsome
            rw [keepA _ _ q, q]
          exact p1 _ _ lz sz σ ⟨st1.1.mono lz, trivial⟩ _ (some d) ⟨rfl, .inr ⟨d, _, rfl, upd_same, st1.2.1.fresh hd1, flds_rep (r1.mono lz) l⟩⟩
end
end Mp
end
section
set_option Elab.async false
set_option linter.all false
set_option maxRecDepth 100000
set_option maxHeartbeats 1000000
/-! MpTry: try with clauses that name their exception or do not. -/
namespace Mp
open PySem L2
/-- a clause's reading: the class, the name's slot, the suite -/
structure Cls0 where
  c : Value
  i : Option Nat
  ts : Addr → Value → Option Addr → TS
def goneD (i : Option Nat) (D : Ends) : Ends := match i with
  | none => D
  | some i => { nx := fun σ H => D.nx (σ.set i none) H, rt := D.rt, bk := fun σ H => D.bk (σ.set i none) H, ct := fun σ H => D.ct (σ.set i none) H }
def bornS (i : Option Nat) (a : Addr) (σ : St) : St := match i with
  | none => σ
  | some i => σ.set i (some (.ref a))
def wMix (K : PySem.W.Frag) (Wout : WX) (D : Ends) : List Cls0 → WX
  | [] => Wout
  | q :: r => fun cls d σ H => ∃ b, PySem.W.exmOne K cls q.c = some b ∧ (b = true → ∀ a, H a = none → q.ts a cls d (goneD q.i D) (bornS q.i a σ) H) ∧ (b = false → wMix K Wout D r cls d σ H)
/-- the name of a clause -/
inductive NmOk (X : Cx) : Option Str → Option Nat → Prop
  | none : NmOk X none none
  | some {i : Nat} {n : Str} (h : X.N[i]? = some n) (hl : X.env.kindOf n = some .local) : NmOk X (some n) (some i)
inductive HdsM (X : Cx) : List ExceptHandler → List Cls0 → Prop
  | nil : HdsM X [] []
  | cons {x : Str} {on : Option Str} {q : Cls0} {b₀ : Stmt} {suite : List Stmt} {np pos' : Pos} {hds : List ExceptHandler} {l : List Cls0} (hc : Names X x q.c) (hn : NmOk X on q.i)
      (hsu : ∀ (a : Addr) (oe : Obj) (cls : Value) (d : Option Addr) (pn : List (Addr × Obj)), Zc cls d oe → (∃ vs, oe.data = .fields vs) → PSs (X.suite a ((a, oe) :: pn)) (b₀ :: suite) (q.ts a cls d)) (r : HdsM X hds l) :
      HdsM X (.ExceptHandler (some (.Name x np)) on (b₀ :: suite) pos' :: hds) (q :: l)
section
variable {X : Cx} {body : List Stmt} {h₀ : ExceptHandler} {hds : List ExceptHandler} {l : List Cls0} {pos : Pos} {tb : WX → TS} {Wout : WX}
theorem SP.ofTr {D : Ends} {pins pn' : List (Addr × Obj)} {xe : Value → Shared → Prop} {f : Flow} {s : Shared} (ok : X.Ok) (h : SP (X.tr (X.pn ++ pins) xe) pn' D f s) : SP X pins D f s := by
  cases f with
  | ret u => obtain ⟨v, σ, H, I, r, q⟩ := h; exact ⟨v, σ, H, I.ofTry ok, r, q⟩
  | _ => obtain ⟨σ, H, I, q⟩ := h; exact ⟨σ, H, I.ofTry ok, q⟩
theorem SP.ofSuite {D : Ends} {pins pn' : List (Addr × Obj)} {a : Addr} {q : Addr × Obj} {f : Flow} {s : Shared} (ok : X.Ok) (h : SP (X.suite a (q :: (X.pn ++ pins))) pn' D f s) : SP X pins D f s := by
  cases f with
  | ret u => obtain ⟨v, σ, H, I, r, q⟩ := h; exact ⟨v, σ, H, I.unsuite ok, r, q⟩
  | _ => obtain ⟨σ, H, I, q⟩ := h; exact ⟨σ, H, I.unsuite ok, q⟩
theorem SP.gone {D : Ends} {pins pn' : List (Addr × Obj)} {a : Addr} {q : Addr × Obj} {f : Flow} {s : Shared} {i : Nat} {n : Str} {p : Pos} {E : Value → Shared → Prop} (ok : X.Ok) (hN : X.N.Nodup) (hi : X.N[i]? = some n) (hl : X.env.kindOf n = some .local) (h : SP (X.suite a (q :: (X.pn ++ pins))) pn' (goneD (some i) D) f s) :
    wpAny (model X.prog X.w) X.A (do bindName X.env n .none; unbindBehindTheSuite X.env n p) (fun _ s7 => SP X pins D f s7) E s := by
  cases f with
  | ret u => obtain ⟨v, σ, H, I, r, q⟩ := h; exact gone_ok (I.unsuite ok) hN hi hl fun s7 J => ⟨v, _, H, J, r, q⟩
  | _ => obtain ⟨σ, H, I, q⟩ := h; exact gone_ok (I.unsuite ok) hN hi hl fun s7 J => ⟨_, H, J, q⟩
theorem ps_try_mix (hs : X.stack = X.env :: X.outer) (hf : X.env.frame = some X.env.locals) (hN : X.N.Nodup) (tk : Takes X Wout)
    (hb : ∀ (W : WX) (pn : List (Addr × Obj)) (xe : Value → Shared → Prop), Takes (X.tr pn xe) W → PassesOwn (model X.prog X.w) X.A X.env xe → PSs (X.tr pn xe) body (tb W)) (hh : HdsM X (h₀ :: hds) l) :
    PS X (.Try body (h₀ :: hds) [] [] pos) (fun D σ H => tb (wMix X.K Wout D l) D σ H) := by
  refine ⟨fun pins s σ H D I h => wpAny_Try_except ?_⟩
  have ok := I.ok
  have hfr : X.A.frames = some (X.env :: X.outer) := by rw [ok.frames, hs]
  refine wpAny_mono ((hb (wMix X.K Wout D l) (X.pn ++ pins) (fun e s₁ => wpAny (model X.prog X.w) X.A (noteFrame e X.env) (fun _ s₂ => wpAny (model X.prog X.w) X.A (setFlight e none) (fun _ s₃ =>
    wpAny (model X.prog X.w) X.A (handleBy e X.env (h₀ :: hds)) (SP X pins D) X.xe s₃) X.xe s₂) X.xe s₁) (fun u s' xx => ?_) PassesOwn.looking).run [] s σ H D (I.toTry _) h) (fun f s1 q => ?_) (fun e s1 he => he)
  · obtain ⟨a, B, sI, pins', σ', H', cls, d, rfl, J', nb, up, sky, na, os, ag, w⟩ := xx
    have J : Inv X pins σ' H' sI := J'.ofTry ok
    have sky : Sky B (X.env :: X.outer) a (Zc cls d) X.env.locals s'.heap := by rw [← hs]; exact sky
    show wpAny (model X.prog X.w) X.A (noteFrame (.ref a) X.env) _ _ _
    refine Sky.land Zc.steady hfr hf sky fun h3 fl up3 => ?_
    have onGround : ∀ h', HandSPX.FlyingZ B (X.env :: X.outer) a (Zc cls d) h' → h3.UpToSlots h' → Inv X pins σ' H' { s' with heap := h' } := fun h' f u => J.landed nb f.1 ((up.trans up3).trans u) os ag
    have J3 := onGround h3 fl (Heap.UpToSlots.refl _)
    -- the exception's object is no frame
    have nfr : a ∉ frs (X.env :: X.outer) := fun hm => by
      obtain ⟨oe, vs, he, _, hd⟩ := fl.there
      obtain ⟨_, o', e', hnf⟩ := fl.2.2.1.mem hm
      rw [he] at e'
      cases e'
      exact hnf _ hd
    have nL : a ≠ X.env.locals := fun z => nfr (List.mem_filterMap.mpr ⟨X.env, List.mem_cons_self, by rw [hf, z]⟩)
    have nF : a ∉ X.fs := fun hm => by
      obtain ⟨e, he, q⟩ := List.mem_filterMap.mp hm
      exact nfr (List.mem_filterMap.mpr ⟨e, List.mem_cons_of_mem _ he, q⟩)
    have chain : ∀ {hs' : List ExceptHandler} {l' : List Cls0}, HdsM X hs' l' → wMix X.K Wout D l' cls d σ' H' → wpAny (model X.prog X.w) X.A (handleBy (.ref a) X.env hs') (SP X pins D) X.xe { s' with heap := h3 } := by
      intro hs' l' hk
      induction hk with
      | nil =>
        intro w
        refine wpAny_handleBy_nil ?_
        have fin : wpAny (model X.prog X.w) X.A (setFlight (.ref a) X.env.frame) (fun _ s4 => wpAny (model X.prog X.w) X.A (throw (.ref a) : Sem Flow) (SP X pins D) X.xe s4) X.xe { s' with heap := h3 } := by
          rw [hf]
          exact HandSPX.setFlight_upZ fl fun h4 hh4 up4 => wpAny_throw (tk _ _ ⟨a, B, sI, pins, σ', H', cls, d, rfl, J, nb, (up.trans up3).trans up4, .inr (.inr (by rw [hs]; exact hh4)), na, os, ag, w⟩)
        obtain ⟨_, _, _, oe, vs, T, _, _, he, _, hd, h1, _⟩ := id fl
        unfold PySem.passOn
        refine wpAny_bind (wpAny_field he hd h1 ?_)
        rw [if_neg (show ¬ ((Value.ref T == Value.none) = true) from by simp)]
        first
          | exact wpAny_bind (wpAny_pure (wpAny_bind fin))
          | exact wpAny_bind fin
      | @cons x on q b₀ suite np pos' hds2 l2 hc hn hsu r ih =>
        intro w
        obtain ⟨b, hb1, hyes, hno⟩ := w
        refine wpAny_handleBy_cons (codeAny_handlers_test ?_) (by intro q; cases q)
        obtain ⟨oe3, vs3, he3, hz3, hd3⟩ := fl.there
        have S3 := J3.suite he3 hd3 na nL nF
        have LM := PySem.W.exm_one (M := model X.prog X.w) J3.kIn (fun A Q E s k q => wpAny_typeOf_ref (k _ _ he3) (by rw [hz3.1]; exact q)) hb1
        have named : ∀ {Q : Value → Shared → Prop} {E : Value → Shared → Prop}, Q q.c { s' with heap := h3 } → wpAny (model X.prog X.w) (X.A.mark (some (.ref a))) (eval (.Name x np) X.env) Q E { s' with heap := h3 } := fun {Q E} z => by
          obtain ⟨hg, hdbg, hm | ⟨hm, hv, hnn⟩⟩ := hc
          · exact ld_glob (X := X.suite a ((a, oe3) :: (X.pn ++ pins))) S3 hg hm z hdbg
          · exact ld_blt (X := X.suite a ((a, oe3) :: (X.pn ++ pins))) S3 hg hm hv z hnn hdbg
        refine named (LM.here ?_)
        cases b with
        | false => exact ih (hno rfl)
        | true =>
          have hy := hyes rfl a na
          have again : ∀ h4, HandSPX.FlyingZ B (X.env :: X.outer) a (Zc cls d) h4 → h3.UpToSlots h4 → ∃ oe, Inv (X.suite a ((a, oe) :: (X.pn ++ pins))) [] σ' H' { s' with heap := h4 } ∧ Zc cls d oe ∧ ∃ vs, oe.data = .fields vs := fun h4 fl4 up4 => by
            obtain ⟨oe4, vs4, he4, hz4, hd4⟩ := fl4.there
            exact ⟨oe4, (onGround h4 fl4 up4).suite he4 hd4 na nL nF, hz4, vs4, hd4⟩
          obtain ⟨qc, qi, qts⟩ := q
          cases hn with
          | none =>
            refine codeAny_handlers_suite (HandSPX.lands_againZ fl fun h4 fl4 up4 => ?_)
            obtain ⟨oe4, S4, hz4, hd4⟩ := again h4 fl4 up4
            exact wpAny_mono ((hsu a oe4 cls d (X.pn ++ pins) hz4 hd4).run [] _ _ H' _ S4 hy) (fun f s6 z => SP.ofSuite ok z) (fun _ _ z => False.elim z)
          | @some i n hi hl =>
            refine codeAny_handlers_suite_as (HandSPX.lands_againZ fl fun h4 fl4 up4 => ?_)
            obtain ⟨oe4, S4, hz4, hd4⟩ := again h4 fl4 up4
            refine store_ok (X := X.suite a ((a, oe4) :: (X.pn ++ pins))) (v := .ref a) S4 hN hi (.inl hl) rfl (fun s5 S5 => ?_) (.inr hl)
            exact wpAny_mono ((hsu a oe4 cls d (X.pn ++ pins) hz4 hd4).run [] s5 _ H' _ S5 hy) (fun f s6 z => SP.gone ok hN hi hl z) (fun _ _ z => False.elim z)
    exact chain hh w
  · have q := SP.ofTr ok q
    cases f with
    | next => obtain ⟨σ', H', J', q⟩ := q; exact wpAny_execs_nil ⟨σ', H', J', q⟩
    | _ => exact q
end
end Mp
end
section
set_option Elab.async false
set_option linter.all false
set_option maxRecDepth 100000
set_option maxHeartbeats 1000000
/-! MpTry2: a core try. -/
namespace Mp
open PySem L2
section
variable {T : Tab} {pg : Prg} {k : Nat} {N : List Str} {sc : Scope} {pos : Pos}
theorem PostF.caught {K : PySem.W.Frag} {α : List Addr} {H : Hp} {r : Fl} {f : Ex → Env → Sto → Fl} {E : EndsD} (h : PostF K α H (r.catch_ f) E) : PostF K α H r { E with ex := fun x ρ S α' H' => PostF K α' H' (f x ρ S) E } := by
  cases r with
  | exn x ρ S => exact fun a b m s => PostF.le h m
  | _ => exact h
theorem PostF.ungone {K : PySem.W.Frag} {α : List Addr} {H : Hp} {r : Fl} {i : Option Nat} {E : EndsD} (h : PostF K α H (r.unset i) E) : PostF K α H r { nx := fun ρ S α' H' => E.nx (Mp.unset i ρ) S α' H', rt := E.rt, bk := fun ρ S α' H' => E.bk (Mp.unset i ρ) S α' H', ct := fun ρ S α' H' => E.ct (Mp.unset i ρ) S α' H', ex := fun _ _ _ _ _ => False } := by
  cases r <;> first | exact h | exact False.elim h
/-- in a try's body -/
theorem AtS.tr {X : Cx} {W W' : WX} (A : AtS T pg k N sc none X W) {pn : List (Addr × Obj)} {xe : Value → Shared → Prop} (tk : Takes (X.tr pn xe) W') (po : PassesOwn (model X.prog X.w) X.A X.env xe) : AtS T pg k N sc none (X.tr pn xe) W' :=
  have tl : TakesL (X.tr pn xe) W' := TakesL.of A.stk A.frm tk
  { n := A.n, scp := A.scp, lnk := A.lnk, pa := tl.at, calm := fun _ => A.calm rfl, tl := fun _ => tl, nd := A.nd, un := A.un, hot := nofun, fnl := A.fnl, po := po, tk := fun _ => tk, stk := A.stk, frm := A.frm }
theorem own_never {M : Model} {A : Around} {env : PySem.Env} : PassesOwn M A env (fun _ _ => False) := by
  intro e s h
  exact h.elim
/-- in a clause's suite -/
theorem AtS.suite {X : Cx} {W : WX} (A : AtS T pg k N sc none X W) {h : Hot} {oe : Obj} {pn : List (Addr × Obj)} (hz : Zc h.cls h.d oe) (hf : ∃ vs, oe.data = .fields vs) : AtS T pg k N sc (some h) (Cx.suite X h.a ((h.a, oe) :: pn)) (fun _ _ _ _ => False) :=
  { n := A.n, scp := A.scp, lnk := A.lnk, pa := fun σ _ _ _ _ _ _ ⟨_, _, _, _, _, _, _, _, _, _, _, _, z⟩ => z.elim, calm := nofun, tl := nofun, nd := A.nd, un := A.un, hot := fun h' e => by cases e; exact ⟨X, oe, pn, rfl, hz, hf⟩, fnl := A.fnl, po := own_never, tk := nofun, stk := A.stk, frm := A.frm }
inductive HsRel (T : Tab) (pg : Prg) (k : Nat) (N : List Str) (sc : Scope) : CHs → List ExceptHandler → Prop
  | nil : HsRel T pg k N sc .nil []
  | cons {c : Str} {i : Option Nat} {b : CSs} {r : CHs} {on : Option Str} {b₀ : Stmt} {suite : List Stmt} {np pos' : Pos} {hds : List ExceptHandler} (g : glB sc c = true) (hc : c ∈ T.excs)
      (hn : (on = none ∧ i = none) ∨ ∃ j n, on = some n ∧ i = some j ∧ N[j]? = some n ∧ sc.names.lookup n = some .local) (hs : ∀ h : Hot, h.i = i → SSs T pg k N sc (some h) b (b₀ :: suite)) (t : HsRel T pg k N sc r hds) :
      HsRel T pg k N sc (.cons c i b r) (.ExceptHandler (some (.Name c np)) on (b₀ :: suite) pos' :: hds)
noncomputable def clsL (K : PySem.W.Frag) (C : Cf) : CHs → List Cls0
  | .nil => []
  | .cons c i b r => ⟨.ref (He.ga K c), i, fun a cls d D σ H => ∃ x, tS K (fun _ _ _ _ => False) (some ⟨i, a, cls, d, x⟩) (evSs C (some x) b) D σ H⟩ :: clsL K C r
theorem hds_of {X : Cx} {W : WX} (A : AtS T pg k N sc none X W) {hs : CHs} {hds : List ExceptHandler} (h : HsRel T pg k N sc hs hds) : HdsM X hds (clsL X.K (lev pg k) hs) := by
  induction h with
  | nil => exact .nil
  | @cons c i b r on b₀ suite np pos' hds g hc hn hs t ih =>
    obtain ⟨g1, g2, g3⟩ := A.toAt.gl g
    refine .cons ⟨g1, g2, .inl (A.lnk.exn c hc)⟩ ?_ (fun a oe cls d pn hz hf => ⟨fun pins s σ H D I ⟨x, q⟩ => ?_⟩) ih
    · rcases hn with ⟨rfl, rfl⟩ | ⟨j, n, rfl, rfl, h1, h2⟩
      · exact .none
      · exact .some (by rw [A.n]; exact h1) (by show X.env.scope.names.lookup n = _; rw [A.scp]; exact h2)
    · exact (hs ⟨i, a, cls, d, x⟩ rfl _ _ (A.suite (h := ⟨i, a, cls, d, x⟩) hz hf)).run pins s σ H D I q
theorem mix_of {X : Cx} {W : WX} (A : AtS T pg k N sc none X W) {D : Ends} {hds : List ExceptHandler} : ∀ {hs : CHs}, HsRel T pg k N sc hs hds → ∀ {α : List Addr} {H : Hp} {ρ : Env} {σ : St} {S : Sto} {x : Ex} {cls : Value} {d : Option Addr}, SRep X.K α H S → ERep X.K α H ρ σ → XRep X.K α H x cls d →
    PostF X.K α H (evH (lev pg k) hs x ρ S) (endsOf X.K W none D) → wMix X.K W D (clsL X.K (lev pg k) hs) cls d σ H := by
  intro hs h
  induction h with
  | nil =>
    intro α H ρ σ S x cls d s er xr p
    rw [evH_nil] at p
    exact p α H Le.refl s σ ⟨er, trivial⟩ cls d xr
  | @cons c i b r on b₀ suite np pos' hds g hc hn hs t ih =>
    intro α H ρ σ S x cls d s er xr p
    rw [evH_cons] at p
    cases hb : bornOk i ρ with
    | false => rw [hb] at p; exact p.elim
    | true =>
      rw [hb, if_pos rfl] at p
      cases hsb : (lev pg k).sub x.cls c with
      | none => rw [hsb] at p; exact p.elim
      | some bb =>
        rw [hsb] at p
        rw [lev_sub] at hsb
        have ex := A.lnk.sub _ _ _ hc hsb
        rw [← xr.1] at ex
        refine ⟨bb, ex, fun e => ?_, fun e => ?_⟩
        · subst e
          intro a ha
          have p := (show PostF X.K α H ((evSs (lev pg k) (some x) b (Mp.unset i ρ) S).unset i) (endsOf X.K W none D) from p).ungone
          refine ⟨x, α, Mp.unset i ρ, S, ⟨?_, s, xr, fun j hj => ?_⟩, ?_⟩
          · cases i with
            | none => exact er
            | some j => exact er.wipe j _
          · have hj : i = some j := hj
            subst hj
            have hl : j < ρ.length := by
              unfold bornOk at hb
              exact of_decide_eq_true hb
            exact List.getElem?_set_self (by rw [← er.1]; exact hl)
          · cases i with
            | none => exact p.imp (fun ρ' S' α' H' l s z σ' h => z σ' ⟨h.1, trivial⟩) (fun _ _ _ _ _ _ z => z) (fun ρ' S' α' H' l s z σ' h => z σ' ⟨h.1, trivial⟩) (fun ρ' S' α' H' l s z σ' h => z σ' ⟨h.1, trivial⟩) fun _ _ _ _ _ _ _ z => z.elim
            | some j => exact p.imp (fun ρ' S' α' H' l s z σ' h => z _ ⟨h.1.wipe j none, trivial⟩) (fun _ _ _ _ _ _ z => z) (fun ρ' S' α' H' l s z σ' h => z _ ⟨h.1.wipe j none, trivial⟩) (fun ρ' S' α' H' l s z σ' h => z _ ⟨h.1.wipe j none, trivial⟩) fun _ _ _ _ _ _ _ z => z.elim
        · subst e
          exact ih s er xr p
theorem ss_try {b : CSs} {hs : CHs} {bs : List Stmt} {h₀ : ExceptHandler} {hds : List ExceptHandler} (hb : SSs T pg k N sc none b bs) (hh : HsRel T pg k N sc hs (h₀ :: hds)) : SS T pg k N sc none (.try_ b hs) (.Try bs (h₀ :: hds) [] [] pos) := fun X W A => by
  refine PS.weak (ps_try_mix A.stk A.frm A.nd (A.tk rfl) (tb := fun W' => tS X.K W' none (evSs (lev pg k) none b)) (fun W' pn xe tk po => hb _ _ (A.tr tk po)) (hds_of A hh)) fun D σ H ⟨α, ρ, S, st, p⟩ => ?_
  rw [evS_try] at p
  exact ⟨α, ρ, S, st, p.caught.imp (fun _ _ _ _ _ _ z => z) (fun _ _ _ _ _ _ z => z) (fun _ _ _ _ _ _ z => z) (fun _ _ _ _ _ _ z => z) fun x ρ' S' α' H' l s z σ' h cls d xr => mix_of A hh s h.1 xr z⟩
end
end Mp
end
section
set_option Elab.async false
set_option linter.all false
set_option maxRecDepth 100000
set_option maxHeartbeats 2000000
/-! MpOk: the check that a core text says what the text says. -/
namespace Mp
open PySem L2
/-- no handler around | a handler, its name's slot -/
abbrev Hb := Option (Option Nat)
def hbNm (N : List Str) (hb : Hb) (x : Str) : Bool := match hb with
  | some (some i) => decide (N[i]? = some x)
  | _ => false
mutual
def okE (T : Tab) (N : List Str) (sc : Scope) (hb : Hb) (t : Bool) : CE → Expr → Bool
  | .var i, e => (match e with
    | .Name x _ => decide (N[i]? = some x) && (visB sc x && nmOk x)
    | _ => false)
  | .int i, e => (match e with
    | .Constant (.int j) _ _ => decide (i = j)
    | _ => false)
  | .bl i, e => (match e with
    | .Constant (.bool j) _ _ => decide (i = j)
    | _ => false)
  | .non, e => (match e with
    | .Constant .none _ _ => true
    | _ => false)
  | .str i, e => (match e with
    | .Constant (.str j) _ _ => decide (i = j)
    | _ => false)
  | .glob x, e => (match e with
    | .Name y _ => decide (x = y) && (glB sc x && decide (x ∈ T.cons))
    | _ => false)
  | .ccon c f, e => (match e with
    | .Attribute (.Name y _) g _ => decide (c = y ∧ f = g) && (glB sc c && decide ((c, f) ∈ T.ccons))
    | _ => false)
  | .tup es, e => (match e with
    | .Tuple l _ _ => okEs T N sc hb false es l && decide (es.len ≤ 1000)
    | _ => false)
  | .lst es, e => (match e with
    | .List l _ => okEs T N sc hb false es l && decide (es.len ≤ 1000)
    | _ => false)
  | .bin op a b, e => (match e with
    | .BinOp x op' y _ => decide (op = op') && (okE T N sc hb false a x && okE T N sc hb false b y)
    | _ => false)
  | .neg a, e => (match e with
    | .UnaryOp .USub x _ => !t && okE T N sc hb false a x
    | _ => false)
  | .cmp op a b, e => (match e with
    | .Compare x [op'] [y] _ => decide (op = op') && (okE T N sc hb false a x && (okE T N sc hb false b y && noSet y))
    | _ => false)
  | .cmp2 op1 op2 a b c, e => (match e with
    | .Compare x [o1, o2] [y, z] _ => decide (op1 = o1 ∧ op2 = o2) && (okE T N sc hb false a x && (okE T N sc hb false b y && (okE T N sc hb false c z && noSet z)))
    | _ => false)
  | .and es, e => (match e with
    | .BoolOp .And l _ => okEs T N sc hb t es l && decide (0 < es.len)
    | _ => false)
  | .or es, e => (match e with
    | .BoolOp .Or l _ => okEs T N sc hb t es l && decide (0 < es.len)
    | _ => false)
  | .not a, e => (match e with
    | .UnaryOp .Not x _ => okE T N sc hb t a x
    | _ => false)
  | .ifx c a b, e => (match e with
    | .IfExp z x y _ => !t && okE T N sc hb true c z && (okE T N sc hb false a x && okE T N sc hb false b y)
    | _ => false)
  | .isI a t, e => (match t, e with
    | .bi n, .Call (.Name f _) [x, .Name y _] [] _ => decide (f = "isinstance" ∧ y = Str.ofString n) && (glB sc "isinstance" && (decide (("isinstance" : Str) ∈ T.blts) && (glB sc (Str.ofString n) && (decide (Str.ofString n ∈ T.blts) && (biNames.contains n && (noStar x && okE T N sc hb false a x))))))
    | _, _ => false)
  | .exF f, e => (match e with
    | .Attribute (.Name x _) g _ => decide (f = g) && (hbNm N hb x && (visB sc x && nmOk x))
    | _ => false)
  | .exI c, e => (match e with
    | .Call (.Name f _) [.Name x _, .Name y _] [] _ => decide (f = "isinstance" ∧ c = y) && (hbNm N hb x && (visB sc x && (nmOk x && (glB sc "isinstance" && (decide (("isinstance" : Str) ∈ T.blts) && (glB sc c && (decide (c ∈ T.excs) || T.bexcs.any fun p => decide (p.1 = c))))))))
    | _ => false)
  | .fld a f, e => (match e with
    | .Attribute x g _ => decide (f = g) && (attrOk x && okE T N sc hb false a x)
    | _ => false)
  | .call f es, e => (match e with
    | .Call (.Name g _) l [] _ => decide (f = g ∧ hb = none) && (glB sc f && (decide ((f, es.len) ∈ T.funs) && (l.all noStar && okEs T N sc hb false es l)))
    | _ => false)
  | .make f es, e => (match e with
    | .Call (.Name g _) l [] _ => decide (f = g ∧ hb = none) && (glB sc f && (decide ((f, es.len) ∈ T.inits) && (l.all noStar && okEs T N sc hb false es l)))
    | _ => false)
  | .meth m a es, e => (match e with
    | .Call (.Attribute o g ap) l [] p => decide (m = g ∧ hb = none) && (attrOk o && ((ap.endLine == p.line) && (fewB l.length && (l.all noStar && (okE T N sc hb false a o && okEs T N sc hb false es l)))))
    | _ => false)
  | .smeth c m es, e => (match e with
    | .Call (.Attribute (.Name y _) g ap) l [] p => decide ((c = y ∧ m = g) ∧ hb = none) && (glB sc c && ((ap.endLine == p.line) && (fewB l.length && (l.all noStar && (decide (((c, m), es.len) ∈ T.smeths) && (decide (0 < es.len) && okEs T N sc hb false es l))))))
    | _ => false)
  | .blt b es, e => (match e with
    | .Call (.Name g _) l [] _ => decide (bltS b = g) && ((bltHot b || decide (hb = none)) && (glB sc (bltS b) && (decide (bltS b ∈ T.blts) && (l.all noStar && (decide (0 < es.len) && okEs T N sc hb false es l)))))
    | _ => false)
  | .bm m a es, e => (match e with
    | .Call (.Attribute o g ap) l [] p => decide (bmS m = g) && (attrOk o && ((ap.endLine == p.line) && (l.all noStar && (okE T N sc hb false a o && (okEs T N sc hb false es l && decide (es.len = match m with
        | .pop => 0 | .reverse => 0
        | _ => 1))))))
    | _ => false)
  | .sub a i, e => (match e with
    | .Subscript x y _ => noSlice y && (okE T N sc hb false a x && okE T N sc hb false i y)
    | _ => false)
  | .slc a lo hi', e => (match e with
    | .Subscript x (.Slice l h none _) _ => okE T N sc hb false a x && (okO T N sc hb lo l && okO T N sc hb hi' h)
    | _ => false)
  | .lc elt tg it ifs, e => (match e with
    | .ListComp x [⟨tgE, iE, ifE, a0⟩] scope _ => decide (hb = none ∧ a0 = 0) && (okI T N sc hb it tgE iE && (tgB false N (relS scope sc) tg tgE && (blkC N sc scope (tgOwn tg tgE) && (okE T N (relS scope sc) none false elt x && (okEs T N (relS scope sc) none true ifs ifE && (decide (ifs.len ≤ 1) && foldOk iE))))))
    | _ => false)
def okO (T : Tab) (N : List Str) (sc : Scope) (hb : Hb) : CO → Option Expr → Bool
  | .none, e => (match e with
    | none => true
    | some _ => false)
  | .some a, e => (match e with
    | some x => okE T N sc hb false a x
    | none => false)
def okEs (T : Tab) (N : List Str) (sc : Scope) (hb : Hb) (t : Bool) : CEs → List Expr → Bool
  | .nil, l => (match l with
    | [] => true
    | _ => false)
  | .cons a r, l => (match l with
    | x :: xs => noStar x && (okE T N sc hb t a x && okEs T N sc hb t r xs)
    | [] => false)
def okI (T : Tab) (N : List Str) (sc : Scope) (hb : Hb) : CI → Expr → Expr → Bool
  | .seq a, _, e => okE T N sc hb false a e
  | .range es, _, e => (match e with
    | .Call (.Name g _) l [] _ => decide (g = "range") && (glB sc "range" && (decide (("range" : Str) ∈ T.blts) && (decide (0 < es.len ∧ es.len ≤ 3) && okEs T N sc hb false es l)))
    | _ => false)
  | .zip a b, t, e => (match t, e with
    | .Tuple _ _ _, .Call (.Name g _) [x, y] [] _ => decide (g = "zip") && (glB sc "zip" && (decide (("zip" : Str) ∈ T.blts) && ((noStar x && noStar y) && (okE T N sc hb false a x && okE T N sc hb false b y))))
    | _, _ => false)
end
end Mp
namespace Mp
open PySem L2
section
variable (T : Tab) (pg : Prg) (k : Nat) (N : List Str)
/-- as a value (false), as a test (true) -/
def SX (sc : Scope) (hi : Option Hot) (t : Bool) (c : CE) (e : Expr) : Prop := match t with
  | false => SE T pg k N sc hi c e
  | true => ST T pg k N sc hi c e
inductive SL (sc : Scope) (hi : Option Hot) (t : Bool) : CEs → List Expr → Prop
  | nil : SL sc hi t .nil []
  | cons {c : CE} {cs : CEs} {e : Expr} {es : List Expr} (h : SX T pg k N sc hi t c e) (hs : noStar e = true) (r : SL sc hi t cs es) : SL sc hi t (.cons c cs) (e :: es)
end
section
variable {T : Tab} {pg : Prg} {k : Nat} {N : List Str} {sc : Scope} {hi : Option Hot} {t : Bool} {pos : Pos}
theorem SX.of {c : CE} {e : Expr} (h : SE T pg k N sc hi c e) (hp : plainTest e = true) : SX T pg k N sc hi t c e := by
  cases t with
  | false => exact h
  | true => exact st_val h hp
theorem SL.sa {cs : CEs} {es : List Expr} (h : SL T pg k N sc hi false cs es) : SA T pg k N sc hi cs es := by
  induction h with
  | nil => exact sa_nil
  | cons h hs r ih => exact sa_cons h ih hs
theorem SL.nostar {cs : CEs} {es : List Expr} (h : SL T pg k N sc hi t cs es) : es.all noStar = true := by
  induction h with
  | nil => rfl
  | cons h hs r ih => rw [List.all_cons, hs, ih]; rfl
theorem SL.len {cs : CEs} {es : List Expr} (h : SL T pg k N sc hi t cs es) : es.length = cs.len := by
  induction h with
  | nil => rfl
  | cons h hs r ih => rw [List.length_cons, ih]; rfl
theorem SL.and {cs : CEs} {es : List Expr} (h : SL T pg k N sc hi t cs es) (hn : 0 < cs.len) : SX T pg k N sc hi t (.and cs) (.BoolOp .And es pos) := by
  have key : ∀ {cs : CEs} {es : List Expr}, SL T pg k N sc hi t cs es → 0 < cs.len → (match t with
      | false => SE T pg k N sc hi (.and cs) (.BoolOp .And es pos)
      | true => SW T pg k N sc hi (.and cs) (.BoolOp .And es pos)) := by
    intro cs es h
    induction h with
    | nil => intro z; exact absurd z (Nat.lt_irrefl 0)
    | @cons c cs e es h hs r ih =>
      intro _
      cases r with
      | nil =>
        cases t with
        | false => exact se_and1 h
        | true => exact sw_and1 h
      | cons h2 hs2 r2 =>
        have z := ih (Nat.succ_pos _)
        cases t with
        | false => exact se_and h z
        | true => exact sw_and h z
  have z := key h hn
  cases t with
  | false => exact z
  | true => exact SW.st z
theorem SL.or {cs : CEs} {es : List Expr} (h : SL T pg k N sc hi t cs es) (hn : 0 < cs.len) : SX T pg k N sc hi t (.or cs) (.BoolOp .Or es pos) := by
  have key : ∀ {cs : CEs} {es : List Expr}, SL T pg k N sc hi t cs es → 0 < cs.len → (match t with
      | false => SE T pg k N sc hi (.or cs) (.BoolOp .Or es pos)
      | true => SW T pg k N sc hi (.or cs) (.BoolOp .Or es pos)) := by
    intro cs es h
    induction h with
    | nil => intro z; exact absurd z (Nat.lt_irrefl 0)
    | @cons c cs e es h hs r ih =>
      intro _
      cases r with
      | nil =>
        cases t with
        | false => exact se_or1 h
        | true => exact sw_or1 h
      | cons h2 hs2 r2 =>
        have z := ih (Nat.succ_pos _)
        cases t with
        | false => exact se_or h z
        | true => exact sw_or h z
  have z := key h hn
  cases t with
  | false => exact z
  | true => exact SW.st z
theorem hb_none {hb : Hb} (e : hi.map (·.i) = hb) (h : hb = none) : hi = none := by
  cases hi with
  | none => rfl
  | some x => rw [h] at e; cases e
theorem hb_name {hb : Hb} {x : Str} (e : hi.map (·.i) = hb) (h : hbNm N hb x = true) : ∃ i, N[i]? = some x ∧ ∀ h, hi = some h → h.i = some i := by
  unfold hbNm at h
  split at h
  · rename_i i
    refine ⟨i, of_decide_eq_true h, fun h0 e0 => ?_⟩
    rw [e0] at e
    exact Option.some.inj e
  · cases h
end
mutual
theorem okE_ok {T : Tab} {pg : Prg} {k : Nat} {N : List Str} : ∀ (c : CE) {sc : Scope} {hi : Option Hot} {hb : Hb} {t : Bool} {e : Expr}, hi.map (·.i) = hb → okE T N sc hb t c e = true → SX T pg k N sc hi t c e
  | .var i, sc, hi, hb, t, e, hh, h => by
    unfold okE at h
    split at h
    rotate_left
    · cases h
    simp only [Bool.and_eq_true, decide_eq_true_eq] at h
    exact .of (se_var h.1 h.2.1 h.2.2) rfl
  | .int i, sc, hi, hb, t, e, hh, h => by
    unfold okE at h
    split at h
    rotate_left
    · cases h
    cases of_decide_eq_true h
    exact .of se_int rfl
  | .bl i, sc, hi, hb, t, e, hh, h => by
    unfold okE at h
    split at h
    rotate_left
    · cases h
    cases of_decide_eq_true h
    exact .of se_bl rfl
  | .non, sc, hi, hb, t, e, hh, h => by
    unfold okE at h
    split at h
    rotate_left
    · cases h
    exact .of se_non rfl
  | .str i, sc, hi, hb, t, e, hh, h => by
    unfold okE at h
    split at h
    rotate_left
    · cases h
    cases of_decide_eq_true h
    exact .of se_str rfl
  | .glob x, sc, hi, hb, t, e, hh, h => by
    unfold okE at h
    split at h
    rotate_left
    · cases h
    simp only [Bool.and_eq_true, decide_eq_true_eq] at h
    obtain ⟨rfl, h1, h2⟩ := h
    exact .of (se_glob h1 h2) rfl
  | .ccon c f, sc, hi, hb, t, e, hh, h => by
    unfold okE at h
    split at h
    rotate_left
    · cases h
    simp only [Bool.and_eq_true, decide_eq_true_eq] at h
    obtain ⟨⟨rfl, rfl⟩, h1, h2⟩ := h
    exact .of (se_ccon h1 h2) rfl
  | .tup es, sc, hi, hb, t, e, hh, h => by
    unfold okE at h
    split at h
    rotate_left
    · cases h
    simp only [Bool.and_eq_true, decide_eq_true_eq] at h
    exact .of (se_tup (okEs_ok es hh h.1).sa h.2) rfl
  | .lst es, sc, hi, hb, t, e, hh, h => by
    unfold okE at h
    split at h
    rotate_left
    · cases h
    simp only [Bool.and_eq_true, decide_eq_true_eq] at h
    exact .of (se_lst (okEs_ok es hh h.1).sa h.2) rfl
  | .bin op a b, sc, hi, hb, t, e, hh, h => by
    unfold okE at h
    split at h
    rotate_left
    · cases h
    simp only [Bool.and_eq_true, decide_eq_true_eq] at h
    obtain ⟨rfl, h1, h2⟩ := h
    exact .of (se_bin (okE_ok a hh h1) (okE_ok b hh h2)) rfl
  | .neg a, sc, hi, hb, t, e, hh, h => by
    unfold okE at h
    split at h
    rotate_left
    · cases h
    simp only [Bool.and_eq_true, Bool.not_eq_true'] at h
    obtain ⟨rfl, h1⟩ := h
    exact se_neg (okE_ok a hh h1)
  | .cmp op a b, sc, hi, hb, t, e, hh, h => by
    unfold okE at h
    split at h
    rotate_left
    · cases h
    simp only [Bool.and_eq_true, decide_eq_true_eq] at h
    obtain ⟨rfl, h1, h2, h3⟩ := h
    cases t with
    | false => exact se_cmp (okE_ok a hh h1) (okE_ok b hh h2) h3
    | true => exact st_cmp (okE_ok a hh h1) (okE_ok b hh h2) h3
  | .cmp2 op op' a b c, sc, hi, hb, t, e, hh, h => by
    unfold okE at h
    split at h
    rotate_left
    · cases h
    simp only [Bool.and_eq_true, decide_eq_true_eq] at h
    obtain ⟨⟨rfl, rfl⟩, h1, h2, h3, h4⟩ := h
    cases t with
    | false => exact se_cmp2 (okE_ok a hh h1) (okE_ok b hh h2) (okE_ok c hh h3) h4
    | true => exact st_cmp2 (okE_ok a hh h1) (okE_ok b hh h2) (okE_ok c hh h3) h4
  | .and es, sc, hi, hb, t, e, hh, h => by
    unfold okE at h
    split at h
    rotate_left
    · cases h
    simp only [Bool.and_eq_true, decide_eq_true_eq] at h
    exact (okEs_ok es hh h.1).and h.2
  | .or es, sc, hi, hb, t, e, hh, h => by
    unfold okE at h
    split at h
    rotate_left
    · cases h
    simp only [Bool.and_eq_true, decide_eq_true_eq] at h
    exact (okEs_ok es hh h.1).or h.2
  | .not a, sc, hi, hb, t, e, hh, h => by
    unfold okE at h
    split at h
    rotate_left
    · cases h
    cases t with
    | false => exact se_not (okE_ok a hh h)
    | true => exact st_not (okE_ok a hh h)
  | .ifx c a b, sc, hi, hb, t, e, hh, h => by
    unfold okE at h
    split at h
    rotate_left
    · cases h
    simp only [Bool.and_eq_true, Bool.not_eq_true'] at h
    obtain ⟨⟨rfl, h1⟩, h2, h3⟩ := h
    exact se_ifx (okE_ok c hh h1) (okE_ok a hh h2) (okE_ok b hh h3)
  | .isI a ty, sc, hi, hb, t, e, hh, h => by
    unfold okE at h
    split at h
    rotate_left
    · cases h
    simp only [Bool.and_eq_true, decide_eq_true_eq] at h
    obtain ⟨⟨rfl, rfl⟩, h1, h2, h3, h4, h5, h6, h7⟩ := h
    exact .of (se_isI h1 h2 h3 h4 h5 (okE_ok a hh h7) h6) rfl
  | .exF f, sc, hi, hb, t, e, hh, h => by
    unfold okE at h
    split at h
    rotate_left
    · cases h
    simp only [Bool.and_eq_true, decide_eq_true_eq] at h
    obtain ⟨rfl, h1, h2, h3⟩ := h
    obtain ⟨i, hi1, hi2⟩ := hb_name hh h1
    exact .of (se_exF hi2 hi1 h2 h3) rfl
  | .exI c, sc, hi, hb, t, e, hh, h => by
    unfold okE at h
    split at h
    rotate_left
    · cases h
    simp only [Bool.and_eq_true, Bool.or_eq_true, decide_eq_true_eq, List.any_eq_true] at h
    obtain ⟨⟨rfl, rfl⟩, h1, h2, h3, h4, h5, h6, h7⟩ := h
    obtain ⟨i, hi1, hi2⟩ := hb_name hh h1
    refine .of (se_exI hi2 hi1 h2 h3 h4 h5 h6 (h7.imp id ?_)) rfl
    rintro ⟨⟨d, n⟩, hm, rfl⟩
    exact ⟨n, hm⟩
  | .fld a f, sc, hi, hb, t, e, hh, h => by
    unfold okE at h
    split at h
    rotate_left
    · cases h
    simp only [Bool.and_eq_true, decide_eq_true_eq] at h
    obtain ⟨rfl, h1, h2⟩ := h
    exact .of (se_fld (okE_ok a hh h2) h1) rfl
  | .call f es, sc, hi, hb, t, e, hh, h => by
    unfold okE at h
    split at h
    rotate_left
    · cases h
    simp only [Bool.and_eq_true, decide_eq_true_eq] at h
    obtain ⟨⟨rfl, h0⟩, h1, h2, h3, h4⟩ := h
    have l := okEs_ok (pg := pg) (k := k) es hh h4
    cases l with
    | nil => exact .of (se_call0 (hb_none hh h0) h1 h2) rfl
    | cons a b r => exact .of (se_call (hb_none hh h0) h1 h2 (SL.cons a b r).sa h3) rfl
  | .make f es, sc, hi, hb, t, e, hh, h => by
    unfold okE at h
    split at h
    rotate_left
    · cases h
    simp only [Bool.and_eq_true, decide_eq_true_eq] at h
    obtain ⟨⟨rfl, h0⟩, h1, h2, h3, h4⟩ := h
    have l := okEs_ok (pg := pg) (k := k) es hh h4
    cases l with
    | nil => exact .of (se_make0 (hb_none hh h0) h1 h2) rfl
    | cons a b r => exact .of (se_make (hb_none hh h0) h1 h2 (SL.cons a b r).sa h3) rfl
  | .meth m a es, sc, hi, hb, t, e, hh, h => by
    unfold okE at h
    split at h
    rotate_left
    · cases h
    simp only [Bool.and_eq_true, decide_eq_true_eq] at h
    obtain ⟨⟨rfl, h0⟩, h1, h2, h3, h4, h5, h6⟩ := h
    have l := okEs_ok (pg := pg) (k := k) es hh h6
    cases l with
    | nil => exact .of (se_meth0 (hb_none hh h0) h1 h2 (okE_ok a hh h5)) rfl
    | cons a' b r => exact .of (se_meth (hb_none hh h0) h1 h2 h3 (okE_ok a hh h5) (SL.cons a' b r).sa h4) rfl
  | .smeth c m es, sc, hi, hb, t, e, hh, h => by
    unfold okE at h
    split at h
    rotate_left
    · cases h
    simp only [Bool.and_eq_true, decide_eq_true_eq] at h
    obtain ⟨⟨⟨rfl, rfl⟩, h0⟩, h1, h2, h3, h4, h5, h6, h7⟩ := h
    have l := okEs_ok (pg := pg) (k := k) es hh h7
    cases l with
    | nil => exact absurd h6 (Nat.lt_irrefl 0)
    | cons a' b r => exact .of (se_smeth (hb_none hh h0) h2 h3 h1 h5 (SL.cons a' b r).sa h4) rfl
  | .blt b es, sc, hi, hb, t, e, hh, h => by
    unfold okE at h
    split at h
    rotate_left
    · cases h
    simp only [Bool.and_eq_true, Bool.or_eq_true, decide_eq_true_eq] at h
    obtain ⟨rfl, h0, h1, h2, h3, h4, h5⟩ := h
    have l := okEs_ok (pg := pg) (k := k) es hh h5
    cases l with
    | nil => exact absurd h4 (Nat.lt_irrefl 0)
    | cons a' b' r => exact .of (se_blt (h0.imp id fun z => hb_none hh z) h1 h2 (SL.cons a' b' r).sa h3) rfl
  | .bm m a es, sc, hi, hb, t, e, hh, h => by
    unfold okE at h
    split at h
    rotate_left
    · cases h
    simp only [Bool.and_eq_true, decide_eq_true_eq] at h
    obtain ⟨rfl, h1, h2, h3, h4, h5, h6⟩ := h
    have l := okEs_ok (pg := pg) (k := k) es hh h5
    have ha := okE_ok (pg := pg) (k := k) a hh h4
    cases l with
    | nil =>
      cases m with
      | pop => exact .of (se_pop h1 h2 ha) rfl
      | reverse => exact .of (se_reverse h1 h2 ha) rfl
      | _ => cases h6
    | @cons c' cs' x' xs' q s r =>
      cases r with
      | nil =>
        cases m with
        | append => exact .of (se_append h1 h2 ha (SL.cons q s .nil).sa s) rfl
        | popAt => exact .of (se_popAt h1 h2 ha (SL.cons q s .nil).sa s) rfl
        | index => exact .of (se_index h1 h2 ha (SL.cons q s .nil).sa s) rfl
        | join => exact .of (se_join h1 h2 ha q s) rfl
        | pop => cases h6
        | reverse => cases h6
      | cons q2 s2 r2 => cases m <;> cases h6
  | .sub a i, sc, hi, hb, t, e, hh, h => by
    unfold okE at h
    split at h
    rotate_left
    · cases h
    simp only [Bool.and_eq_true] at h
    exact .of (se_sub (okE_ok a hh h.2.1) (okE_ok i hh h.2.2) h.1) rfl
  | .slc a lo hi', sc, hi, hb, t, e, hh, h => by
    unfold okE at h
    split at h
    rotate_left
    · cases h
    simp only [Bool.and_eq_true] at h
    exact .of (se_slc (okE_ok a hh h.1) (okO_ok lo hh h.2.1) (okO_ok hi' hh h.2.2)) rfl
  | .lc elt tg it ifs, sc, hi, hb, t, e, hh, h => by
    unfold okE at h
    split at h
    rotate_left
    · cases h
    simp only [Bool.and_eq_true, decide_eq_true_eq] at h
    obtain ⟨⟨h0, rfl⟩, h1, h2, h3, h4, h5, h6, h7⟩ := h
    have e0 := hb_none hh h0
    subst e0
    subst h0
    have l := okEs_ok (pg := pg) (k := k) (hi := none) (hb := none) ifs rfl h5
    refine .of (se_lc (okI_ok it (hi := none) (hb := none) rfl h1) h2 h3 (okE_ok elt (hi := none) (hb := none) rfl h4) ?_ h7) rfl
    cases l with
    | nil => exact .nil
    | cons q s r =>
      cases r with
      | nil => exact .one q
      | cons q2 s2 r2 => exact absurd h6 (by show ¬ (_ + 1 + 1 ≤ 1); omega)
theorem okO_ok {T : Tab} {pg : Prg} {k : Nat} {N : List Str} : ∀ (c : CO) {sc : Scope} {hi : Option Hot} {hb : Hb} {e : Option Expr}, hi.map (·.i) = hb → okO T N sc hb c e = true → SO T pg k N sc hi c e
  | .none, sc, hi, hb, e, hh, h => by
    unfold okO at h
    split at h
    rotate_left
    · cases h
    exact so_none
  | .some a, sc, hi, hb, e, hh, h => by
    unfold okO at h
    split at h
    rotate_left
    · cases h
    exact so_some (okE_ok a hh h)
theorem okEs_ok {T : Tab} {pg : Prg} {k : Nat} {N : List Str} : ∀ (c : CEs) {sc : Scope} {hi : Option Hot} {hb : Hb} {t : Bool} {e : List Expr}, hi.map (·.i) = hb → okEs T N sc hb t c e = true → SL T pg k N sc hi t c e
  | .nil, sc, hi, hb, t, e, hh, h => by
    unfold okEs at h
    split at h
    rotate_left
    · cases h
    exact .nil
  | .cons a r, sc, hi, hb, t, e, hh, h => by
    unfold okEs at h
    split at h
    rotate_left
    · cases h
    simp only [Bool.and_eq_true] at h
    exact .cons (okE_ok a hh h.2.1) h.1 (okEs_ok r hh h.2.2)
theorem okI_ok {T : Tab} {pg : Prg} {k : Nat} {N : List Str} : ∀ (c : CI) {sc : Scope} {hi : Option Hot} {hb : Hb} {tg e : Expr}, hi.map (·.i) = hb → okI T N sc hb c tg e = true → SI T pg k N sc hi c tg e
  | .seq a, sc, hi, hb, tg, e, hh, h => by
    unfold okI at h
    exact si_seq (okE_ok a hh h)
  | .range es, sc, hi, hb, tg, e, hh, h => by
    unfold okI at h
    split at h
    rotate_left
    · cases h
    simp only [Bool.and_eq_true, decide_eq_true_eq] at h
    obtain ⟨rfl, h1, h2, h3, h4⟩ := h
    have l := okEs_ok (pg := pg) (k := k) es hh h4
    cases l with
    | nil => exact absurd h3.1 (Nat.lt_irrefl 0)
    | cons q s r =>
      cases r with
      | nil => exact si_rng1 h1 h2 (SL.cons q s .nil).sa s
      | cons q2 s2 r2 =>
        cases r2 with
        | nil => exact si_rng2 h1 h2 (SL.cons q s (.cons q2 s2 .nil)).sa s s2
        | cons q3 s3 r3 =>
          cases r3 with
          | nil => exact si_rng3 h1 h2 (SL.cons q s (.cons q2 s2 (.cons q3 s3 .nil))).sa (SL.cons q s (.cons q2 s2 (.cons q3 s3 .nil))).nostar
          | cons q4 s4 r4 => exact absurd h3.2 (by show ¬ (_ + 1 + 1 + 1 + 1 ≤ 3); omega)
  | .zip a b, sc, hi, hb, tg, e, hh, h => by
    unfold okI at h
    split at h
    rotate_left
    · cases h
    simp only [Bool.and_eq_true, decide_eq_true_eq] at h
    obtain ⟨rfl, h1, h2, ⟨h3, h4⟩, h5, h6⟩ := h
    exact si_zip h1 h2 (okE_ok a hh h5) (okE_ok b hh h6) h3 h4
end
end Mp
end
section
set_option Elab.async false
set_option linter.all false
set_option maxRecDepth 100000
set_option maxHeartbeats 2000000
/-! MpOkS: .. of statements. -/
namespace Mp
open PySem L2
def isFn (sc : Scope) : Bool := match sc.kind with
  | .function => true
  | _ => false
theorem isFn_of {sc : Scope} (h : isFn sc = true) : sc.kind = .function := by
  unfold isFn at h
  split at h
  · assumption
  · cases h
def isLoc (sc : Scope) (x : Str) : Bool := match sc.names.lookup x with
  | some .local => true
  | _ => false
theorem isLoc_of {sc : Scope} {x : Str} (h : isLoc sc x = true) : sc.names.lookup x = some .local := by
  unfold isLoc at h
  split at h
  · assumption
  · cases h
/-- a name takes a comprehension that stands on its line -/
def lcB (T : Tab) (N : List Str) (sc : Scope) (hb : Hb) (i : Nat) (c : CE) (y : Str) (py : Pos) (v : Expr) : Bool := match c, v with
  | .lc elt tg it ifs, .ListComp x [⟨tgE, iE, ifE, a0⟩] scope pc => decide (hb = none) && (okE T N sc hb false c v && (decide (N[i]? = some y) && (isLoc sc y && (isFn sc && ((py.line == pc.line) && !(scope.names.any fun (n, k) => n == y && (k == .local || k == .cell)))))))
  | _, _ => false
mutual
def okS (T : Tab) (N : List Str) (sc : Scope) (hb : Hb) : CS → Stmt → Bool
  | .expr a, s => (match s with
    | .Expr e _ => noComp e && okE T N sc hb false a e
    | _ => false)
  | .ret a, s => (match s with
    | .Return (some e) _ => okE T N sc hb false a e
    | _ => false)
  | .retN, s => (match s with
    | .Return none _ => true
    | _ => false)
  | .asg tg a, s => (match s with
    | .Assign [t] v _ => (match tg, t with
      | .name i, .Name x p => lcB T N sc hb i a x p v || (swB sc x v && (tgB true N sc (.name i) (.Name x p) && (freeB hb [i] && okE T N sc hb false a v)))
      | .tup is, .Tuple es kk p => decide (hb = none) && (noComp v && (solo v && (tgB true N sc (.tup is) (.Tuple es kk p) && okE T N sc hb false a v)))
      | _, _ => false)
    | _ => false)
  | .set a i c, s => (match s with
    | .Assign [.Subscript o x _] v _ => subOk x && (okE T N sc hb false a o && (okE T N sc hb false i x && okE T N sc hb false c v))
    | _ => false)
  | .fld a f c, s => (match s with
    | .Assign [.Attribute o g _] v _ => decide (f = g) && (okE T N sc hb false a o && okE T N sc hb false c v)
    | _ => false)
  | .aug i op a, s => (match s with
    | .AugAssign (.Name x p) op' v _ => decide (op = op') && (tgB true N sc (.name i) (.Name x p) && (freeB hb [i] && okE T N sc hb false a v))
    | _ => false)
  | .ite c a b, s => (match s with
    | .If e x y _ => okE T N sc hb true c e && (okSs T N sc hb a x && okSs T N sc hb b y)
    | _ => false)
  | .for_ tg it b, s => (match s with
    | .For t i x [] _ => decide (hb = none) && (okI T N sc hb it t i && (tgB true N sc tg t && (foldOk i && okSs T N sc hb b x)))
    | _ => false)
  | .while_ c b, s => (match s with
    | .While e x [] _ => decide (hb = none) && (okE T N sc hb true c e && okSs T N sc hb b x)
    | _ => false)
  | .try_ b hs, s => (match s with
    | .Try x (h :: hds) [] [] _ => decide (hb = none) && (okSs T N sc hb b x && okH T N sc hs (h :: hds))
    | _ => false)
  | .raise c es, s => (match s with
    | .Raise (some (.Call (.Name g _) l [] _)) none _ => decide (c = g ∧ hb = none) && (glB sc c && ((match es, l with
        | .cons (.str m) .nil, [.Constant (.str m') _ _] => decide (m = m') && decide (c ∈ T.exc0)
        | _, _ => false) || (l.all noStar && (decide (0 < es.len) && ((T.exc1.any fun p => decide (p.1 = c) && decide (p.2.length = es.len)) && okEs T N sc hb false es l)))))
    | _ => false)
  | .pass, s => (match s with
    | .Pass _ => true
    | _ => false)
  | .brk, s => (match s with
    | .Break _ => true
    | _ => false)
  | .cont, s => (match s with
    | .Continue _ => true
    | _ => false)
def okSs (T : Tab) (N : List Str) (sc : Scope) (hb : Hb) : CSs → List Stmt → Bool
  | .nil, l => (match l with
    | [] => true
    | _ => false)
  | .cons a r, l => (match l with
    | x :: xs => okS T N sc hb a x && okSs T N sc hb r xs
    | [] => false)
def okH (T : Tab) (N : List Str) (sc : Scope) : CHs → List ExceptHandler → Bool
  | .nil, l => (match l with
    | [] => true
    | _ => false)
  | .cons c i b r, l => (match l with
    | .ExceptHandler (some (.Name g _)) on (s :: ss) _ :: hds => decide (c = g) && (glB sc c && (decide (c ∈ T.excs) && ((match on, i with
        | none, none => true
        | some n, some j => decide (N[j]? = some n) && isLoc sc n
        | _, _ => false) && (okSs T N sc (some i) b (s :: ss) && okH T N sc r hds))))
    | _ => false)
end
section
variable {T : Tab} {pg : Prg} {k : Nat} {N : List Str} {sc : Scope}
theorem lcB_ok {i : Nat} {c : CE} {y : Str} {py pos : Pos} {v : Expr} {hb : Hb} {hi : Option Hot} (hh : hi.map (·.i) = hb) (h : lcB T N sc hb i c y py v = true) : SS T pg k N sc hi (.asg (.name i) c) (.Assign [.Name y py] v pos) := by
  unfold lcB at h
  split at h
  rotate_left
  · cases h
  simp only [Bool.and_eq_true, decide_eq_true_eq, Bool.not_eq_true'] at h
  obtain ⟨h0, h1, h2, h3, h4, h5, h6⟩ := h
  have e0 := hb_none hh h0
  subst e0
  subst h0
  unfold okE at h1
  simp only [Bool.and_eq_true, decide_eq_true_eq] at h1
  obtain ⟨⟨_, rfl⟩, a1, a2, a3, a4, a5, a6, a7⟩ := h1
  have l := okEs_ok (T := T) (pg := pg) (k := k) (N := N) (hi := none) (hb := none) _ rfl a5
  refine ss_lc (okI_ok _ (hi := none) (hb := none) rfl a1) a2 a3 (okE_ok _ (hi := none) (hb := none) rfl a4) ?_ a7 h2 (isLoc_of h3) (isFn_of h4) h5 h6
  cases l with
  | nil => exact .nil
  | cons q s r =>
    cases r with
    | nil => exact .one q
    | cons q2 s2 r2 => exact absurd a6 (by show ¬ (_ + 1 + 1 ≤ 1); omega)
end
mutual
theorem okS_ok {T : Tab} {pg : Prg} {k : Nat} {N : List Str} {sc : Scope} : ∀ (c : CS) {hi : Option Hot} {hb : Hb} {s : Stmt}, hi.map (·.i) = hb → okS T N sc hb c s = true → SS T pg k N sc hi c s
  | .expr a, hi, hb, s, hh, h => by
    unfold okS at h
    split at h
    rotate_left
    · cases h
    simp only [Bool.and_eq_true] at h
    exact ss_expr (okE_ok a hh h.2) h.1
  | .ret a, hi, hb, s, hh, h => by
    unfold okS at h
    split at h
    rotate_left
    · cases h
    exact ss_ret (okE_ok a hh h)
  | .retN, hi, hb, s, hh, h => by
    unfold okS at h
    split at h
    rotate_left
    · cases h
    exact ss_retN
  | .asg tg a, hi, hb, s, hh, h => by
    unfold okS at h
    split at h
    rotate_left
    · cases h
    split at h
    · rw [Bool.or_eq_true] at h
      rcases h with h | h
      · exact lcB_ok hh h
      · simp only [Bool.and_eq_true] at h
        exact ss_asgN (okE_ok a hh h.2.2.2) h.1 h.2.1 (by rw [hh]; exact h.2.2.1)
    · simp only [Bool.and_eq_true, decide_eq_true_eq] at h
      exact ss_asgT (hb_none hh h.1) (okE_ok a hh h.2.2.2.2) h.2.1 h.2.2.1 h.2.2.2.1
    · cases h
  | .set a i c, hi, hb, s, hh, h => by
    unfold okS at h
    split at h
    rotate_left
    · cases h
    simp only [Bool.and_eq_true] at h
    obtain ⟨h3, h4, h5, h6⟩ := h
    exact ss_set (okE_ok a hh h4) (okE_ok i hh h5) (okE_ok c hh h6) h3
  | .fld a f c, hi, hb, s, hh, h => by
    unfold okS at h
    split at h
    rotate_left
    · cases h
    simp only [Bool.and_eq_true, decide_eq_true_eq] at h
    obtain ⟨rfl, h2, h3⟩ := h
    exact ss_fld (okE_ok a hh h2) (okE_ok c hh h3)
  | .aug i op a, hi, hb, s, hh, h => by
    unfold okS at h
    split at h
    rotate_left
    · cases h
    simp only [Bool.and_eq_true, decide_eq_true_eq] at h
    obtain ⟨rfl, h1, h2, h3⟩ := h
    exact ss_aug (okE_ok a hh h3) h1 (by rw [hh]; exact h2)
  | .ite c a b, hi, hb, s, hh, h => by
    unfold okS at h
    split at h
    rotate_left
    · cases h
    simp only [Bool.and_eq_true] at h
    exact ss_ite (okE_ok c (t := true) hh h.1) (okSs_ok a hh h.2.1) (okSs_ok b hh h.2.2)
  | .for_ tg it b, hi, hb, s, hh, h => by
    unfold okS at h
    split at h
    rotate_left
    · cases h
    simp only [Bool.and_eq_true, decide_eq_true_eq] at h
    obtain ⟨h0, h1, h2, h3, h4⟩ := h
    have e0 := hb_none hh h0
    subst e0
    subst h0
    exact ss_for (okI_ok it (hi := none) (hb := none) rfl h1) h2 (okSs_ok b (hi := none) (hb := none) rfl h4) h3
  | .while_ c b, hi, hb, s, hh, h => by
    unfold okS at h
    split at h
    rotate_left
    · cases h
    simp only [Bool.and_eq_true, decide_eq_true_eq] at h
    obtain ⟨h0, h1, h2⟩ := h
    have e0 := hb_none hh h0
    subst e0
    subst h0
    exact ss_while (okE_ok c (t := true) (hi := none) (hb := none) rfl h1) (okSs_ok b (hi := none) (hb := none) rfl h2)
  | .try_ b hs, hi, hb, s, hh, h => by
    unfold okS at h
    split at h
    rotate_left
    · cases h
    simp only [Bool.and_eq_true, decide_eq_true_eq] at h
    obtain ⟨h0, h1, h2⟩ := h
    have e0 := hb_none hh h0
    subst e0
    subst h0
    exact ss_try (okSs_ok b (hi := none) (hb := none) rfl h1) (okH_ok hs h2)
  | .raise c es, hi, hb, s, hh, h => by
    unfold okS at h
    split at h
    rotate_left
    · cases h
    simp only [Bool.and_eq_true, Bool.or_eq_true, decide_eq_true_eq] at h
    obtain ⟨⟨rfl, h0⟩, h1, h2⟩ := h
    have e0 := hb_none hh h0
    subst e0
    subst h0
    rcases h2 with h2 | h2
    · split at h2
      rotate_left
      · cases h2
      simp only [Bool.and_eq_true, decide_eq_true_eq] at h2
      obtain ⟨rfl, h3⟩ := h2
      exact ss_raise0 h1 h3
    · obtain ⟨h3, h4, h5, h6⟩ := h2
      rw [List.any_eq_true] at h5
      obtain ⟨⟨c', l⟩, hm, h7⟩ := h5
      simp only [Bool.and_eq_true, decide_eq_true_eq] at h7
      obtain ⟨rfl, h8⟩ := h7
      have q := okEs_ok (T := T) (pg := pg) (k := k) (N := N) (hi := none) (hb := none) es rfl h6
      cases q with
      | nil => exact absurd h4 (Nat.lt_irrefl 0)
      | cons a b r => exact ss_raise1 h1 hm h8.symm (SL.cons a b r).sa h3
  | .pass, hi, hb, s, hh, h => by
    unfold okS at h
    split at h
    rotate_left
    · cases h
    exact ss_pass
  | .brk, hi, hb, s, hh, h => by
    unfold okS at h
    split at h
    rotate_left
    · cases h
    exact ss_brk
  | .cont, hi, hb, s, hh, h => by
    unfold okS at h
    split at h
    rotate_left
    · cases h
    exact ss_cont
theorem okSs_ok {T : Tab} {pg : Prg} {k : Nat} {N : List Str} {sc : Scope} : ∀ (c : CSs) {hi : Option Hot} {hb : Hb} {s : List Stmt}, hi.map (·.i) = hb → okSs T N sc hb c s = true → SSs T pg k N sc hi c s
  | .nil, hi, hb, s, hh, h => by
    unfold okSs at h
    split at h
    rotate_left
    · cases h
    exact sss_nil
  | .cons a r, hi, hb, s, hh, h => by
    unfold okSs at h
    split at h
    rotate_left
    · cases h
    simp only [Bool.and_eq_true] at h
    exact sss_cons (okS_ok a hh h.1) (okSs_ok r hh h.2)
theorem okH_ok {T : Tab} {pg : Prg} {k : Nat} {N : List Str} {sc : Scope} : ∀ (c : CHs) {s : List ExceptHandler}, okH T N sc c s = true → HsRel T pg k N sc c s
  | .nil, s, h => by
    unfold okH at h
    split at h
    rotate_left
    · cases h
    exact .nil
  | .cons c i b r, s, h => by
    unfold okH at h
    split at h
    rotate_left
    · cases h
    simp only [Bool.and_eq_true, decide_eq_true_eq] at h
    obtain ⟨rfl, h1, h2, h3, h4, h5⟩ := h
    refine .cons h1 h2 ?_ (fun h0 e0 => okSs_ok b (hi := some h0) (hb := some i) (by show some h0.i = _; rw [e0]) h4) (okH_ok r h5)
    split at h3
    · exact .inl ⟨rfl, rfl⟩
    · simp only [Bool.and_eq_true, decide_eq_true_eq] at h3
      exact .inr ⟨_, _, rfl, rfl, h3.1, isLoc_of h3.2⟩
    · cases h3
end
end Mp
end
section
set_option Elab.async false
set_option linter.all false
set_option maxRecDepth 100000
set_option maxHeartbeats 2000000
/-! MpIni: an exception's __init__; what the written part says, decided. -/
namespace Mp
open PySem L2
/-! ### self.f = x, .. -/
/-- the stores, in the text's order: field, parameter -/
def iniB (N : List Str) (sc : Scope) : List (Str × Nat) → List Stmt → Bool
  | [], [] => true
  | (f, j) :: l, .Assign [.Attribute (.Name s _) g _] (.Name x _) _ :: r => decide (f = g) && (decide (N[0]? = some s) && (decide (N[j + 1]? = some x) && ((visB sc s && nmOk s) && ((visB sc x && nmOk x) && iniB N sc l r))))
  | _, _ => false
def tIni (K : PySem.W.Frag) (C : Addr) (rest done : List (Str × Nat)) : TS := fun D σ H => ∃ (a : Addr) (ws : List V) (H0 : Hp), σ[0]? = some (some (.ref a)) ∧ (∀ j v, ws[j]? = some v → σ[j + 1]? = some (some v)) ∧ (∀ p ∈ rest, p.2 < ws.length) ∧ H0 a = some (exo a C none) ∧
  ((done = [] ∧ H = H0) ∨ ∃ d, H0 d = none ∧ d ≠ a ∧ H a = some (exo a C (some d)) ∧ H d = some (exd d (fldsV ws done)) ∧ ∀ b, b ≠ a → b ≠ d → H b = H0 b) ∧
  (rest.reverse ++ done ≠ []) ∧ (rest.length + done.length ≤ 900) ∧
  ∀ H2 d, H0 d = none → d ≠ a → H2 a = some (exo a C (some d)) → H2 d = some (exd d (fldsV ws (rest.reverse ++ done))) → (∀ b, b ≠ a → b ≠ d → H2 b = H0 b) → D.nx σ H2
theorem fldsV_len {ws : List V} : ∀ {l : List (Str × Nat)}, (fldsV ws l).length ≤ l.length
  | [] => Nat.le_refl _
  | p :: l => by
    unfold fldsV
    rw [List.filterMap_cons]
    split
    · exact Nat.le_succ_of_le fldsV_len
    · exact Nat.succ_le_succ fldsV_len
theorem pss_ini {X : Cx} {C : Addr} (hx : OexC X.K C) {N : List Str} {sc : Scope} (hn : X.N = N) (hs : X.env.scope = sc) : ∀ {rest : List (Str × Nat)} {sts : List Stmt} {done : List (Str × Nat)}, (∀ p ∈ rest, PySem.W.findIn X.K (.ref C) p.1 = some none) → iniB N sc rest sts = true → PSs X sts (tIni X.K C rest done)
  | [], [], done, _, _ => ⟨fun pins s σ H D I ⟨a, ws, H0, h1, h2, h3, h4, h5, h6, h7, h8⟩ => pss_nil.run pins s σ H D I (by
      rcases h5 with ⟨rfl, rfl⟩ | ⟨d, d1, d2, d3, d4, d5⟩
      · exact absurd rfl h6
      · exact h8 H d d1 d2 d3 d4 d5)⟩
  | (f, j) :: l, .Assign [.Attribute (.Name s p1) g p2] (.Name x p3) p4 :: r, done, hf, h => by
    unfold iniB at h
    simp only [Bool.and_eq_true, decide_eq_true_eq] at h
    obtain ⟨rfl, n0, nj, ⟨v1, m1⟩, ⟨v2, m2⟩, hr⟩ := h
    have po : PE X (.Name s p1) (tVar 0) := pe_var (by rw [hn]; exact n0) (by rw [hs]; exact vis_of v1) (nm_of m1).1 (nm_of m1).2.1
    have pv : PE X (.Name x p3) (tVar (j + 1)) := pe_var (by rw [hn]; exact nj) (by rw [hs]; exact vis_of v2) (nm_of m2).1 (nm_of m2).2.1
    refine ⟨fun pins s' σ H D I ⟨a, ws, H0, h1, h2, h3, h4, h5, h6, h7, h8⟩ => (pss_cons (ps_ost po pv (by rfl)) (pss_ini hx hn hs (done := (f, j) :: done) (fun p hp => hf p (List.mem_cons_of_mem _ hp)) hr)).run pins s' σ H D I ?_⟩
    have hj : j < ws.length := h3 (f, j) List.mem_cons_self
    have hw : ws[j]? = some ws[j] := List.getElem?_eq_getElem hj
    have hfl : fldsV ws ((f, j) :: done) = (f, ws[j]) :: fldsV ws done := by
      unfold fldsV
      rw [List.filterMap_cons, show ((f, j) : Str × Nat).2 = j from rfl, hw]
      rfl
    have hrev : ((f, j) :: l).reverse ++ done = l.reverse ++ ((f, j) :: done) := by rw [List.reverse_cons, List.append_assoc]; rfl
    rw [hrev] at h6 h8
    have h7' : l.length + ((f, j) :: done).length ≤ 900 := by rw [List.length_cons] at h7 ⊢; omega
    have nxt : ∀ H', (∃ d, H0 d = none ∧ d ≠ a ∧ H' a = some (exo a C (some d)) ∧ H' d = some (exd d (fldsV ws ((f, j) :: done))) ∧ ∀ b, b ≠ a → b ≠ d → H' b = H0 b) → tIni X.K C l ((f, j) :: done) D σ H' := fun H' z =>
      ⟨a, ws, H0, h1, h2, fun p hp => h3 p (List.mem_cons_of_mem _ hp), h4, .inr z, h6, h7', h8⟩
    refine ⟨ws[j], h2 j _ hw, .ref a, h1, a, C, rfl, hx, hf (f, j) List.mem_cons_self, ?_⟩
    rcases h5 with ⟨rfl, rfl⟩ | ⟨d, d1, d2, d3, d4, d5⟩
    · refine .inl ⟨h4, fun dx n ne => nxt _ ⟨dx, n, ne, upd_same, ?_, fun b b1 b2 => by rw [upd_ne b1, upd_ne b2]⟩⟩
      rw [upd_ne ne, upd_same, hfl]
      rfl
    · refine .inr ⟨d, fldsV ws done, d3, d4, Nat.le_trans fldsV_len (by omega), nxt _ ⟨d, d1, d2, ?_, ?_, fun b b1 b2 => by rw [upd_ne b2]; exact d5 b b1 b2⟩⟩
      · rw [upd_ne (Ne.symm d2)]; exact d3
      · rw [upd_same, hfl]
/-! ### the written part, decided -/
def oexB (K : PySem.W.Frag) (C : Addr) : Bool := (match K.lookup C with
  | some ⟨.type "type", _, .cls cd, sl⟩ => (match cd.mro, sl.toList with
    | .ref C' :: bm, [_, _, _, _, some (.builtin n), _] => decide (C' = C) && (decide (n = "ValueError.__new__") && (!cd.hasDel && (cd.hasDict && PySem.HandSPX.refsVE bm)))
    | _, _ => false)
  | _ => false) && (He.eqO (PySem.W.findIn K (.ref C) "__setattr__") (some (some (.builtin "object.__setattr__"))) && (decide (PySem.W.subIn K (.ref C) (.type "BaseException") = some true) && (decide (PySem.W.typeIn K (.ref C) = some (.type "type")) && PySem.W.keepIn K (.ref C))))
theorem oexB_ok {K : PySem.W.Frag} {C : Addr} (h : oexB K C = true) : OexC K C := by
  unfold oexB at h
  rw [Bool.and_eq_true, Bool.and_eq_true, Bool.and_eq_true, Bool.and_eq_true, decide_eq_true_eq, decide_eq_true_eq] at h
  obtain ⟨h1, h2, h3, h4, h5⟩ := h
  refine ⟨?_, He.eqO_ok h2, h3, h4, h5⟩
  split at h1
  · rename_i dd cd sl ho
    split at h1
    · rename_i C' bm k0 k1 k2 k3 n k5 hm hs
      simp only [Bool.and_eq_true, decide_eq_true_eq, Bool.not_eq_true'] at h1
      obtain ⟨rfl, rfl, hdel, hdi, hr⟩ := h1
      obtain ⟨nm, bs, mro, ns, qn, hd, sn, sub, ab, col, del⟩ := cd
      dsimp only at hm hdel hdi
      subst hm hdel hdi
      have hsl : sl = #[k0, k1, k2, k3, some (.builtin "ValueError.__new__"), k5] := by
        obtain ⟨l⟩ := sl
        simp only at hs
        rw [hs]
      subst hsl
      exact ⟨nm, qn, ns, bs, bm, sn, sub, ab, col, dd, k0, k1, k2, k3, k5, ho, hr⟩
    · cases h1
  · cases h1
def excCB (K : PySem.W.Frag) (D : Addr) : Bool := He.eqO (PySem.W.findIn K (.ref D) "__getattribute__") (some (some (.builtin "BaseException.__getattribute__"))) && (He.eqO (PySem.W.findIn K (.ref D) "__getattr__") (some none) && (decide (PySem.W.subIn K (.ref D) (.type "BaseException") = some true) && (PySem.W.hasDictIn K D &&
  (He.eqO (PySem.W.findIn K (.ref D) "__class__") (some (some (.builtin "object.__class__"))) && (He.eqO (PySem.W.specialIn K (.builtin "object.__class__") "__get__") (some (some (.builtin "getset_descriptor.__get__"))) && (decide (PySem.W.takesIn K (.builtin "object.__class__") = some true) && decide (PySem.W.mroIn K D (.type "object") = some true)))))))
theorem excCB_ok {K : PySem.W.Frag} {D : Addr} (h : excCB K D = true) : ExcC K D := by
  unfold excCB at h
  simp only [Bool.and_eq_true, decide_eq_true_eq] at h
  obtain ⟨h1, h2, h3, h4, h5, h6, h7, h8⟩ := h
  exact ⟨He.eqO_ok h1, He.eqO_ok h2, h3, h4, He.eqO_ok h5, He.eqO_ok h6, h7, h8⟩
def creadB (K : PySem.W.Frag) (C : Addr) : Bool := PySem.W.readsIn K C (.type "type") && He.eqO (PySem.W.specialIn K (.ref C) "__getattribute__") (some (some (.builtin "type.__getattribute__")))
theorem creadB_ok {K : PySem.W.Frag} {C : Addr} (h : creadB K C = true) : ClX.CRead K C (.type "type") := by
  unfold creadB at h
  rw [Bool.and_eq_true] at h
  exact ⟨h.1, He.eqO_ok h.2⟩
def cvalB (K : PySem.W.Frag) (C : Addr) (f : Str) (i : Int) : Bool := match PySem.W.findCls K (.ref C) (.type "type") f with
  | some (.val (.int j _)) => decide (i = j)
  | _ => false
theorem cvalB_ok {K : PySem.W.Frag} {C : Addr} {f : Str} {i : Int} (h : cvalB K C f i = true) : ∃ u, ClX.CVal K C (.type "type") f (.int i) u := by
  unfold cvalB at h
  split at h
  · rename_i j t e
    cases of_decide_eq_true h
    exact ⟨_, e, ⟨t, rfl⟩⟩
  · cases h
end Mp
end
section
set_option Elab.async false
set_option linter.all false
set_option maxRecDepth 100000
set_option maxHeartbeats 2000000
/-! MpMod: a whole module: its defs keep their promises. -/
namespace Mp
open PySem L2 PyProof.Rows
/-- where a def stands -/
inductive Wh where
  | glo (x : Str) | met (c m : Str) | sm (c m : Str)
  deriving DecidableEq
def adr (K : PySem.W.Frag) : Wh → Addr
  | .glo x => He.ga K x
  | .met c m => He.ma K (He.ga K c) m
  | .sm c m => He5.wf K (He.ga K c) "staticmethod" m
structure Dfn where
  at_ : Wh
  name : Str
  qual : Str
  params : Arguments
  body : List Stmt
  scope : Scope
structure Ent where
  key : Str
  d : Dfn
  ps : List Str
  N : List Str
  core : CSs
structure Ini where
  cls : Str
  d : Dfn
  ps : List Str
  l : List (Str × Nat)
structure ModD where
  ents : List Ent
  inis : List Ini
  cInt : List (Str × Int)
  cStr : List (Str × Str)
  blts : List Str
  funs : List (Str × Nat)
  inits : List (Str × Nat)
  fok : List (Str × Str)
  mok : List ((Str × Str) × Nat)
  smeths : List ((Str × Str) × Nat)
  ccons : List ((Str × Str) × Int)
  exf : List (Str × Str)
  sub : List ((Str × Str) × Bool)
  excs : List Str
  bexcs : List (Str × String)
  exc0 : List Str
def ModD.tab (M : ModD) : Tab where
  funs := M.funs
  cons := M.cInt.map (·.1) ++ M.cStr.map (·.1)
  smeths := M.smeths
  ccons := M.ccons.map (·.1)
  inits := M.inits
  excs := M.excs
  bexcs := M.bexcs
  exc0 := M.exc0
  exc1 := M.inis.map fun i => (i.cls, i.l.reverse)
  blts := M.blts
def ModD.ent (M : ModD) (f : Str) : Option Ent := M.ents.find? fun e => decide (e.key = f)
def ModD.ini (M : ModD) (c : Str) : Option Ini := M.inis.find? fun e => decide (e.cls = c)
def ModD.exc (M : ModD) (c : Str) (ds : List D) : Option (List (Str × D)) := if c ∈ M.exc0 then (match ds with
    | [.str _] => some []
    | _ => none)
  else match M.ini c with
    | some i => if ds.length = i.l.length then some (fldsD ds i.l.reverse) else none
    | none => none
def ModD.prg (M : ModD) : Prg where
  fn := fun f => (M.ent f).map fun e => ⟨e.ps.length, e.N.length, e.core⟩
  con := fun x => match M.cInt.lookup x with
    | some i => some (.int i)
    | none => (M.cStr.lookup x).map .str
  ccon := fun c f => (M.ccons.lookup (c, f)).map .int
  sub := fun c d => M.sub.lookup (c, d)
  exf := fun c f => decide ((c, f) ∈ M.exf)
  fok := fun c f => decide ((c, f) ∈ M.fok)
  mok := fun c m => M.mok.lookup (c, m)
  exc := M.exc

/-! ### what is checked of the module's text -/
def scB (N ps : List Str) (sc : Scope) : Bool := isFn sc && (!sc.isCoroutine && (!sc.isGenerator && (decide N.Nodup && (decide (N.take ps.length = ps) && (ps.all (locB true sc) && sc.names.all fun y => match y.2 with
  | .free => false
  | _ => true)))))
theorem scB_ok {N ps : List Str} {sc : Scope} (h : scB N ps sc = true) : FnScope N ps sc := by
  unfold scB at h
  simp only [Bool.and_eq_true, Bool.not_eq_true', decide_eq_true_eq, List.all_eq_true] at h
  obtain ⟨h1, h2, h3, h4, h5, h6, h7⟩ := h
  refine ⟨isFn_of h1, h2, h3, h4, h5, fun x hx => ?_, fun y hy e => ?_⟩
  · have z := h6 x hx
    unfold locB at z
    split at z
    · rename_i e; exact .inl e
    · rename_i e; exact .inr e
    · cases z
  · have z := h7 y hy
    rw [e] at z
    cases z
def ModD.has (M : ModD) (key : Str) (at_ : Wh) (n : Nat) : Bool := match M.ent key with
  | some e => decide (e.d.at_ = at_) && decide (e.ps.length = n)
  | none => false
def Ent.okB (T : Tab) (e : Ent) : Bool := scB e.N e.ps e.d.scope && okSs T e.N e.d.scope none e.core e.d.body
def Ini.okB (M : ModD) (i : Ini) : Bool := scB i.ps i.ps i.d.scope && (iniB i.ps i.d.scope i.l i.d.body && (decide (i.ps.length = i.l.length + 1) && (decide (0 < i.l.length ∧ i.l.length ≤ 900) && (i.l.all (fun p => decide (p.2 < i.l.length)) && (!(decide (i.cls ∈ M.exc0)) && (match M.ini i.cls with
  | some j => decide (j.l = i.l)
  | none => false))))))
def ModD.okT (M : ModD) : Bool := M.ents.all (Ent.okB M.tab) && (M.inis.all (Ini.okB M) && (M.funs.all (fun p => M.has p.1 (.glo p.1) p.2) && (M.mok.all (fun p => M.has (mkey p.1.1 p.1.2) (.met p.1.1 p.1.2) (p.2 + 1)) &&
  (M.smeths.all (fun p => M.has (mkey p.1.1 p.1.2) (.sm p.1.1 p.1.2) p.2) && M.inits.all (fun p => M.has (mkey p.1 "__init__") (.met p.1 "__init__") (p.2 + 1))))))

/-! ### what is checked of the written part -/
abbrev FnW : Type := He.FnW
def dfnW (K : PySem.W.Frag) (d : Dfn) : FnW := match K.lookup (adr K d.at_) with
  | some ⟨_, _, .func fd, _⟩ => some (fd.name, fd.qualname, fd.params, fd.body, fd.scope, fd.globals, fd.closure, fd.builtins)
  | _ => none
def Dfn.val (d : Dfn) : FnW := some (d.name, d.qual, d.params, .stmts d.body, d.scope, mainGlobals, [], builtinsNs)
def Dfn.okB (K : PySem.W.Frag) (d : Dfn) : Bool := PySem.W.keepIn K (.ref (adr K d.at_)) && (match K.lookup (adr K d.at_) with
  | some ⟨_, _, .func fd, _⟩ => PySem.W.codeIn K fd.code d.qual && (match fd.defaults with
    | .none => true
    | _ => false)
  | _ => false)
theorem funD_of {K : PySem.W.Frag} {d : Dfn} (e : dfnW K d = d.val) (c : d.okB K = true) : ∃ fd, FunD K d.name d.qual d.params d.body d.scope [] [] (adr K d.at_) fd := by
  unfold Dfn.okB at c
  rw [Bool.and_eq_true] at c
  obtain ⟨kp, c2⟩ := c
  unfold dfnW at e
  split at c2
  rotate_left
  · cases c2
  rename_i oc od fd osl q
  rw [q] at e
  rw [Bool.and_eq_true] at c2
  obtain ⟨c3, c4⟩ := c2
  obtain ⟨n1, n2, n3, n4, n5, n6, n7, n8, n9, n10, n11, n12, n13, n14, n15⟩ := fd
  have e2 : (some (n1, n2, n3, n4, n5, n6, n7, n15) : FnW) = some (d.name, d.qual, d.params, .stmts d.body, d.scope, mainGlobals, [], builtinsNs) := e
  simp only [Option.some.injEq, Prod.mk.injEq] at e2
  obtain ⟨h1, h2, h3, h4, h5, h6, h7, h8⟩ := e2
  subst h1 h2 h3 h4 h5 h6 h7 h8
  dsimp only at c4
  split at c4
  · exact ⟨_, ⟨oc, od, .none, n9, n10, n11, n12, n13, n14, osl, rfl, q, c3, .inl ⟨rfl, rfl⟩, .inl rfl⟩, kp⟩
  · cases c4
def ModD.dfns (M : ModD) : List Dfn := M.ents.map (·.d) ++ M.inis.map (·.d)
def ModD.okK (M : ModD) (K : PySem.W.Frag) : Bool := M.dfns.all (Dfn.okB K) && (M.funs.all (fun p => (He.Fa.glo p.1).ok K) && (M.cInt.all (fun p => (He.Fa.int p.1 p.2).ok K) && (M.cStr.all (fun p => (He.Fa.str p.1 p.2).ok K) && (M.blts.all (fun x => (He.Fa.free x).ok K) &&
  (M.inits.all (fun p => (He.Fa.glo p.1).ok K && (He.Fa.mkr p.1).ok K) && (M.fok.all (fun p => (He.Fa.cls p.1).ok K && (He.Fa.noat p.1 p.2).ok K) && (M.mok.all (fun p => (He.Fa.cls p.1.1).ok K && (He.Fa.meth p.1.1 p.1.2).ok K) &&
  (M.smeths.all (fun p => (He.Fa.glo p.1.1).ok K && (creadB K (He.ga K p.1.1) && (He5.wrapB K (He.ga K p.1.1) "staticmethod" "staticmethod.__get__" p.1.2))) && (M.ccons.all (fun p => (He.Fa.glo p.1.1).ok K && (creadB K (He.ga K p.1.1) && cvalB K (He.ga K p.1.1) p.1.2 p.2)) &&
  (M.exf.all (fun p => xfB K (He.ga K p.1) && He.eqO (PySem.W.findIn K (.ref (He.ga K p.1)) p.2) (some none)) && (M.sub.all (fun p => excCB K (He.ga K p.1.1) && ((!decide (p.1.2 ∈ M.excs) || (decide (PySem.W.exmOne K (.ref (He.ga K p.1.1)) (.ref (He.ga K p.1.2)) = some p.2) && decide (PySem.W.kitOne K (.ref (He.ga K p.1.1)) (.ref (He.ga K p.1.2)) = some p.2))) &&
    M.bexcs.all (fun q => !decide (q.1 = p.1.2) || decide (PySem.W.kitOne K (.ref (He.ga K p.1.1)) (.type q.2) = some p.2)))) &&
  (M.excs.all (fun x => (He.Fa.glo x).ok K) && (M.bexcs.all (fun p => (He.Fa.free p.1).ok K) && (M.exc0.all (fun x => (He.Fa.glo x).ok K && (He.Fa.exc x).ok K) &&
  M.inis.all (fun i => (He.Fa.glo i.cls).ok K && (oexB K (He.ga K i.cls) && (decide (i.d.at_ = .met i.cls "__init__") && (He.eqO (PySem.W.findIn K (.ref (He.ga K i.cls)) "__init__") (some (some (.ref (He.ma K (He.ga K i.cls) "__init__")))) && (decide (PySem.W.typeIn K (.ref (He.ma K (He.ga K i.cls) "__init__")) = some (.type "function")) &&
    i.l.all fun p => He.eqO (PySem.W.findIn K (.ref (He.ga K i.cls)) p.1) (some none))))))))))))))))))))

/-! ### the defs -/
def BindOk (d : Dfn) (ps : List Str) : Prop := ∀ (kV doc pm : Value) (an : Option Addr) (cdv ct : Value) (us : List Value), us.length = ps.length → bindArgs (PySem.W.fnOf d.name d.qual d.params d.body d.scope .none kV doc pm an cdv ct) ⟨us, []⟩ = pure (ps.zip us)
section
variable {M : ModD} {P : Program} {w : World} {K : PySem.W.Frag} {mg : Str → Option Value} {base : Heap}
theorem ats_fn {T : Tab} {pg : Prg} {k : Nat} {N ps : List Str} {qual : Str} {sc : Scope} {f : Addr} {cdv : Value} {A : Around} {outer : List PySem.Env} {s : Shared} {H : Hp} {E : XK} (L : Lnk T pg k P w K mg base) (S : FnScope N ps sc) (hr : Room k (A.deeper (envOfC qual sc s.heap.objs.size f cdv))) :
    AtS T pg k N sc none (cxOf (L2.CX P w) P w K mg base N qual sc f cdv A outer s H E) (fun cls d _ H => E cls d H) :=
  have tk : Takes (cxOf (L2.CX P w) P w K mg base N qual sc f cdv A outer s H E) (fun cls d _ H => E cls d H) := takes_of rfl rfl rfl rfl
  have tl := TakesL.of (X := cxOf (L2.CX P w) P w K mg base N qual sc f cdv A outer s H E) rfl rfl tk
  { n := rfl, scp := rfl, lnk := L, pa := tl.at, calm := fun _ => ⟨rfl, hr⟩, tl := fun _ => tl, nd := S.nd, un := by have := hr.un; show (A.deeper _).units + 65 < _; omega, hot := nofun, fnl := fun _ => rfl, po := passes_of rfl, tk := fun _ => tk, stk := rfl, frm := rfl }
theorem start_rep {α : List Addr} {H : Hp} {ds : List D} {vs : List V} {N : List Str} {np : Nat} (r : RepL K α H ds vs) (hn : ds.length = np) : ERep K α H (ds.map some ++ List.replicate (N.length - np) none) (L2.start N vs) := by
  have hl := r.length
  refine ⟨by unfold L2.start; rw [List.length_append, List.length_append, List.length_map, List.length_map, List.length_replicate, List.length_replicate]; omega, fun i d e => ?_⟩
  by_cases h : i < ds.length
  · rw [List.getElem?_append_left (by rw [List.length_map]; exact h), List.getElem?_map] at e
    obtain ⟨d', e1, e2⟩ := omap e
    cases e2
    obtain ⟨v, hv, rv⟩ := r.get e1
    exact ⟨v, by unfold L2.start; rw [List.getElem?_append_left (by rw [List.length_map]; omega), List.getElem?_map, hv]; rfl, rv⟩
  · rw [List.getElem?_append_right (by rw [List.length_map]; omega)] at e
    have z := List.mem_replicate.mp (List.mem_of_getElem? e)
    cases z.2
theorem post_res {α : List Addr} {H : Hp} {r : Fl} {Q : VK} {E : XK} (p : PostR K α H r.res (fun d _ α' H' => ∀ v, Rep K α' H' d v → Q v H') (fun x _ α' H' => ∀ cls d, XRep K α' H' x cls d → E cls d H')) :
    PostF K α H r (endsOf K (fun cls d _ H => E cls d H) none { nx := fun _ H' => Q .non H', rt := Q }) := by
  cases r with
  | nx ρ S => exact fun a b l s σ h => p a b l s _ non_rep
  | rt d S => exact p
  | exn x ρ S => exact fun a b l s σ h => p a b l s
  | bk ρ S => exact p.elim
  | ct ρ S => exact p.elim
  | stuck => exact p.elim
theorem fnl_zero {n : Nat} {fd : FuncData} {ps : List Str} {f : Str} {pg : Prg} {a : Addr} (hp : ps.length = n) (kp : PySem.W.keepIn K (.ref a) = true) (bd : Binds K fd ps []) : FnL P w K mg base 0 n ((lev pg 0).call f) a :=
  ⟨fd, ps, kp, bd, fun vs H Q E h => by rw [h.1, hp], fun A outer s H args us vs Q E hr e0 hb r h => by
    obtain ⟨_, α, ds, S, _, _, z⟩ := h
    exact z.elim⟩
theorem fnl_law {k : Nat} {e : Ent} {fd : FuncData} (hf : M.ent e.key = some e) (L : Lnk M.tab M.prg k P w K mg base) (F : FunD K e.d.name e.d.qual e.d.params e.d.body e.d.scope [] [] (adr K e.d.at_) fd) (ok : e.okB M.tab = true) :
    FnOk P w K mg base (L2.CX P w) (k + 1) (adr K e.d.at_) fd e.ps (spC K e.ps.length ((lev M.prg (k + 1)).call e.key)) := by
  unfold Ent.okB at ok
  rw [Bool.and_eq_true] at ok
  have S := scB_ok ok.1
  refine F.ok S (fun vs H Q E h => h.1) fun cdv A outer s H vs Q E hr h => ?_
  obtain ⟨h1, α, ds, St, r, sr, p⟩ := h
  refine ⟨_, okSs_ok (pg := M.prg) (k := k) e.core (hi := none) rfl ok.2 _ _ (ats_fn L S hr), ?_⟩
  have hd : ds.length = e.ps.length := by rw [r.length, h1]
  have p : PostR K α H (runB M.prg (lev M.prg k) e.key ds St) _ _ := p
  have hfn : M.prg.fn e.key = some ⟨e.ps.length, e.N.length, e.core⟩ := by
    show (M.ent e.key).map _ = _
    rw [hf]
    rfl
  unfold runB at p
  rw [hfn] at p
  dsimp only at p
  rw [if_pos hd] at p
  exact ⟨α, _, St, ⟨start_rep r hd, sr, trivial⟩, post_res p⟩
theorem fnl_succ {k : Nat} {e : Ent} {fd : FuncData} (hf : M.ent e.key = some e) (L : Lnk M.tab M.prg k P w K mg base) (F : FunD K e.d.name e.d.qual e.d.params e.d.body e.d.scope [] [] (adr K e.d.at_) fd) (bd : BindOk e.d e.ps) (ok : e.okB M.tab = true) :
    FnL P w K mg base (k + 1) e.ps.length ((lev M.prg (k + 1)).call e.key) (adr K e.d.at_) := ⟨fd, e.ps, F.kp, F.bindsN bd, fnl_law hf L F ok⟩

/-! ### an exception's __init__ -/
theorem ini_ok {j : Nat} {i : Ini} {fd : FuncData} (F : FunD K i.d.name i.d.qual i.d.params i.d.body i.d.scope [] [] (adr K i.d.at_) fd) (ok : i.okB M = true) (ox : OexC K (He.ga K i.cls)) (hf : ∀ p ∈ i.l, PySem.W.findIn K (.ref (He.ga K i.cls)) p.1 = some none) :
    FnOk P w K mg base (L2.CX P w) (j + 1) (adr K i.d.at_) fd i.ps (spI K (He.ga K i.cls) i.l.reverse) := by
  unfold Ini.okB at ok
  simp only [Bool.and_eq_true, decide_eq_true_eq, List.all_eq_true] at ok
  obtain ⟨h1, h2, h3, h4, h5, h6, h7⟩ := ok
  have S := scB_ok h1
  refine F.ok S (fun vs H Q E h => ?_) fun cdv A outer s H vs Q E hr h => ?_
  · obtain ⟨a, ws, rfl, hw, _⟩ := h
    rw [List.length_cons, hw, List.length_reverse, h3]
  · obtain ⟨a, ws, rfl, hw, ha, q⟩ := h
    rw [List.length_reverse] at hw
    refine ⟨tIni K (He.ga K i.cls) i.l [], pss_ini (X := cxOf (L2.CX P w) P w K mg base i.ps i.d.qual i.d.scope (adr K i.d.at_) cdv A outer s H E) ox (N := i.ps) (sc := i.d.scope) rfl rfl hf h2, ?_⟩
    have hst : L2.start i.ps (.ref a :: ws) = (V.ref a :: ws).map some := by
      unfold L2.start
      have e : i.ps.length - (V.ref a :: ws).length = 0 := by rw [List.length_cons, hw, h3]; omega
      rw [e]
      exact List.append_nil _
    rw [hst]
    refine ⟨a, ws, H, rfl, fun j' v hv => ?_, fun p hp => by rw [hw]; exact h5 p hp, ha, .inl ⟨rfl, rfl⟩, ?_, by simp; exact h4.2, fun H2 d d1 d2 d3 d4 d5 => q H2 d d1 d2 d3 (by rw [List.append_nil] at d4; exact d4) d5⟩
    · rw [List.map_cons, List.getElem?_cons_succ, List.getElem?_map, hv]
      rfl
    · rw [List.append_nil]
      intro z
      have z2 := congrArg List.length z
      rw [List.length_reverse] at z2
      exact absurd z2 (Nat.ne_of_gt h4.1)

/-! ### the link -/
structure ModOk (M : ModD) (K : PySem.W.Frag) (mg : Str → Option Value) : Prop where
  t : M.okT = true
  k : M.okK K = true
  w : ∀ d ∈ M.dfns, dfnW K d = d.val
  be : ∀ e ∈ M.ents, BindOk e.d e.ps
  bi : ∀ i ∈ M.inis, BindOk i.d i.ps
  bx : ∀ p ∈ M.bexcs, bootBuiltins p.1 = some (.type p.2)
  g : ∃ h : Heap, K.In h ∧ h.Ns mainGlobals mg
theorem ent_mem {f : Str} {e : Ent} (h : M.ent f = some e) : e ∈ M.ents ∧ e.key = f := by
  unfold ModD.ent at h
  exact ⟨List.mem_of_find?_eq_some h, by have := List.find?_some h; exact of_decide_eq_true this⟩
theorem has_of {f : Str} {a : Wh} {n : Nat} (h : M.has f a n = true) : ∃ e, M.ent f = some e ∧ e.d.at_ = a ∧ e.ps.length = n := by
  unfold ModD.has at h
  split at h
  · rename_i e q
    rw [Bool.and_eq_true, decide_eq_true_eq, decide_eq_true_eq] at h
    exact ⟨e, q, h.1, h.2⟩
  · cases h
theorem lookup_mem {α β : Type} [BEq α] [LawfulBEq α] {l : List (α × β)} {a : α} {b : β} (h : l.lookup a = some b) : (a, b) ∈ l := by
  induction l with
  | nil => cases h
  | cons p l ih =>
    obtain ⟨x, y⟩ := p
    rw [List.lookup_cons] at h
    split at h
    · rename_i q
      cases h
      rw [eq_of_beq q]
      exact List.mem_cons_self
    · exact List.mem_cons_of_mem _ (ih h)
def FnLs (M : ModD) (P : Program) (w : World) (K : PySem.W.Frag) (mg : Str → Option Value) (base : Heap) (k : Nat) : Prop := ∀ f e, M.ent f = some e → FnL P w K mg base k e.ps.length ((lev M.prg k).call f) (adr K e.d.at_)
theorem lnk_of {k : Nat} (O : ModOk M K mg) (F : ∀ j, j ≤ k → FnLs M P w K mg base j) : Lnk M.tab M.prg k P w K mg base := by
  have t := O.t
  have kk := O.k
  unfold ModD.okT at t
  unfold ModD.okK at kk
  simp only [Bool.and_eq_true, List.all_eq_true] at t kk
  obtain ⟨t1, t2, t3, t4, t5, t6⟩ := t
  obtain ⟨k1, k2, k3, k4, k5, k6, k7, k8, k9, k10, k11, k12, k13, k14, k15, k16⟩ := kk
  obtain ⟨h0, X, G⟩ := O.g
  have Fk := F k (Nat.le_refl k)
  exact {
    con := fun x d hx q => by
      have q : (match M.cInt.lookup x with
        | some i => some (Mp.D.int i)
        | none => (M.cStr.lookup x).map .str) = some d := q
      cases hi : M.cInt.lookup x with
      | some i =>
        rw [hi] at q
        cases q
        obtain ⟨tk, e⟩ := He.int_ok X G (k3 _ (lookup_mem hi))
        exact ⟨.int i, _, e, ⟨tk, rfl⟩, fun _ _ => int_rep⟩
      | none =>
        rw [hi] at q
        obtain ⟨z, hz, rfl⟩ := omap q
        obtain ⟨tk, e⟩ := He.str_ok X G (k4 _ (lookup_mem hz))
        exact ⟨.str z, _, e, ⟨tk, rfl⟩, fun _ _ => str_rep⟩
    blt := fun x hx => He.free_ok X G (k5 x hx)
    fn := fun x n hx => by
      obtain ⟨e, he, ea, en⟩ := has_of (t3 (x, n) hx)
      have z := Fk x e he
      rw [ea, en] at z
      exact ⟨_, He.glo_ok X G (k2 (x, n) hx), z⟩
    fok := fun c f h => by
      have hm : (c, f) ∈ M.fok := of_decide_eq_true h
      exact ⟨He.cls_ok (k7 _ hm).1, He.noat_ok (k7 _ hm).2⟩
    mok := fun c m n h => by
      have hm : ((c, m), n) ∈ M.mok := lookup_mem h
      obtain ⟨e, he, ea, en⟩ := has_of (t4 _ hm)
      have z := Fk _ e he
      rw [ea, en] at z
      exact ⟨He.cls_ok (k8 _ hm).1, _, He.meth_ok (k8 _ hm).2, z⟩
    make_ := fun c n h => by
      obtain ⟨e, he, ea, en⟩ := has_of (t6 _ h)
      refine ⟨He.glo_ok X G (k6 _ h).1, _, He.mkr_ok (k6 _ h).2, fun j hj => ?_⟩
      subst hj
      have z := F j (Nat.le_succ j) _ e he
      rw [ea, en] at z
      exact z
    ccon := fun c f d h q => by
      have q : (M.ccons.lookup (c, f)).map Mp.D.int = some d := q
      obtain ⟨i, hi, rfl⟩ := omap q
      have z := k10 _ (lookup_mem hi)
      obtain ⟨u, cv⟩ := cvalB_ok z.2.2
      exact ⟨He.glo_ok X G z.1, _, _, u, creadB_ok z.2.1, cv, fun _ _ => int_rep⟩
    smeth := fun c m n h => by
      obtain ⟨e, he, ea, en⟩ := has_of (t5 _ h)
      have z := Fk _ e he
      rw [ea, en] at z
      obtain ⟨z1, z2, z3⟩ := k9 _ h
      obtain ⟨w1, rest, w2⟩ := He5.wrapB_ok z3
      have kp : PySem.W.keepIn K (.ref (He5.wf K (He.ga K c) "staticmethod" m)) = true := by
        obtain ⟨_, _, kp, _⟩ := z
        exact kp
      exact ⟨He.glo_ok X G z1, _, ⟨⟨_, _, _, creadB_ok z2, w1, w2⟩, kp⟩, z⟩
    exf := fun c f h => by
      have hm : (c, f) ∈ M.exf := of_decide_eq_true h
      exact ⟨xfB_ok (k11 _ hm).1, He.eqO_ok (k11 _ hm).2⟩
    sub := fun c d b hd h => by
      have z := (k12 _ (lookup_mem h)).2.1
      simp only [Bool.or_eq_true, Bool.not_eq_true', decide_eq_false_iff_not, Bool.and_eq_true, decide_eq_true_eq] at z
      rcases z with z | z
      · exact absurd hd z
      · exact z.1
    exc0 := fun c hc => by
      obtain ⟨z1, z2⟩ := k15 c hc
      obtain ⟨e1, e2, e3, e4⟩ := He.exc_ok z2
      refine ⟨⟨_, _, _, _, PySem.F.excBase_ValueError, e1⟩, He.glo_ok X G z1, e2, e3, e4, fun ds fs h => ?_⟩
      have h : M.exc c ds = some fs := h
      unfold ModD.exc at h
      rw [if_pos (show c ∈ M.exc0 from hc)] at h
      split at h
      · cases h; rfl
      · cases h
    exc1 := fun c l h => by
      obtain ⟨i, hi, e⟩ := List.mem_map.mp h
      cases e
      obtain ⟨z1, z2, z3, z4, z5, z6⟩ := k16 i hi
      have ti := t2 i hi
      have ti' := ti
      unfold Ini.okB at ti
      simp only [Bool.and_eq_true, decide_eq_true_eq, List.all_eq_true, Bool.not_eq_true', decide_eq_false_iff_not] at ti
      obtain ⟨q1, q2, q3, q4, q5, q6, q7⟩ := ti
      have hat : i.d.at_ = .met i.cls "__init__" := of_decide_eq_true z3
      have hd : i.d ∈ M.dfns := List.mem_append_right _ (List.mem_map_of_mem hi)
      obtain ⟨fd, FD⟩ := funD_of (O.w _ hd) (k1 _ hd)
      refine ⟨oexB_ok z2, He.glo_ok X G z1, fun ds fs h => ?_, by rw [List.length_reverse]; exact q4.2, fun z => ?_, _, fd, i.ps, He.eqO_ok z4, of_decide_eq_true z5, FD.bindsN (O.bi i hi), fun j => ?_⟩
      · have h : M.exc i.cls ds = some fs := h
        unfold ModD.exc at h
        rw [if_neg q6] at h
        split at q7
        · rename_i i' hi'
          rw [hi'] at h
          dsimp only at h
          split at h
          · cases h
            rw [of_decide_eq_true q7]
          · cases h
        · cases q7
      · have z2 := congrArg List.length z
        rw [List.length_reverse] at z2
        exact absurd z2 (Nat.ne_of_gt q4.1)
      · have z := ini_ok (M := M) (P := P) (w := w) (mg := mg) (base := base) (j := j) FD ti' (oexB_ok z2) fun p hp => He.eqO_ok (z6 p hp)
        rw [hat] at z
        exact z
    exn := fun d hd => He.glo_ok X G (k13 d hd)
    bex := fun d n h => ⟨He.free_ok X G (k14 _ h), O.bx _ h⟩
    exi := fun c d b h => by
      have z := k12 _ (lookup_mem h)
      refine ⟨excCB_ok z.1, fun hd => ?_, fun n hn => ?_⟩
      · have z2 := z.2.1
        simp only [Bool.or_eq_true, Bool.not_eq_true', decide_eq_false_iff_not, Bool.and_eq_true, decide_eq_true_eq] at z2
        rcases z2 with z2 | z2
        · exact absurd hd z2
        · exact z2.2
      · have z2 := z.2.2 _ hn
        simp only [Bool.or_eq_true, Bool.not_eq_true', decide_eq_false_iff_not, decide_eq_true_eq] at z2
        rcases z2 with z2 | z2
        · exact absurd trivial z2
        · exact z2 }
theorem fnls (O : ModOk M K mg) : ∀ k, FnLs M P w K mg base k := by
  have key : ∀ k, ∀ j, j ≤ k → FnLs M P w K mg base j := by
    intro k
    induction k with
    | zero =>
      intro j hj f e he
      have hj : j = 0 := Nat.le_zero.mp hj
      subst hj
      obtain ⟨hm, rfl⟩ := ent_mem he
      have hd : e.d ∈ M.dfns := List.mem_append_left _ (List.mem_map_of_mem hm)
      have k1 := O.k
      unfold ModD.okK at k1
      rw [Bool.and_eq_true, List.all_eq_true] at k1
      obtain ⟨fd, FD⟩ := funD_of (O.w _ hd) (k1.1 _ hd)
      exact fnl_zero rfl FD.kp (FD.bindsN (O.be e hm))
    | succ k ih =>
      intro j hj f e he
      rcases Nat.lt_or_ge j (k + 1) with h | h
      · exact ih j (Nat.le_of_lt_succ h) f e he
      · have hj : j = k + 1 := Nat.le_antisymm hj h
        subst hj
        obtain ⟨hm, rfl⟩ := ent_mem he
        have hd : e.d ∈ M.dfns := List.mem_append_left _ (List.mem_map_of_mem hm)
        have k1 := O.k
        unfold ModD.okK at k1
        rw [Bool.and_eq_true, List.all_eq_true] at k1
        have t1 := O.t
        unfold ModD.okT at t1
        rw [Bool.and_eq_true, List.all_eq_true] at t1
        obtain ⟨fd, FD⟩ := funD_of (O.w _ hd) (k1.1 _ hd)
        exact fnl_succ he (lnk_of O ih) FD (O.be e hm) (t1.1 e hm)
  exact fun k => key k k (Nat.le_refl k)
end
end Mp
end
section
set_option Elab.async false
set_option linter.all false
set_option maxRecDepth 100000
set_option maxHeartbeats 2000000
/-! MpHead: the head, and the law's end. -/
namespace Mp
open PySem L2 PyProof.Rows
abbrev AlM : Type := Bool × List FnW
def obsM (M : ModD) (K : PySem.W.Frag) : AlM := (M.okK K, M.dfns.map (dfnW K))
def valM (M : ModD) : AlM := (true, M.dfns.map Dfn.val)
def asM (g : Addr → Option Obj) : Nat → List Addr
  | 0 => [mainGlobals, cStatics]
  | n + 1 => He.growD g (asM g n)
def obsMG (n : Nat) (M : ModD) (g : Addr → Option Obj) : AlM := obsM M (He.frG g (asM g n))
def hookM (n : Nat) (M : ModD) : PySem.W.Hook where
  α := AlM
  obs := fun s => obsMG n M s.heap.get?
  val := fun _ => valM M
  says := fun _ h => ∃ K : PySem.W.Frag, K.In h ∧ obsM M K = valM M
  of := fun _ _ e => ⟨_, He.frG_in, e⟩
  keeps := fun _ _ _ ⟨K, hK, c⟩ k => ⟨K, PySem.W.Frag.In.keeps hK k, c⟩
theorem obsMG_eq {n : Nat} {M : ModD} {g : Addr → Option Obj} {s : Shared} (h : ∀ a, g a = s.heap.get? a) : obsMG n M g = (hookM n M).obs s := by
  have e : g = s.heap.get? := funext h
  rw [e]
  rfl
section
variable {M : ModD} {P : Program} {w : World} {K : PySem.W.Frag} {mg : Str → Option Value}
theorem mod_of (c : obsM M K = valM M) (t : M.okT = true) (be : ∀ e ∈ M.ents, BindOk e.d e.ps) (bi : ∀ i ∈ M.inis, BindOk i.d i.ps) (bx : ∀ p ∈ M.bexcs, bootBuiltins p.1 = some (.type p.2)) (g : ∃ h : Heap, K.In h ∧ h.Ns mainGlobals mg) : ModOk M K mg := by
  have c1 : M.okK K = true := congrArg (fun z : AlM => z.1) c
  have c2 : M.dfns.map (dfnW K) = M.dfns.map Dfn.val := congrArg (fun z : AlM => z.2) c
  exact ⟨t, c1, fun d hd => List.map_inj_left.mp c2 d hd, be, bi, bx, g⟩
theorem law_sp {n k : Nat} (h : ∀ ns : List Int, ns.length ≤ n → ∃ S, (lev M.prg k).call "law" [.rol (ns.map .int)] [] = .ok (.bl true) S) (H : Hp) (a : Addr) (ns : List Int) (hl : ns.length ≤ n) (hO : Only H) (hS : SqL K H a (ns.map V.int)) :
    spC K 1 ((lev M.prg k).call "law") [.ref a] H (fun v _ => v = .bl true) fun _ _ _ => False := by
  have hr : RoL K H a (ns.map V.int) := by
    rcases hS with (hS | ⟨o, hS⟩) | hS
    · rcases hO a with z | ⟨o, xs, z⟩
      · rw [z] at hS; cases hS
      · rw [z] at hS; cases hS
    · exact .inl ⟨o, hS⟩
    · exact .inr (.inr hS)
  have hi : ∀ ns : List Int, RepL K [] H (ns.map Mp.D.int) (ns.map V.int) := fun ns => by
    induction ns with
    | nil => exact .nil
    | cons i ns ih => exact .cons int_rep ih
  refine ⟨rfl, [], [.rol (ns.map .int)], [], .cons ?_ .nil, ⟨rfl, List.nodup_nil, fun n o e => by cases e⟩, ?_⟩
  · unfold Rep
    exact ⟨a, _, rfl, hr, hi ns⟩
  · obtain ⟨S, e⟩ := h ns hl
    rw [e]
    exact fun α' H' l s v r => rep_bl r
/-- what walk_ofE asks -/
theorem law_F {n k : Nat} {e : Ent} (t : M.okT = true) (be : ∀ e ∈ M.ents, BindOk e.d e.ps) (bi : ∀ i ∈ M.inis, BindOk i.d i.ps) (bx : ∀ p ∈ M.bexcs, bootBuiltins p.1 = some (.type p.2)) (he : M.ent "law" = some e) (hat : e.d.at_ = .glo "law") (hps : e.ps = [("script" : Str)]) (hfn : (("law" : Str), 1) ∈ M.funs)
    (h : ∀ ns : List Int, ns.length ≤ n → ∃ S, (lev M.prg k).call "law" [.rol (ns.map .int)] [] = .ok (.bl true) S) {fa : Addr} {hp : Heap} (KX : K.In hp) (c : obsM M K = valM M) (G : hp.Ns mainGlobals mg) (hmg : mg "law" = some (.ref fa)) :
    ∃ (K : PySem.W.Frag) (fd : FuncData) (sp : Sp), K.In hp ∧ (∀ (s : Shared) (u : Value), BindsTo s fd ⟨[u], []⟩ [("script", u)]) ∧
      (∀ (H : Hp) (a : Addr) (ns : List Int), ns.length ≤ n → Only H → SqL K H a (ns.map V.int) → sp [.ref a] H (fun v _ => v = .bl true) fun _ _ _ => False) ∧
      ∀ base : Heap, K.In base → base.Ns mainGlobals mg → FnOk P w K mg base (L2.CX P w) k fa fd ["script"] sp := by
  have O : ModOk M K mg := mod_of c t be bi bx ⟨hp, KX, G⟩
  obtain ⟨hm, hk⟩ := ent_mem he
  have k1 := O.k
  unfold ModD.okK at k1
  simp only [Bool.and_eq_true, List.all_eq_true] at k1
  have hd : e.d ∈ M.dfns := List.mem_append_left _ (List.mem_map_of_mem hm)
  have ea : fa = adr K e.d.at_ := by
    have z := hmg.symm.trans (He.glo_ok KX G (k1.2.1 _ hfn))
    cases z
    rw [hat]
    rfl
  subst ea
  obtain ⟨fd, FD⟩ := funD_of (O.w _ hd) (k1.1 _ hd)
  have bd := be e hm
  have b1 := FD.bindsA bd
  refine ⟨K, fd, spC K 1 ((lev M.prg k).call "law"), KX, fun s u => ?_, fun H a ns hl hO hS => law_sp h H a ns hl hO hS, fun base _ _ => ?_⟩
  · have z := b1 s [u] (by rw [hps]; rfl)
    rw [hps] at z
    exact z
  · cases k with
    | zero =>
      obtain ⟨fd', ps', kp, bd', F'⟩ := fnls (P := P) (w := w) (base := base) O 0 "law" e he
      exact ⟨fun vs H Q E z => by rw [z.1]; rfl, fun A outer s H args us vs Q E hr e0 hb r z => by
        obtain ⟨_, α, ds, S, _, _, z⟩ := z
        exact z.elim⟩
    | succ k =>
      have t1 := O.t
      unfold ModD.okT at t1
      rw [Bool.and_eq_true, List.all_eq_true] at t1
      have ok := t1.1 e hm
      have he' : M.ent e.key = some e := by rw [hk]; exact he
      have z := fnl_law (k := k) (P := P) (w := w) (base := base) he' (lnk_of O fun j _ => fnls O j) FD ok
      rw [hps, hk] at z
      exact z
theorem cx_law {P : Program} {w : World} : ∀ (H : Hp) (s : Shared) (e : Value) (s' : Shared), L2.CX P w [] H s (fun _ _ _ => False) e s' → False := fun _ _ _ _ ⟨_, _, _, _, _, _, _, _, _, _, _, _, z⟩ => z
/-- the law's end: its result is true -/
theorem walk_end {l : PySem.W.OpenLaw} {n k m : Nat} {q : Program} {loose : List Str} {XP : (Str → Option Value) → Heap → Prop} {d : DefRec} {e : Ent} (hn : l.most = some n) (hn2 : n ≤ sizeLine) (hdf : d.params.defaults = []) (hr : Room k callerA) (hname : d.name = ("law" : Str)) (t : M.okT = true) (be : ∀ e ∈ M.ents, BindOk e.d e.ps) (bi : ∀ i ∈ M.inis, BindOk i.d i.ps)
    (bx : ∀ p ∈ M.bexcs, bootBuiltins p.1 = some (.type p.2)) (he : M.ent "law" = some e) (hat : e.d.at_ = .glo "law") (hps : e.ps = [("script" : Str)]) (hfn : (M.funs.contains (("law" : Str), 1)) = true)
    (h : ∀ ns : List Int, ns.length ≤ n → ∃ S, (lev M.prg k).call "law" [.rol (ns.map .int)] [] = .ok (.bl true) S) : PySem.W.WalkO q loose XP (hookM m M).says l.row.toRowW d [] (fun f vs => PySem.call f vs) := by
  have hfn : (("law" : Str), 1) ∈ M.funs := by simpa using hfn
  refine Att.attach_call hn hdf fun w s₀ s₁ mg mb fa o pm cd doc a vs ns G Y ho hd hcd hmg hobj hints hlen hg => ?_
  obtain ⟨K, KX, c⟩ := Y
  rw [hname] at hmg
  obtain ⟨K', fd, sp, KX', hb, hsp, hF⟩ := law_F (P := l.prog) (w := w) (n := n) (k := k) t be bi bx he hat hps hfn h KX c G.T.g hmg
  exact law_call KX' G.T.g G.T.b G.T.builtins G.T.nolimit hg hobj hints (Nat.le_trans hlen hn2) hr hF hb (fun H hO hS => hsp H a ns hlen hO hS) fun H e s' => cx_law H s₁ e s'
end
end Mp
end
section
set_option Elab.async false
set_option linter.all false
set_option maxRecDepth 100000
set_option maxHeartbeats 0
/-! the module of law_k42_winners_and_plans as core text (printed by tr.py) -/
namespace Mp.K42
open PySem L2
def pr : Program := PySem.Challenge.pw_pathschosen_k42_winners_and_plans
def top (i : Nat) : Stmt := pr.main.body.getD i (.Pass ⟨0, 0, 0, 0⟩)
def dfn (w : Wh) (n q : Str) (s : Stmt) : Dfn := ⟨w, n, q, defArgs s, defBody s, defScope s⟩
def p1_is_word : CSs :=
 (.cons (.ite (.cmp .NotIn (.var 1) (.glob "LETTERS")) (.cons (.ret (.bl false))
  .nil) .nil)
 .nil)
def c_is_word : CSs :=
 (.cons (.ite (.or (.cons (.not (.isI (.var 0) (.bi "str"))) (.cons (.cmp .Eq (.var 0) (.str "")) (.cons (.cmp .Gt (.blt .len (.cons (.var 0) .nil)) (.glob "MOST_LETTERS")) .nil)))) (.cons (.ret (.bl false))
  .nil) .nil)
 (.cons (.for_ (.name 1) (.seq (.var 0)) p1_is_word)
 (.cons (.ret (.bl true))
 .nil)))
def c_is_number : CSs :=
 (.cons (.ret (.and (.cons (.isI (.var 0) (.bi "int")) (.cons (.cmp2 .LtE .LtE (.int 0) (.var 0) (.glob "MOST_NUMBER")) .nil))))
 .nil)
def p1_write_part : CSs :=
 (.cons (.expr (.bm .append (.var 2) (.cons (.call "write_part" (.cons (.sub (.var 0) (.var 3)) (.cons (.bin .Add (.var 1) (.tup (.cons (.var 3) .nil))) .nil))) .nil)))
 .nil)
def c_write_part : CSs :=
 (.cons (.ite (.call "is_word" (.cons (.var 0) .nil)) (.cons (.ret (.var 0))
  .nil) .nil)
 (.cons (.ite (.call "is_number" (.cons (.var 0) .nil)) (.cons (.ret (.blt .str (.cons (.var 0) .nil)))
  .nil) .nil)
 (.cons (.ite (.or (.cons (.not (.isI (.var 0) (.bi "tuple"))) (.cons (.cmp .GtE (.blt .len (.cons (.var 1) .nil)) (.glob "MOST_DEPTH")) .nil))) (.cons (.raise "InvalidTerm" (.cons (.var 1) .nil))
  .nil) .nil)
 (.cons (.asg (.name 2) (.lst .nil))
 (.cons (.for_ (.name 3) (.range (.cons (.blt .len (.cons (.var 0) .nil)) .nil)) p1_write_part)
 (.cons (.ret (.bin .Add (.bin .Add (.str "(") (.bm .join (.str " ") (.cons (.var 2) .nil))) (.str ")")))
 .nil))))))
def c_write_term : CSs :=
 (.cons (.ret (.call "write_part" (.cons (.var 0) (.cons (.tup .nil) .nil))))
 .nil)
def p1_atom_end : CE :=
 (.and (.cons (.cmp .Lt (.var 4) (.blt .len (.cons (.var 0) .nil))) (.cons (.cmp .Lt (.bin .Sub (.var 4) (.var 1)) (.var 3)) (.cons (.cmp .In (.sub (.var 0) (.var 4)) (.var 2)) .nil))))
def p2_atom_end : CSs :=
 (.cons (.aug 4 .Add (.int 1))
 .nil)
def c_atom_end : CSs :=
 (.cons (.ite (.cmp .Eq (.var 1) (.blt .len (.cons (.var 0) .nil))) (.cons (.raise "InvalidText" (.cons (.var 1) .nil))
  .nil) .nil)
 (.cons (.asg (.name 2) (.glob "LETTERS"))
 (.cons (.asg (.name 3) (.glob "MOST_LETTERS"))
 (.cons (.ite (.cmp .In (.sub (.var 0) (.var 1)) (.glob "DIGITS")) (.cons (.asg (.name 2) (.glob "DIGITS"))
  (.cons (.asg (.name 3) (.glob "MOST_DIGITS"))
  (.cons (.ite (.cmp .Eq (.sub (.var 0) (.var 1)) (.str "0")) (.cons (.ret (.bin .Add (.var 1) (.int 1)))
   .nil) .nil)
  .nil))) .nil)
 (.cons (.ite (.cmp .NotIn (.sub (.var 0) (.var 1)) (.var 2)) (.cons (.raise "InvalidText" (.cons (.var 1) .nil))
  .nil) .nil)
 (.cons (.asg (.name 4) (.var 1))
 (.cons (.while_ p1_atom_end p2_atom_end)
 (.cons (.ret (.var 4))
 .nil))))))))
def c_atom : CSs :=
 (.cons (.ite (.cmp .In (.sub (.var 0) (.int 0)) (.glob "DIGITS")) (.cons (.ret (.blt .int (.cons (.var 0) .nil)))
  .nil) .nil)
 (.cons (.ret (.var 0))
 .nil))
def c_whole : CSs :=
 (.cons (.ite (.cmp .NotEq (.var 2) (.blt .len (.cons (.var 1) .nil))) (.cons (.raise "InvalidText" (.cons (.var 2) .nil))
  .nil) .nil)
 (.cons (.ret (.var 0))
 .nil))
def p1_read_term : CE :=
 (.bl true)
def p2_read_term : CE :=
 (.cmp .Eq (.slc (.var 0) (.some (.var 2)) (.some (.bin .Add (.var 2) (.int 1)))) (.str ")"))
def p3_read_term : CSs :=
 (.cons (.aug 2 .Add (.int 1))
 (.cons (.asg (.name 4) (.blt .tuple (.cons (.bm .pop (.var 1) .nil) .nil)))
 (.cons (.ite (.cmp .Eq (.blt .len (.cons (.var 1) .nil)) (.int 0)) (.cons (.ret (.call "whole" (.cons (.var 4) (.cons (.var 0) (.cons (.var 2) .nil)))))
  .nil) .nil)
 (.cons (.expr (.bm .append (.sub (.var 1) (.neg (.int 1))) (.cons (.var 4) .nil)))
 .nil))))
def p4_read_term : CSs :=
 (.cons (.ite (.cmp .Eq (.slc (.var 0) (.some (.var 2)) (.some (.bin .Add (.var 2) (.int 1)))) (.str "(")) (.cons (.ite (.cmp .Eq (.blt .len (.cons (.var 1) .nil)) (.glob "MOST_DEPTH")) (.cons (.raise "InvalidText" (.cons (.var 2) .nil))
   .nil) .nil)
  (.cons (.expr (.bm .append (.var 1) (.cons (.lst .nil) .nil)))
  (.cons (.aug 2 .Add (.int 1))
  (.cons (.ite (.cmp .NotEq (.slc (.var 0) (.some (.var 2)) (.some (.bin .Add (.var 2) (.int 1)))) (.str ")")) (.cons .cont
   .nil) .nil)
  .nil)))) (.cons (.asg (.name 3) (.call "atom_end" (.cons (.var 0) (.cons (.var 2) .nil))))
  (.cons (.asg (.name 4) (.call "atom" (.cons (.slc (.var 0) (.some (.var 2)) (.some (.var 3))) .nil)))
  (.cons (.asg (.name 2) (.var 3))
  (.cons (.ite (.cmp .Eq (.blt .len (.cons (.var 1) .nil)) (.int 0)) (.cons (.ret (.call "whole" (.cons (.var 4) (.cons (.var 0) (.cons (.var 2) .nil)))))
   .nil) .nil)
  (.cons (.expr (.bm .append (.sub (.var 1) (.neg (.int 1))) (.cons (.var 4) .nil)))
  .nil))))))
 (.cons (.while_ p2_read_term p3_read_term)
 (.cons (.ite (.cmp .NotEq (.slc (.var 0) (.some (.var 2)) (.some (.bin .Add (.var 2) (.int 1)))) (.str " ")) (.cons (.raise "InvalidText" (.cons (.var 2) .nil))
  .nil) .nil)
 (.cons (.aug 2 .Add (.int 1))
 .nil))))
def c_read_term : CSs :=
 (.cons (.asg (.name 1) (.lst .nil))
 (.cons (.asg (.name 2) (.int 0))
 (.cons (.while_ p1_read_term p4_read_term)
 .nil)))
def c_is_outcome : CSs :=
 (.cons (.ret (.and (.cons (.isI (.var 0) (.bi "int")) (.cons (.cmp2 .LtE .LtE (.int 0) (.var 0) (.int 1)) .nil))))
 .nil)
def c_check_tree : CSs :=
 (.cons (.ite (.or (.cons (.not (.isI (.var 0) (.bi "tuple"))) (.cons (.cmp .Eq (.blt .len (.cons (.var 0) .nil)) (.int 0)) (.cons (.cmp .NotIn (.sub (.var 0) (.int 0)) (.tup (.cons (.str "end") (.cons (.str "node") .nil)))) .nil)))) (.cons (.raise "InvalidDuel" (.cons (.var 1) .nil))
  .nil) .nil)
 (.cons (.ite (.and (.cons (.cmp .Eq (.sub (.var 0) (.int 0)) (.str "end")) (.cons (.cmp .NotEq (.blt .len (.cons (.var 0) .nil)) (.int 2)) .nil))) (.cons (.raise "InvalidDuel" (.cons (.var 1) .nil))
  .nil) .nil)
 (.cons (.ite (.and (.cons (.cmp .Eq (.sub (.var 0) (.int 0)) (.str "node")) (.cons (.or (.cons (.not (.cmp2 .LtE .LtE (.int 3) (.blt .len (.cons (.var 0) .nil)) (.bin .Add (.int 2) (.glob "MOST_TREES")))) (.cons (.cmp .GtE (.var 2) (.ccon "Duel" "MOST_LEVELS")) .nil))) .nil))) (.cons (.raise "InvalidDuel" (.cons (.var 1) .nil))
  .nil) .nil)
 (.cons (.ite (.not (.call "is_outcome" (.cons (.sub (.var 0) (.int 1)) .nil))) (.cons (.raise "InvalidDuel" (.cons (.bin .Add (.var 1) (.tup (.cons (.int 1) .nil))) .nil))
  .nil) .nil)
 .nil))))
def p1_scan_tree : CE :=
 (.call "scan_tree" (.cons (.sub (.var 0) (.var 9)) (.cons (.bin .Add (.var 1) (.tup (.cons (.var 9) .nil))) (.cons (.bin .Add (.var 2) (.int 1)) (.cons (.var 3) .nil)))))
def c_scan_tree : CSs :=
 (.cons (.expr (.call "check_tree" (.cons (.var 0) (.cons (.var 1) (.cons (.var 2) .nil)))))
 (.cons (.asg (.tup [6, 7, 8]) (.var 3))
 (.cons (.ite (.cmp .Eq (.sub (.var 0) (.int 0)) (.str "end")) (.cons (.expr (.bm .append (.var 8) (.cons (.sub (.var 0) (.int 1)) .nil)))
  (.cons (.ret (.tup (.cons (.str "leaf") (.cons (.bin .Sub (.blt .len (.cons (.var 8) .nil)) (.int 1)) .nil))))
  .nil)) .nil)
 (.cons (.asg (.name 4) (.blt .len (.cons (.var 6) .nil)))
 (.cons (.expr (.bm .append (.var 6) (.cons (.sub (.var 0) (.int 1)) .nil)))
 (.cons (.expr (.bm .append (.var 7) (.cons (.tup .nil) .nil)))
 (.cons (.asg (.name 5) (.lc p1_scan_tree (.name 9) (.range (.cons (.int 2) (.cons (.blt .len (.cons (.var 0) .nil)) .nil))) .nil))
 (.cons (.set (.var 7) (.var 4) (.blt .tuple (.cons (.var 5) .nil)))
 (.cons (.ret (.tup (.cons (.str "node") (.cons (.var 4) .nil))))
 .nil)))))))))
def p1_tree_with_ends : CSs :=
 (.cons (.asg (.tup [6, 4]) (.call "tree_with_ends" (.cons (.var 5) (.cons (.var 1) (.cons (.var 4) .nil)))))
 (.cons (.expr (.bm .append (.var 3) (.cons (.var 6) .nil)))
 .nil))
def c_tree_with_ends : CSs :=
 (.cons (.ite (.cmp .Eq (.sub (.var 0) (.int 0)) (.str "end")) (.cons (.ret (.tup (.cons (.tup (.cons (.str "end") (.cons (.sub (.var 1) (.var 2)) .nil))) (.cons (.bin .Add (.var 2) (.int 1)) .nil))))
  .nil) .nil)
 (.cons (.asg (.name 3) (.lst .nil))
 (.cons (.asg (.name 4) (.var 2))
 (.cons (.for_ (.name 5) (.seq (.slc (.var 0) (.some (.int 2)) .none)) p1_tree_with_ends)
 (.cons (.ret (.tup (.cons (.bin .Add (.slc (.var 0) .none (.some (.int 2))) (.blt .tuple (.cons (.var 3) .nil))) (.cons (.var 4) .nil))))
 .nil)))))
def p1_swapped_tree : CE :=
 (.call "swapped_tree" (.cons (.var 1) .nil))
def c_swapped_tree : CSs :=
 (.cons (.ret (.bin .Add (.tup (.cons (.sub (.var 0) (.int 0)) (.cons (.bin .Sub (.int 1) (.sub (.var 0) (.int 1))) .nil))) (.blt .tuple (.cons (.lc p1_swapped_tree (.name 1) (.seq (.slc (.var 0) (.some (.int 2)) .none)) .nil) .nil))))
 .nil)
def c_swapped : CSs :=
 (.cons (.ret (.make "Duel" (.cons (.call "swapped_tree" (.cons (.fld (.var 0) "tree") .nil)) .nil)))
 .nil)
def c_entry_of : CSs :=
 (.cons (.asg (.tup [3, 4]) (.var 0))
 (.cons (.ite (.cmp .Eq (.var 3) (.str "leaf")) (.cons (.ret (.sub (.var 2) (.var 4)))
  .nil) .nil)
 (.cons (.ret (.sub (.var 1) (.var 4)))
 .nil)))
def p1_winners_with : CE :=
 (.call "entry_of" (.cons (.var 7) (.cons (.var 2) (.cons (.var 1) .nil))))
def p2_winners_with : CSs :=
 (.cons (.asg (.name 4) (.sub (.fld (.var 0) "sides") (.var 3)))
 (.cons (.asg (.name 5) (.lc p1_winners_with (.name 7) (.seq (.sub (.fld (.var 0) "children") (.var 3))) .nil))
 (.cons (.ite (.cmp .In (.var 4) (.var 5)) (.cons (.set (.var 2) (.var 3) (.var 4))
  .nil) (.cons (.ite (.cmp .NotIn .non (.var 5)) (.cons (.set (.var 2) (.var 3) (.bin .Sub (.int 1) (.var 4)))
   .nil) .nil)
  .nil))
 .nil)))
def p3_winners_with : CE :=
 .non
def c_winners_with : CSs :=
 (.cons (.asg (.name 2) (.lc p3_winners_with (.name 6) (.seq (.fld (.var 0) "sides")) .nil))
 (.cons (.for_ (.name 3) (.range (.cons (.bin .Sub (.blt .len (.cons (.fld (.var 0) "sides") .nil)) (.int 1)) (.cons (.neg (.int 1)) (.cons (.neg (.int 1)) .nil)))) p2_winners_with)
 (.cons (.ret (.var 2))
 .nil)))
def c_winner : CSs :=
 (.cons (.ret (.call "entry_of" (.cons (.fld (.var 0) "root") (.cons (.call "winners_with" (.cons (.var 0) (.cons (.fld (.var 0) "ends") .nil))) (.cons (.fld (.var 0) "ends") .nil)))))
 .nil)
def c_node_winners : CSs :=
 (.cons (.ret (.blt .tuple (.cons (.call "winners_with" (.cons (.var 0) (.cons (.fld (.var 0) "ends") .nil))) .nil)))
 .nil)
def p1_winning_plan : CE :=
 (.call "entry_of" (.cons (.var 7) (.cons (.var 1) (.cons (.fld (.var 0) "ends") .nil))))
def p2_winning_plan : CSs :=
 (.cons (.asg (.name 6) (.lc p1_winning_plan (.name 7) (.seq (.var 5)) .nil))
 (.cons (.ite (.cmp .NotEq (.var 4) (.var 2)) (.cons (.expr (.bm .append (.var 3) (.cons .non .nil)))
  .nil) (.cons (.ite (.cmp .In (.var 2) (.var 6)) (.cons (.expr (.bm .append (.var 3) (.cons (.bm .index (.var 6) (.cons (.var 2) .nil)) .nil)))
   .nil) (.cons (.expr (.bm .append (.var 3) (.cons (.int 0) .nil)))
   .nil))
  .nil))
 .nil))
def c_winning_plan : CSs :=
 (.cons (.asg (.name 1) (.call "winners_with" (.cons (.var 0) (.cons (.fld (.var 0) "ends") .nil))))
 (.cons (.asg (.name 2) (.call "entry_of" (.cons (.fld (.var 0) "root") (.cons (.var 1) (.cons (.fld (.var 0) "ends") .nil)))))
 (.cons (.asg (.name 3) (.lst .nil))
 (.cons (.for_ (.tup [4, 5]) (.zip (.fld (.var 0) "sides") (.fld (.var 0) "children")) p2_winning_plan)
 (.cons (.ret (.blt .tuple (.cons (.var 3) .nil)))
 .nil)))))
def p1_require_plan : CSs :=
 (.cons (.ite (.or (.cons (.cmp .GtE (.var 2) (.blt .len (.cons (.var 1) .nil))) (.cons (.cmp .GtE (.var 2) (.blt .len (.cons (.fld (.var 0) "sides") .nil))) .nil))) (.cons (.raise "InvalidPlan" (.cons (.var 2) .nil))
  .nil) .nil)
 (.cons (.asg (.name 3) (.sub (.var 1) (.var 2)))
 (.cons (.ite (.and (.cons (.cmp .IsNot (.var 3) .non) (.cons (.not (.cmp2 .LtE .Lt (.int 0) (.var 3) (.blt .len (.cons (.sub (.fld (.var 0) "children") (.var 2)) .nil)))) .nil))) (.cons (.raise "InvalidPlan" (.cons (.var 2) .nil))
  .nil) .nil)
 .nil)))
def c_require_plan : CSs :=
 (.cons (.for_ (.name 2) (.range (.cons (.blt .max (.cons (.blt .len (.cons (.var 1) .nil)) (.cons (.blt .len (.cons (.fld (.var 0) "sides") .nil)) .nil))) .nil)) p1_require_plan)
 .nil)
def p1_is_winning : CE :=
 (.call "entry_of" (.cons (.var 9) (.cons (.var 4) (.cons (.var 3) .nil))))
def p2_is_winning : CSs :=
 (.cons (.asg (.name 6) (.lc p1_is_winning (.name 9) (.seq (.sub (.fld (.var 0) "children") (.var 5))) .nil))
 (.cons (.ite (.cmp .Is (.sub (.var 1) (.var 5)) .non) (.cons (.set (.var 4) (.var 5) (.blt .all (.cons (.var 6) .nil)))
  .nil) (.cons (.set (.var 4) (.var 5) (.sub (.var 6) (.sub (.var 1) (.var 5))))
  .nil))
 .nil))
def p3_is_winning : CE :=
 (.bl false)
def p4_is_winning : CE :=
 (.cmp .Eq (.var 7) (.var 2))
def c_is_winning : CSs :=
 (.cons (.expr (.call "require_plan" (.cons (.var 0) (.cons (.var 1) .nil))))
 (.cons (.ite (.not (.call "is_outcome" (.cons (.var 2) .nil))) (.cons (.raise "OutOfRange" (.cons (.str "not an outcome") .nil))
  .nil) .nil)
 (.cons (.asg (.name 3) (.lc p4_is_winning (.name 7) (.seq (.fld (.var 0) "ends")) .nil))
 (.cons (.asg (.name 4) (.lc p3_is_winning (.name 8) (.seq (.fld (.var 0) "sides")) .nil))
 (.cons (.for_ (.name 5) (.range (.cons (.bin .Sub (.blt .len (.cons (.fld (.var 0) "sides") .nil)) (.int 1)) (.cons (.neg (.int 1)) (.cons (.neg (.int 1)) .nil)))) p2_is_winning)
 (.cons (.ret (.call "entry_of" (.cons (.fld (.var 0) "root") (.cons (.var 4) (.cons (.var 3) .nil)))))
 .nil))))))
def p1__law_start : CSs :=
 (.cons (.asg (.name 1) (.bin .Mod (.bin .Add (.bin .Add (.bin .Add (.bin .Mult (.var 1) (.int 48271)) (.bin .Mod (.blt .int (.cons (.sub (.var 0) (.var 2)) .nil)) (.int 2147483647))) (.var 2)) (.int 1)) (.int 2147483647)))
 .nil)
def c__law_start : CSs :=
 (.cons (.asg (.name 1) (.int 7))
 (.cons (.for_ (.name 2) (.range (.cons (.blt .len (.cons (.var 0) .nil)) .nil)) p1__law_start)
 (.cons (.ret (.lst (.cons (.var 1) (.cons (.blt .list (.cons (.var 0) .nil)) (.cons (.int 0) (.cons (.int 0) .nil))))))
 .nil)))
def c__law_pick : CSs :=
 (.cons (.ite (.cmp .GtE (.sub (.var 0) (.int 3)) (.var 1)) (.cons (.asg (.name 4) (.blt .int (.cons (.sub (.var 0) (.int 3)) .nil)))
  (.cons (.set (.var 0) (.int 3) (.bin .FloorDiv (.var 4) (.var 1)))
  (.cons (.ret (.bin .Mod (.var 4) (.var 1)))
  .nil))) .nil)
 (.cons (.asg (.name 2) (.int 11))
 (.cons (.ite (.cmp .Lt (.sub (.var 0) (.int 2)) (.blt .len (.cons (.sub (.var 0) (.int 1)) .nil))) (.cons (.asg (.name 2) (.blt .int (.cons (.sub (.sub (.var 0) (.int 1)) (.sub (.var 0) (.int 2))) .nil)))
  (.cons (.set (.var 0) (.int 2) (.bin .Add (.sub (.var 0) (.int 2)) (.int 1)))
  (.cons (.ite (.cmp .Lt (.var 2) (.int 0)) (.cons (.asg (.name 2) (.bin .Sub (.int 1) (.var 2)))
   .nil) .nil)
  (.cons (.ite (.cmp .GtE (.var 2) (.bin .Pow (.int 10) (.int 18))) (.cons (.set (.var 0) (.int 3) (.bin .FloorDiv (.var 2) (.var 1)))
   (.cons (.ret (.bin .Mod (.var 2) (.var 1)))
   .nil)) .nil)
  .nil)))) .nil)
 (.cons (.asg (.name 3) (.bin .Mod (.bin .Mult (.bin .Add (.bin .Add (.blt .int (.cons (.sub (.var 0) (.int 0)) .nil)) (.bin .Mod (.var 2) (.int 2147483647))) (.int 1)) (.int 48271)) (.int 2147483647)))
 (.cons (.set (.var 0) (.int 0) (.bin .Mod (.bin .Add (.bin .Mult (.var 3) (.int 69621)) (.int 12345)) (.int 2147483647)))
 (.cons (.ret (.bin .Mod (.bin .FloorDiv (.blt .int (.cons (.sub (.var 0) (.int 0)) .nil)) (.int 7)) (.var 1)))
 .nil))))))
def p1__law_same : CE :=
 (.call "_law_same" (.cons (.sub (.var 0) (.var 2)) (.cons (.sub (.var 1) (.var 2)) .nil)))
def c__law_same : CSs :=
 (.cons (.ite (.isI (.var 1) (.bi "tuple")) (.cons (.ite (.or (.cons (.not (.isI (.var 0) (.bi "tuple"))) (.cons (.cmp .NotEq (.blt .len (.cons (.var 0) .nil)) (.blt .len (.cons (.var 1) .nil))) .nil))) (.cons (.ret (.bl false))
   .nil) .nil)
  (.cons (.ret (.blt .all (.cons (.lc p1__law_same (.name 2) (.range (.cons (.blt .len (.cons (.var 1) .nil)) .nil)) .nil) .nil)))
  .nil)) .nil)
 (.cons (.ite (.cmp .Is (.var 1) .non) (.cons (.ret (.cmp .Is (.var 0) .non))
  .nil) .nil)
 (.cons (.ite (.isI (.var 1) (.bi "str")) (.cons (.ret (.and (.cons (.isI (.var 0) (.bi "str")) (.cons (.cmp .Eq (.var 0) (.var 1)) .nil))))
  .nil) .nil)
 (.cons (.ite (.isI (.var 1) (.bi "bool")) (.cons (.ret (.and (.cons (.isI (.var 0) (.bi "bool")) (.cons (.cmp .Eq (.var 0) (.var 1)) .nil))))
  .nil) .nil)
 (.cons (.ret (.and (.cons (.isI (.var 0) (.bi "int")) (.cons (.not (.isI (.var 0) (.bi "bool"))) (.cons (.cmp .Eq (.var 0) (.var 1)) .nil)))))
 .nil)))))
def p1__law_tree : CSs :=
 (.cons (.asg (.name 6) (.bin .Sub (.var 1) (.int 1)))
 (.cons (.ite (.cmp .Eq (.call "_law_pick" (.cons (.var 0) (.cons (.int 4) .nil))) (.int 0)) (.cons (.asg (.name 6) (.int 0))
  .nil) .nil)
 (.cons (.expr (.bm .append (.var 4) (.cons (.call "_law_tree" (.cons (.var 0) (.cons (.var 6) (.cons (.var 2) .nil)))) .nil)))
 .nil)))
def c__law_tree : CSs :=
 (.cons (.ite (.or (.cons (.cmp .Eq (.var 1) (.int 0)) (.cons (.cmp .Eq (.sub (.var 2) (.int 0)) (.int 0)) .nil))) (.cons (.ret (.tup (.cons (.str "end") (.cons (.call "_law_pick" (.cons (.var 0) (.cons (.int 2) .nil))) .nil))))
  .nil) .nil)
 (.cons (.asg (.name 3) (.blt .min (.cons (.bin .Add (.int 1) (.sub (.var 2) (.int 1))) (.cons (.sub (.lst (.cons (.int 1) (.cons (.int 2) (.cons (.int 2) (.cons (.int 2) (.cons (.int 3) (.cons (.int 3) (.cons (.int 5) (.cons (.int 12) .nil))))))))) (.call "_law_pick" (.cons (.var 0) (.cons (.int 8) .nil)))) .nil))))
 (.cons (.set (.var 2) (.int 0) (.bin .Sub (.sub (.var 2) (.int 0)) (.int 1)))
 (.cons (.set (.var 2) (.int 1) (.bin .Sub (.sub (.var 2) (.int 1)) (.bin .Sub (.var 3) (.int 1))))
 (.cons (.asg (.name 4) (.lst .nil))
 (.cons (.for_ (.name 5) (.range (.cons (.var 3) .nil)) p1__law_tree)
 (.cons (.ite (.cmp .Eq (.call "_law_pick" (.cons (.var 0) (.cons (.int 2) .nil))) (.int 0)) (.cons (.expr (.bm .reverse (.var 4) .nil))
  .nil) .nil)
 (.cons (.ret (.bin .Add (.tup (.cons (.str "node") (.cons (.call "_law_pick" (.cons (.var 0) (.cons (.int 2) .nil))) .nil))) (.blt .tuple (.cons (.var 4) .nil))))
 .nil))))))))
def p1__law_scan : CSs :=
 (.cons (.expr (.bm .append (.var 3) (.cons (.call "_law_scan" (.cons (.var 5) (.cons (.var 1) (.cons (.var 2) .nil)))) .nil)))
 .nil)
def c__law_scan : CSs :=
 (.cons (.ite (.cmp .Eq (.sub (.var 0) (.int 0)) (.str "end")) (.cons (.expr (.bm .append (.var 2) (.cons (.sub (.var 0) (.int 1)) .nil)))
  (.cons (.ret (.tup (.cons (.int 0) (.cons (.bin .Sub (.blt .len (.cons (.var 2) .nil)) (.int 1)) .nil))))
  .nil)) .nil)
 (.cons (.asg (.name 3) (.lst .nil))
 (.cons (.asg (.name 4) (.blt .len (.cons (.var 1) .nil)))
 (.cons (.expr (.bm .append (.var 1) (.cons (.lst (.cons (.sub (.var 0) (.int 1)) (.cons (.var 3) .nil))) .nil)))
 (.cons (.for_ (.name 5) (.seq (.slc (.var 0) (.some (.int 2)) .none)) p1__law_scan)
 (.cons (.ret (.tup (.cons (.int 1) (.cons (.var 4) .nil))))
 .nil))))))
def c__law_at : CSs :=
 (.cons (.ite (.cmp .Eq (.sub (.var 0) (.int 0)) (.int 0)) (.cons (.ret (.sub (.var 2) (.sub (.var 0) (.int 1))))
  .nil) .nil)
 (.cons (.ret (.sub (.var 1) (.sub (.var 0) (.int 1))))
 .nil))
def p1__law_winners : CE :=
 (.call "_law_at" (.cons (.var 8) (.cons (.var 2) (.cons (.var 1) .nil))))
def p2__law_winners : CSs :=
 (.cons (.asg (.name 4) (.bin .Sub (.bin .Sub (.blt .len (.cons (.var 0) .nil)) (.int 1)) (.var 3)))
 (.cons (.asg (.name 5) (.sub (.sub (.var 0) (.var 4)) (.int 0)))
 (.cons (.asg (.name 6) (.lc p1__law_winners (.name 8) (.seq (.sub (.sub (.var 0) (.var 4)) (.int 1))) .nil))
 (.cons (.set (.var 2) (.var 4) (.bin .Sub (.int 1) (.var 5)))
 (.cons (.ite (.cmp .In (.var 5) (.var 6)) (.cons (.set (.var 2) (.var 4) (.var 5))
  .nil) .nil)
 .nil)))))
def p3__law_winners : CE :=
 (.int 0)
def c__law_winners : CSs :=
 (.cons (.asg (.name 2) (.lc p3__law_winners (.name 7) (.seq (.var 0)) .nil))
 (.cons (.for_ (.name 3) (.range (.cons (.blt .len (.cons (.var 0) .nil)) .nil)) p2__law_winners)
 (.cons (.ret (.var 2))
 .nil)))
def p1__law_due_plan : CE :=
 (.call "_law_at" (.cons (.var 8) (.cons (.var 2) (.cons (.var 1) .nil))))
def p2__law_due_plan : CSs :=
 (.cons (.asg (.name 6) (.lc p1__law_due_plan (.name 8) (.seq (.sub (.var 5) (.int 1))) .nil))
 (.cons (.asg (.name 7) .non)
 (.cons (.ite (.cmp .Eq (.sub (.var 5) (.int 0)) (.var 3)) (.cons (.asg (.name 7) (.int 0))
  (.cons (.ite (.cmp .In (.var 3) (.var 6)) (.cons (.asg (.name 7) (.bm .index (.var 6) (.cons (.var 3) .nil)))
   .nil) .nil)
  .nil)) .nil)
 (.cons (.asg (.name 4) (.bin .Add (.var 4) (.tup (.cons (.var 7) .nil))))
 .nil))))
def c__law_due_plan : CSs :=
 (.cons (.asg (.name 4) (.tup .nil))
 (.cons (.for_ (.name 5) (.seq (.var 0)) p2__law_due_plan)
 (.cons (.ret (.var 4))
 .nil)))
def p1__law_reached : CSs :=
 (.cons (.ite (.or (.cons (.cmp .Is (.sub (.var 2) (.sub (.var 1) (.int 1))) .non) (.cons (.cmp .Eq (.sub (.var 2) (.sub (.var 1) (.int 1))) (.var 5)) .nil))) (.cons (.asg (.name 4) (.bin .Add (.var 4) (.call "_law_reached" (.cons (.var 0) (.cons (.sub (.var 3) (.var 5)) (.cons (.var 2) .nil))))))
  .nil) .nil)
 .nil)
def c__law_reached : CSs :=
 (.cons (.ite (.cmp .Eq (.sub (.var 1) (.int 0)) (.int 0)) (.cons (.ret (.lst (.cons (.sub (.var 1) (.int 1)) .nil)))
  .nil) .nil)
 (.cons (.asg (.name 3) (.sub (.sub (.var 0) (.sub (.var 1) (.int 1))) (.int 1)))
 (.cons (.asg (.name 4) (.lst .nil))
 (.cons (.for_ (.name 5) (.range (.cons (.blt .len (.cons (.var 3) .nil)) .nil)) p1__law_reached)
 (.cons (.ret (.var 4))
 .nil)))))
def p1__law_tells : CE :=
 (.sub (.var 8) (.int 0))
def c__law_tells : CSs :=
 (.cons (.asg (.name 2) (.lst .nil))
 (.cons (.asg (.name 3) (.lst .nil))
 (.cons (.asg (.name 4) (.call "_law_scan" (.cons (.var 1) (.cons (.var 2) (.cons (.var 3) .nil)))))
 (.cons (.ite (.or (.cons (.not (.call "_law_same" (.cons (.fld (.var 0) "tree") (.cons (.var 1) .nil)))) (.cons (.not (.call "_law_same" (.cons (.fld (.var 0) "ends") (.cons (.blt .tuple (.cons (.var 3) .nil)) .nil)))) .nil))) (.cons (.ret (.bl false))
  .nil) .nil)
 (.cons (.ite (.not (.call "_law_same" (.cons (.fld (.var 0) "sides") (.cons (.blt .tuple (.cons (.lc p1__law_tells (.name 8) (.seq (.var 2)) .nil) .nil)) .nil)))) (.cons (.ret (.bl false))
  .nil) .nil)
 (.cons (.asg (.name 5) (.call "_law_winners" (.cons (.var 2) (.cons (.var 3) .nil))))
 (.cons (.asg (.name 6) (.call "_law_at" (.cons (.var 4) (.cons (.var 5) (.cons (.var 3) .nil)))))
 (.cons (.ite (.or (.cons (.not (.call "_law_same" (.cons (.call "winner" (.cons (.var 0) .nil)) (.cons (.var 6) .nil)))) (.cons (.not (.call "_law_same" (.cons (.call "node_winners" (.cons (.var 0) .nil)) (.cons (.blt .tuple (.cons (.var 5) .nil)) .nil)))) .nil))) (.cons (.ret (.bl false))
  .nil) .nil)
 (.cons (.asg (.name 7) (.call "_law_due_plan" (.cons (.var 2) (.cons (.var 3) (.cons (.var 5) (.cons (.var 6) .nil))))))
 (.cons (.ret (.and (.cons (.call "_law_same" (.cons (.call "winning_plan" (.cons (.var 0) .nil)) (.cons (.var 7) .nil))) (.cons (.cmp .Is (.call "is_winning" (.cons (.var 0) (.cons (.var 7) (.cons (.var 6) .nil)))) (.bl true)) .nil))))
 .nil))))))))))
def p1__law_plays : CE :=
 (.cmp .Eq (.sub (.var 4) (.var 15)) (.var 14))
def p2__law_plays : CSs :=
 (.cons (.ite (.not (.call "_law_same" (.cons (.call "is_winning" (.cons (.var 1) (.cons (.var 11) (.cons (.var 14) .nil)))) (.cons (.blt .all (.cons (.lc p1__law_plays (.name 15) (.seq (.var 13)) .nil) .nil)) .nil)))) (.cons (.ret (.bl false))
  .nil) .nil)
 .nil)
def p3__law_plays : CSs :=
 (.cons (.asg (.name 13) (.call "_law_reached" (.cons (.var 3) (.cons (.var 5) (.cons (.var 11) .nil)))))
 (.cons (.for_ (.name 14) (.range (.cons (.int 2) .nil)) p2__law_plays)
 .nil))
def p4__law_plays : CSs :=
 (.cons (.asg (.name 8) (.bin .Add (.var 8) (.tup (.cons (.sub (.lst (.cons .non (.cons (.call "_law_pick" (.cons (.var 0) (.cons (.blt .len (.cons (.sub (.var 9) (.int 1)) .nil)) .nil))) .nil))) (.call "_law_pick" (.cons (.var 0) (.cons (.int 2) .nil)))) .nil))))
 .nil)
def c__law_plays : CSs :=
 (.cons (.asg (.name 3) (.lst .nil))
 (.cons (.asg (.name 4) (.lst .nil))
 (.cons (.asg (.name 5) (.call "_law_scan" (.cons (.var 2) (.cons (.var 3) (.cons (.var 4) .nil)))))
 (.cons (.asg (.name 6) (.call "_law_winners" (.cons (.var 3) (.cons (.var 4) .nil))))
 (.cons (.asg (.name 7) (.call "_law_due_plan" (.cons (.var 3) (.cons (.var 4) (.cons (.var 6) (.cons (.call "_law_at" (.cons (.var 5) (.cons (.var 6) (.cons (.var 4) .nil)))) .nil))))))
 (.cons (.asg (.name 8) (.tup .nil))
 (.cons (.for_ (.name 9) (.seq (.var 3)) p4__law_plays)
 (.cons (.asg (.name 10) (.var 7))
 (.cons (.ite (.cmp .Gt (.blt .len (.cons (.var 3) .nil)) (.int 0)) (.cons (.asg (.name 12) (.call "_law_pick" (.cons (.var 0) (.cons (.blt .len (.cons (.var 3) .nil)) .nil))))
  (.cons (.asg (.name 10) (.bin .Add (.bin .Add (.slc (.var 7) .none (.some (.var 12))) (.tup (.cons (.sub (.lst (.cons .non (.cons (.call "_law_pick" (.cons (.var 0) (.cons (.blt .len (.cons (.sub (.sub (.var 3) (.var 12)) (.int 1)) .nil)) .nil))) .nil))) (.call "_law_pick" (.cons (.var 0) (.cons (.int 2) .nil)))) .nil))) (.slc (.var 7) (.some (.bin .Add (.var 12) (.int 1))) .none)))
  .nil)) .nil)
 (.cons (.for_ (.name 11) (.seq (.lst (.cons (.var 7) (.cons (.var 8) (.cons (.var 10) .nil))))) p3__law_plays)
 (.cons (.ret (.and (.cons (.call "_law_wrong_plans" (.cons (.var 0) (.cons (.var 1) (.cons (.var 3) (.cons (.var 8) .nil))))) (.cons (.call "_law_same" (.cons (.call "_law_refused" (.cons (.var 1) (.cons (.var 8) (.cons (.int 1) .nil)))) (.cons (.tup (.cons (.str "let") (.cons (.int 0) .nil))) .nil))) .nil))))
 .nil)))))))))))
def c__law_refused : CSs :=
 (.cons (.try_ (.cons (.expr (.call "is_winning" (.cons (.var 0) (.cons (.var 1) (.cons (.var 2) .nil)))))
  .nil) (.cons "InvalidPlan" (some 3) (.cons (.ite (.or (.cons (.exI "InvalidTerm") (.cons (.exI "OutOfRange") (.cons (.exI "SizeMismatch") (.cons (.not (.exI "ProofsError")) .nil))))) (.cons (.ret (.tup (.cons (.str "other") (.cons (.int 0) .nil))))
   .nil) .nil)
  (.cons (.ret (.tup (.cons (.str "plan") (.cons (.exF "index") .nil))))
  .nil))
  (.cons "OutOfRange" (some 3) (.cons (.ite (.or (.cons (.exI "InvalidTerm") (.cons (.exI "TooLarge") (.cons (.exI "SizeMismatch") .nil)))) (.cons (.ret (.tup (.cons (.str "other") (.cons (.int 0) .nil))))
   .nil) .nil)
  (.cons (.ret (.tup (.cons (.str "range") (.cons (.int 0) .nil))))
  .nil))
  (.cons "ProofsError" none (.cons (.ret (.tup (.cons (.str "other") (.cons (.int 0) .nil))))
  .nil)
  .nil))))
 (.cons (.ret (.tup (.cons (.str "let") (.cons (.int 0) .nil))))
 .nil))
def c__law_wrong_plans : CSs :=
 (.cons (.asg (.name 4) (.sub (.lst (.cons (.int 2) (.cons (.neg (.int 1)) (.cons (.int 3) (.cons (.int 999999999) .nil))))) (.call "_law_pick" (.cons (.var 0) (.cons (.int 4) .nil)))))
 (.cons (.ite (.not (.call "_law_same" (.cons (.call "_law_refused" (.cons (.var 1) (.cons (.var 3) (.cons (.var 4) .nil)))) (.cons (.tup (.cons (.str "range") (.cons (.int 0) .nil))) .nil)))) (.cons (.ret (.bl false))
  .nil) .nil)
 (.cons (.asg (.name 5) (.bin .Add (.var 3) (.tup (.cons (.sub (.lst (.cons .non (.cons (.int 0) .nil))) (.call "_law_pick" (.cons (.var 0) (.cons (.int 2) .nil)))) .nil))))
 (.cons (.ite (.not (.call "_law_same" (.cons (.call "_law_refused" (.cons (.var 1) (.cons (.var 5) (.cons (.sub (.lst (.cons (.var 4) (.cons (.int 1) .nil))) (.call "_law_pick" (.cons (.var 0) (.cons (.int 2) .nil)))) .nil)))) (.cons (.tup (.cons (.str "plan") (.cons (.blt .len (.cons (.var 2) .nil)) .nil))) .nil)))) (.cons (.ret (.bl false))
  .nil) .nil)
 (.cons (.ite (.cmp .Eq (.blt .len (.cons (.var 2) .nil)) (.int 0)) (.cons (.ret (.bl true))
  .nil) .nil)
 (.cons (.asg (.name 6) (.call "_law_pick" (.cons (.var 0) (.cons (.blt .len (.cons (.var 2) .nil)) .nil))))
 (.cons (.asg (.name 7) (.bin .Add (.var 6) (.call "_law_pick" (.cons (.var 0) (.cons (.bin .Sub (.blt .len (.cons (.var 2) .nil)) (.var 6)) .nil)))))
 (.cons (.asg (.name 8) (.blt .list (.cons (.var 3) .nil)))
 (.cons (.set (.var 8) (.var 7) (.int 12))
 (.cons (.set (.var 8) (.var 6) (.sub (.lst (.cons (.blt .len (.cons (.sub (.sub (.var 2) (.var 6)) (.int 1)) .nil)) (.cons (.neg (.int 1)) (.cons (.int 12) .nil)))) (.call "_law_pick" (.cons (.var 0) (.cons (.int 3) .nil)))))
 (.cons (.ite (.not (.call "_law_same" (.cons (.call "_law_refused" (.cons (.var 1) (.cons (.blt .tuple (.cons (.var 8) .nil)) (.cons (.var 4) .nil)))) (.cons (.tup (.cons (.str "plan") (.cons (.var 6) .nil))) .nil)))) (.cons (.ret (.bl false))
  .nil) .nil)
 (.cons (.ret (.call "_law_same" (.cons (.call "_law_refused" (.cons (.var 1) (.cons (.slc (.var 3) .none (.some (.var 6))) (.cons (.int 0) .nil)))) (.cons (.tup (.cons (.str "plan") (.cons (.var 6) .nil))) .nil))))
 .nil))))))))))))
def p1__law_replaced : CE :=
 (.call "_law_replaced" (.cons (.var 3) (.cons (.var 1) (.cons (.var 2) .nil))))
def c__law_replaced : CSs :=
 (.cons (.ite (.cmp .Eq (.sub (.var 0) (.int 0)) (.str "end")) (.cons (.set (.var 2) (.int 0) (.bin .Add (.sub (.var 2) (.int 0)) (.int 1)))
  (.cons (.ret (.tup (.cons (.str "end") (.cons (.sub (.var 1) (.bin .Sub (.sub (.var 2) (.int 0)) (.int 1))) .nil))))
  .nil)) .nil)
 (.cons (.ret (.bin .Add (.slc (.var 0) .none (.some (.int 2))) (.blt .tuple (.cons (.lc p1__law_replaced (.name 3) (.seq (.slc (.var 0) (.some (.int 2)) .none)) .nil) .nil))))
 .nil))
def p1__law_exchanged : CE :=
 (.call "_law_exchanged" (.cons (.var 1) .nil))
def c__law_exchanged : CSs :=
 (.cons (.ite (.cmp .Eq (.sub (.var 0) (.int 0)) (.str "end")) (.cons (.ret (.tup (.cons (.str "end") (.cons (.bin .Sub (.int 1) (.sub (.var 0) (.int 1))) .nil))))
  .nil) .nil)
 (.cons (.ret (.bin .Add (.tup (.cons (.str "node") (.cons (.bin .Sub (.int 1) (.sub (.var 0) (.int 1))) .nil))) (.blt .tuple (.cons (.lc p1__law_exchanged (.name 1) (.seq (.slc (.var 0) (.some (.int 2)) .none)) .nil) .nil))))
 .nil))
def p1__law_text : CE :=
 (.call "_law_text" (.cons (.var 1) .nil))
def c__law_text : CSs :=
 (.cons (.ite (.isI (.var 0) (.bi "tuple")) (.cons (.ret (.bin .Add (.bin .Add (.str "(") (.bm .join (.str " ") (.cons (.lc p1__law_text (.name 1) (.seq (.var 0)) .nil) .nil))) (.str ")")))
  .nil) .nil)
 (.cons (.ret (.blt .str (.cons (.var 0) .nil)))
 .nil))
def c__law_made : CSs :=
 (.cons (.try_ (.cons (.ret (.tup (.cons (.str "made") (.cons (.fld (.make "Duel" (.cons (.var 0) .nil)) "tree") .nil))))
  .nil) (.cons "InvalidDuel" (some 1) (.cons (.ite (.and (.cons (.exI "InvalidTerm") (.cons (.exI "ValueError") (.cons (.not (.exI "InvalidQuery")) .nil)))) (.cons (.ret (.tup (.cons (.str "wrong") (.cons (.exF "path") .nil))))
   .nil) .nil)
  (.cons (.ret (.tup (.cons (.str "other") (.cons (.int 0) .nil))))
  .nil))
  (.cons "TooLarge" (some 1) (.cons (.ite (.or (.cons (.exI "InvalidTerm") (.cons (.exI "OutOfRange") .nil))) (.cons (.ret (.tup (.cons (.str "other") (.cons (.int 0) .nil))))
   .nil) .nil)
  (.cons (.ret (.tup (.cons (.str "large") (.cons (.int 0) .nil))))
  .nil))
  (.cons "ProofsError" none (.cons (.ret (.tup (.cons (.str "other") (.cons (.int 0) .nil))))
  .nil)
  .nil))))
 .nil)
def c__law_read : CSs :=
 (.cons (.try_ (.cons (.ret (.tup (.cons (.str "made") (.cons (.fld (.smeth "Duel" "read" (.cons (.var 0) .nil)) "tree") .nil))))
  .nil) (.cons "InvalidDuel" (some 1) (.cons (.ret (.tup (.cons (.str "wrong") (.cons (.exF "path") .nil))))
  .nil)
  (.cons "InvalidTerm" (some 1) (.cons (.ite (.or (.cons (.exI "InvalidQuery") (.cons (.exI "InvalidText") .nil))) (.cons (.ret (.tup (.cons (.str "other") (.cons (.int 0) .nil))))
   .nil) .nil)
  (.cons (.ret (.tup (.cons (.str "term") (.cons (.exF "path") .nil))))
  .nil))
  (.cons "InvalidText" (some 1) (.cons (.ret (.tup (.cons (.str "text") (.cons (.exF "position") .nil))))
  .nil)
  (.cons "ProofsError" none (.cons (.ret (.tup (.cons (.str "other") (.cons (.int 0) .nil))))
  .nil)
  .nil)))))
 .nil)
def c__law_with : CSs :=
 (.cons (.try_ (.cons (.ret (.tup (.cons (.str "made") (.cons (.fld (.meth "with_ends" (.var 0) (.cons (.var 1) .nil)) "tree") .nil))))
  .nil) (.cons "OutOfRange" (some 2) (.cons (.ite (.or (.cons (.exI "InvalidTerm") (.cons (.exI "TooLarge") .nil))) (.cons (.ret (.tup (.cons (.str "other") (.cons (.int 0) .nil))))
   .nil) .nil)
  (.cons (.ret (.tup (.cons (.str "range") (.cons (.int 0) .nil))))
  .nil))
  (.cons "ProofsError" none (.cons (.ret (.tup (.cons (.str "other") (.cons (.int 0) .nil))))
  .nil)
  .nil)))
 .nil)
def p1__law_paths : CSs :=
 (.cons (.expr (.call "_law_paths" (.cons (.sub (.var 0) (.var 3)) (.cons (.bin .Add (.var 1) (.tup (.cons (.var 3) .nil))) (.cons (.var 2) .nil)))))
 .nil)
def c__law_paths : CSs :=
 (.cons (.expr (.bm .append (.var 2) (.cons (.var 1) .nil)))
 (.cons (.ite (.cmp .Eq (.sub (.var 0) (.int 0)) (.str "node")) (.cons (.for_ (.name 3) (.range (.cons (.int 2) (.cons (.blt .len (.cons (.var 0) .nil)) .nil))) p1__law_paths)
  .nil) .nil)
 .nil))
def c__law_put : CSs :=
 (.cons (.ite (.cmp .Eq (.blt .len (.cons (.var 1) .nil)) (.int 0)) (.cons (.ret (.var 2))
  .nil) .nil)
 (.cons (.ret (.bin .Add (.bin .Add (.slc (.var 0) .none (.some (.sub (.var 1) (.int 0)))) (.tup (.cons (.call "_law_put" (.cons (.sub (.var 0) (.sub (.var 1) (.int 0))) (.cons (.slc (.var 1) (.some (.int 1)) .none) (.cons (.var 2) .nil)))) .nil))) (.slc (.var 0) (.some (.bin .Add (.sub (.var 1) (.int 0)) (.int 1))) .none)))
 .nil))
def p1__law_spoilt : CSs :=
 (.cons (.asg (.name 7) (.sub (.var 2) (.var 6)))
 (.cons (.ite (.cmp .Eq (.call "_law_pick" (.cons (.var 0) (.cons (.int 2) .nil))) (.int 0)) (.cons (.asg (.name 5) (.bin .Add (.var 7) (.tup (.cons (.int 1) .nil))))
  (.cons (.asg (.name 1) (.call "_law_put" (.cons (.var 1) (.cons (.var 5) (.cons (.sub (.lst (.cons (.int 2) (.cons (.str "one") (.cons (.tup .nil) (.cons (.tup (.cons (.str "end") (.cons (.int 0) .nil))) (.cons (.int 999999999) .nil)))))) (.call "_law_pick" (.cons (.var 0) (.cons (.int 5) .nil)))) .nil)))))
  .nil)) (.cons (.asg (.name 5) (.var 7))
  (.cons (.asg (.name 8) (.bin .Mult (.tup (.cons (.tup (.cons (.str "end") (.cons (.int 1) .nil))) .nil)) (.int 13)))
  (.cons (.asg (.name 9) (.lst (.cons (.int 7) (.cons (.str "end") (.cons (.tup .nil) (.cons (.tup (.cons (.str "leaf") (.cons (.int 0) .nil))) (.cons (.tup (.cons (.str "end") .nil)) (.cons (.tup (.cons (.str "end") (.cons (.int 1) (.cons (.int 1) .nil)))) (.cons (.tup (.cons (.str "node") (.cons (.int 1) .nil))) (.cons (.bin .Add (.tup (.cons (.str "node") (.cons (.int 0) .nil))) (.var 8)) (.cons (.tup (.cons (.tup (.cons (.str "end") (.cons (.int 0) .nil))) .nil)) (.cons (.tup (.cons (.str "node") .nil)) .nil))))))))))))
  (.cons (.asg (.name 1) (.call "_law_put" (.cons (.var 1) (.cons (.var 7) (.cons (.sub (.var 9) (.call "_law_pick" (.cons (.var 0) (.cons (.int 10) .nil)))) .nil)))))
  .nil)))))
 .nil))
def c__law_spoilt : CSs :=
 (.cons (.asg (.name 2) (.lst .nil))
 (.cons (.expr (.call "_law_paths" (.cons (.var 1) (.cons (.tup .nil) (.cons (.var 2) .nil)))))
 (.cons (.asg (.name 3) (.call "_law_pick" (.cons (.var 0) (.cons (.blt .len (.cons (.var 2) .nil)) .nil))))
 (.cons (.asg (.name 4) (.lst (.cons (.bin .Add (.var 3) (.call "_law_pick" (.cons (.var 0) (.cons (.bin .Sub (.blt .len (.cons (.var 2) .nil)) (.var 3)) .nil)))) (.cons (.var 3) .nil))))
 (.cons (.asg (.name 5) (.tup .nil))
 (.cons (.ite (.cmp .Eq (.sub (.var 4) (.int 0)) (.var 3)) (.cons (.asg (.name 4) (.lst (.cons (.var 3) .nil)))
  .nil) .nil)
 (.cons (.for_ (.name 6) (.seq (.var 4)) p1__law_spoilt)
 (.cons (.ret (.lst (.cons (.var 1) (.cons (.var 5) .nil))))
 .nil))))))))
def p1__law_grouped : CSs :=
 (.cons (.expr (.bm .append (.var 8) (.cons (.bin .Add (.tup (.cons (.str "node") (.cons (.call "_law_pick" (.cons (.var 0) (.cons (.int 2) .nil))) .nil))) (.blt .tuple (.cons (.slc (.var 3) (.some (.bin .Mult (.int 12) (.var 5))) (.some (.bin .Add (.bin .Mult (.int 12) (.var 5)) (.int 12)))) .nil))) .nil)))
 .nil)
def p2__law_grouped : CSs :=
 (.cons (.asg (.name 8) (.lst .nil))
 (.cons (.for_ (.name 5) (.range (.cons (.bin .FloorDiv (.bin .Add (.blt .len (.cons (.var 3) .nil)) (.int 11)) (.int 12)) .nil)) p1__law_grouped)
 (.cons (.asg (.name 3) (.var 8))
 .nil)))
def p3__law_grouped : CSs :=
 (.cons (.asg (.name 7) (.bin .Mod (.blt .int (.cons (.var 5) .nil)) (.var 1)))
 (.cons (.set (.var 3) (.var 7) (.tup (.cons (.str "node") (.cons (.call "_law_pick" (.cons (.var 0) (.cons (.int 2) .nil))) (.cons (.sub (.var 3) (.var 7)) .nil)))))
 .nil))
def p4__law_grouped : CE :=
 (.tup (.cons (.str "end") (.cons (.call "_law_pick" (.cons (.var 0) (.cons (.int 2) .nil))) .nil)))
def c__law_grouped : CSs :=
 (.cons (.asg (.name 3) (.lc p4__law_grouped (.name 5) (.range (.cons (.var 1) .nil)) .nil))
 (.cons (.asg (.name 4) (.bin .Add (.bin .Add (.bin .FloorDiv (.bin .Add (.var 1) (.int 11)) (.int 12)) (.bin .FloorDiv (.bin .Add (.var 1) (.int 143)) (.int 144))) (.int 1)))
 (.cons (.for_ (.name 5) (.range (.cons (.bin .Sub (.var 2) (.var 4)) .nil)) p3__law_grouped)
 (.cons (.for_ (.name 6) (.range (.cons (.int 3) .nil)) p2__law_grouped)
 (.cons (.ret (.sub (.var 3) (.int 0)))
 .nil)))))
def p1__law_chain : CSs :=
 (.cons (.asg (.name 5) (.call "_law_pick" (.cons (.var 0) (.cons (.int 2) .nil))))
 (.cons (.asg (.name 6) (.tup (.cons (.str "end") (.cons (.call "_law_pick" (.cons (.var 0) (.cons (.int 2) .nil))) .nil))))
 (.cons (.ite (.cmp .Eq (.call "_law_pick" (.cons (.var 0) (.cons (.int 2) .nil))) (.int 0)) (.cons (.asg (.name 2) (.tup (.cons (.str "node") (.cons (.var 5) (.cons (.var 2) (.cons (.var 6) .nil))))))
  (.cons (.asg (.name 3) (.bin .Add (.tup (.cons (.int 2) .nil)) (.var 3)))
  .nil)) (.cons (.asg (.name 2) (.tup (.cons (.str "node") (.cons (.var 5) (.cons (.var 6) (.cons (.var 2) .nil))))))
  (.cons (.asg (.name 3) (.bin .Add (.tup (.cons (.int 3) .nil)) (.var 3)))
  .nil)))
 .nil)))
def c__law_chain : CSs :=
 (.cons (.asg (.name 2) (.tup (.cons (.str "end") (.cons (.call "_law_pick" (.cons (.var 0) (.cons (.int 2) .nil))) .nil))))
 (.cons (.asg (.name 3) (.tup .nil))
 (.cons (.for_ (.name 4) (.range (.cons (.var 1) .nil)) p1__law_chain)
 (.cons (.ret (.lst (.cons (.var 2) (.cons (.var 3) .nil))))
 .nil))))
def c__law_limits : CSs :=
 (.cons (.ite (.not (.call "_law_same" (.cons (.tup (.cons (.ccon "Duel" "MOST_NODES") (.cons (.ccon "Duel" "MOST_LEAVES") (.cons (.ccon "Duel" "MOST_LEVELS") .nil)))) (.cons (.tup (.cons (.int 200) (.cons (.int 200) (.cons (.int 20) .nil)))) .nil)))) (.cons (.ret (.bl false))
  .nil) .nil)
 (.cons (.asg (.name 1) (.call "_law_chain" (.cons (.var 0) (.cons (.bin .Add (.int 20) (.call "_law_pick" (.cons (.var 0) (.cons (.int 2) .nil)))) .nil))))
 (.cons (.ite (.and (.cons (.cmp .Eq (.blt .len (.cons (.sub (.var 1) (.int 1)) .nil)) (.int 21)) (.cons (.not (.call "_law_same" (.cons (.call "_law_made" (.cons (.sub (.var 1) (.int 0)) .nil)) (.cons (.tup (.cons (.str "wrong") (.cons (.slc (.sub (.var 1) (.int 1)) .none (.some (.int 20))) .nil))) .nil)))) .nil))) (.cons (.ret (.bl false))
  .nil) .nil)
 (.cons (.ite (.and (.cons (.cmp .Eq (.blt .len (.cons (.sub (.var 1) (.int 1)) .nil)) (.int 20)) (.cons (.not (.call "_law_tells" (.cons (.make "Duel" (.cons (.sub (.var 1) (.int 0)) .nil)) (.cons (.sub (.var 1) (.int 0)) .nil)))) .nil))) (.cons (.ret (.bl false))
  .nil) .nil)
 (.cons (.asg (.name 2) (.bin .Add (.int 199) (.call "_law_pick" (.cons (.var 0) (.cons (.int 3) .nil)))))
 (.cons (.asg (.name 3) (.sub (.lst (.cons (.int 20) (.cons (.int 21) (.cons (.int 150) (.cons (.int 199) (.cons (.int 200) (.cons (.int 201) .nil))))))) (.call "_law_pick" (.cons (.var 0) (.cons (.int 6) .nil)))))
 (.cons (.asg (.name 4) (.call "_law_grouped" (.cons (.var 0) (.cons (.var 2) (.cons (.var 3) .nil)))))
 (.cons (.ite (.and (.cons (.cmp .Lt (.var 2) (.int 201)) (.cons (.cmp .Lt (.var 3) (.int 201)) .nil))) (.cons (.ret (.call "_law_tells" (.cons (.make "Duel" (.cons (.var 4) .nil)) (.cons (.var 4) .nil))))
  .nil) .nil)
 (.cons (.ite (.not (.call "_law_same" (.cons (.call "_law_made" (.cons (.var 4) .nil)) (.cons (.tup (.cons (.str "large") (.cons (.int 0) .nil))) .nil)))) (.cons (.ret (.bl false))
  .nil) .nil)
 (.cons (.asg (.name 5) (.call "_law_spoilt" (.cons (.var 0) (.cons (.var 4) .nil))))
 (.cons (.ret (.call "_law_same" (.cons (.call "_law_made" (.cons (.sub (.var 5) (.int 0)) .nil)) (.cons (.tup (.cons (.str "wrong") (.cons (.sub (.var 5) (.int 1)) .nil))) .nil))))
 .nil)))))))))))
def c__law_texts : CSs :=
 (.cons (.asg (.name 3) (.call "_law_text" (.cons (.tup (.cons (.str "duel") (.cons (.var 2) .nil))) .nil)))
 (.cons (.ite (.or (.cons (.not (.call "_law_same" (.cons (.meth "text" (.var 1) .nil) (.cons (.var 3) .nil)))) (.cons (.not (.call "_law_same" (.cons (.call "_law_read" (.cons (.var 3) .nil)) (.cons (.tup (.cons (.str "made") (.cons (.var 2) .nil))) .nil)))) .nil))) (.cons (.ret (.bl false))
  .nil) .nil)
 (.cons (.asg (.name 4) (.call "_law_spoilt" (.cons (.var 0) (.cons (.var 2) .nil))))
 (.cons (.ite (.not (.call "_law_same" (.cons (.call "_law_made" (.cons (.sub (.var 4) (.int 0)) .nil)) (.cons (.tup (.cons (.str "wrong") (.cons (.sub (.var 4) (.int 1)) .nil))) .nil)))) (.cons (.ret (.bl false))
  .nil) .nil)
 (.cons (.ite (.not (.call "_law_same" (.cons (.call "_law_read" (.cons (.call "_law_text" (.cons (.tup (.cons (.str "duel") (.cons (.sub (.var 4) (.int 0)) .nil))) .nil)) .nil)) (.cons (.tup (.cons (.str "wrong") (.cons (.sub (.var 4) (.int 1)) .nil))) .nil)))) (.cons (.ret (.bl false))
  .nil) .nil)
 (.cons (.asg (.name 5) (.sub (.lst (.cons (.tup (.cons (.str "duel") .nil)) (.cons (.tup (.cons (.str "duel") (.cons (.var 2) (.cons (.int 0) .nil)))) (.cons (.tup (.cons (.str "dual") (.cons (.var 2) .nil))) (.cons (.bin .Add (.var 2) (.tup (.cons (.int 0) (.cons (.int 0) .nil)))) (.cons (.str "duel") .nil)))))) (.call "_law_pick" (.cons (.var 0) (.cons (.int 5) .nil)))))
 (.cons (.ite (.not (.call "_law_same" (.cons (.call "_law_read" (.cons (.call "_law_text" (.cons (.var 5) .nil)) .nil)) (.cons (.tup (.cons (.str "term") (.cons (.tup .nil) .nil))) .nil)))) (.cons (.ret (.bl false))
  .nil) .nil)
 (.cons (.asg (.name 6) (.call "_law_pick" (.cons (.var 0) (.cons (.blt .len (.cons (.var 3) .nil)) .nil))))
 (.cons (.ret (.call "_law_same" (.cons (.call "_law_read" (.cons (.slc (.var 3) .none (.some (.var 6))) .nil)) (.cons (.tup (.cons (.str "text") (.cons (.var 6) .nil))) .nil))))
 .nil)))))))))
def p1_law : CSs :=
 (.cons (.ite (.not (.call "_law_same" (.cons (.call "_law_with" (.cons (.var 4) (.cons (.var 10) .nil))) (.cons (.tup (.cons (.str "range") (.cons (.int 0) .nil))) .nil)))) (.cons (.ret (.bl false))
  .nil) .nil)
 .nil)
def p2_law : CE :=
 (.call "_law_pick" (.cons (.var 1) (.cons (.int 2) .nil)))
def c_law : CSs :=
 (.cons (.asg (.name 1) (.call "_law_start" (.cons (.var 0) .nil)))
 (.cons (.asg (.name 2) (.lst (.cons (.sub (.lst (.cons (.int 1) (.cons (.int 2) (.cons (.int 3) (.cons (.int 5) (.cons (.int 8) (.cons (.int 14) .nil))))))) (.call "_law_pick" (.cons (.var 1) (.cons (.int 6) .nil)))) (.cons (.sub (.lst (.cons (.int 1) (.cons (.int 3) (.cons (.int 6) (.cons (.int 11) (.cons (.int 23) .nil)))))) (.call "_law_pick" (.cons (.var 1) (.cons (.int 5) .nil)))) .nil))))
 (.cons (.asg (.name 3) (.call "_law_tree" (.cons (.var 1) (.cons (.sub (.lst (.cons (.int 0) (.cons (.int 1) (.cons (.int 2) (.cons (.int 3) (.cons (.int 4) (.cons (.int 5) (.cons (.int 7) .nil)))))))) (.call "_law_pick" (.cons (.var 1) (.cons (.int 7) .nil)))) (.cons (.var 2) .nil)))))
 (.cons (.asg (.name 4) (.make "Duel" (.cons (.var 3) .nil)))
 (.cons (.ite (.or (.cons (.not (.call "_law_tells" (.cons (.var 4) (.cons (.var 3) .nil)))) (.cons (.not (.call "_law_plays" (.cons (.var 1) (.cons (.var 4) (.cons (.var 3) .nil))))) .nil))) (.cons (.ret (.bl false))
  .nil) .nil)
 (.cons (.asg (.name 5) (.lst .nil))
 (.cons (.asg (.name 6) (.lst .nil))
 (.cons (.expr (.call "_law_scan" (.cons (.var 3) (.cons (.var 5) (.cons (.var 6) .nil)))))
 (.cons (.asg (.name 7) (.blt .tuple (.cons (.lc p2_law (.name 11) (.seq (.var 6)) .nil) .nil)))
 (.cons (.asg (.name 8) (.call "_law_replaced" (.cons (.var 3) (.cons (.var 7) (.cons (.lst (.cons (.int 0) .nil)) .nil)))))
 (.cons (.ite (.or (.cons (.not (.call "_law_tells" (.cons (.meth "with_ends" (.var 4) (.cons (.var 7) .nil)) (.cons (.var 8) .nil)))) (.cons (.not (.call "_law_tells" (.cons (.call "swapped" (.cons (.var 4) .nil)) (.cons (.call "_law_exchanged" (.cons (.var 3) .nil)) .nil)))) .nil))) (.cons (.ret (.bl false))
  .nil) .nil)
 (.cons (.asg (.name 9) (.call "_law_pick" (.cons (.var 1) (.cons (.blt .len (.cons (.var 6) .nil)) .nil))))
 (.cons (.for_ (.name 10) (.seq (.lst (.cons (.slc (.var 7) .none (.some (.var 9))) (.cons (.bin .Add (.var 7) (.tup (.cons (.int 0) .nil))) (.cons (.bin .Add (.bin .Add (.slc (.var 7) .none (.some (.var 9))) (.tup (.cons (.sub (.lst (.cons (.int 2) (.cons (.neg (.int 1)) .nil))) (.call "_law_pick" (.cons (.var 1) (.cons (.int 2) .nil)))) .nil))) (.slc (.var 7) (.some (.bin .Add (.var 9) (.int 1))) .none)) .nil))))) p1_law)
 (.cons (.ite (.or (.cons (.not (.call "_law_same" (.cons (.call "_law_with" (.cons (.var 4) (.cons (.var 7) .nil))) (.cons (.tup (.cons (.str "made") (.cons (.var 8) .nil))) .nil)))) (.cons (.not (.call "_law_texts" (.cons (.var 1) (.cons (.var 4) (.cons (.var 3) .nil))))) .nil))) (.cons (.ret (.bl false))
  .nil) .nil)
 (.cons (.ite (.and (.cons (.cmp .Eq (.call "_law_pick" (.cons (.var 1) (.cons (.int 6) .nil))) (.int 0)) (.cons (.not (.call "_law_limits" (.cons (.var 1) .nil))) .nil))) (.cons (.ret (.bl false))
  .nil) .nil)
 (.cons (.ret (.and (.cons (.call "_law_plays" (.cons (.var 1) (.cons (.make "Duel" (.cons (.var 8) .nil)) (.cons (.var 8) .nil)))) (.cons (.call "_law_tells" (.cons (.var 4) (.cons (.var 3) .nil))) .nil))))
 .nil))))))))))))))))
def c_Duel_init : CSs :=
 (.cons (.asg (.name 2) (.lst .nil))
 (.cons (.asg (.name 3) (.lst .nil))
 (.cons (.asg (.name 4) (.lst .nil))
 (.cons (.fld (.var 0) "root" (.call "scan_tree" (.cons (.var 1) (.cons (.tup .nil) (.cons (.int 0) (.cons (.tup (.cons (.var 2) (.cons (.var 3) (.cons (.var 4) .nil)))) .nil))))))
 (.cons (.ite (.or (.cons (.cmp .Gt (.blt .len (.cons (.var 2) .nil)) (.ccon "Duel" "MOST_NODES")) (.cons (.cmp .Gt (.blt .len (.cons (.var 4) .nil)) (.ccon "Duel" "MOST_LEAVES")) .nil))) (.cons (.raise "TooLarge" (.cons (.str "the nodes or leaves of a duel") .nil))
  .nil) .nil)
 (.cons (.fld (.var 0) "tree" (.var 1))
 (.cons (.fld (.var 0) "ends" (.blt .tuple (.cons (.var 4) .nil)))
 (.cons (.fld (.var 0) "sides" (.blt .tuple (.cons (.var 2) .nil)))
 (.cons (.fld (.var 0) "children" (.blt .tuple (.cons (.var 3) .nil)))
 .nil)))))))))
def p1_Duel_with_ends : CE :=
 (.call "is_outcome" (.cons (.var 2) .nil))
def c_Duel_with_ends : CSs :=
 (.cons (.ite (.or (.cons (.cmp .NotEq (.blt .len (.cons (.var 1) .nil)) (.blt .len (.cons (.fld (.var 0) "ends") .nil))) (.cons (.not (.blt .all (.cons (.lc p1_Duel_with_ends (.name 2) (.seq (.var 1)) .nil) .nil))) .nil))) (.cons (.raise "OutOfRange" (.cons (.str "one outcome for each leaf is due") .nil))
  .nil) .nil)
 (.cons (.ret (.make "Duel" (.cons (.sub (.call "tree_with_ends" (.cons (.fld (.var 0) "tree") (.cons (.var 1) (.cons (.int 0) .nil)))) (.int 0)) .nil)))
 .nil))
def c_Duel_text : CSs :=
 (.cons (.ret (.call "write_term" (.cons (.tup (.cons (.str "duel") (.cons (.fld (.var 0) "tree") .nil))) .nil)))
 .nil)
def c_Duel_read : CSs :=
 (.cons (.asg (.name 1) (.call "read_term" (.cons (.var 0) .nil)))
 (.cons (.ite (.or (.cons (.not (.isI (.var 1) (.bi "tuple"))) (.cons (.cmp .NotEq (.blt .len (.cons (.var 1) .nil)) (.int 2)) (.cons (.cmp .NotEq (.sub (.var 1) (.int 0)) (.str "duel")) .nil)))) (.cons (.raise "InvalidTerm" (.cons (.tup .nil) .nil))
  .nil) .nil)
 (.cons (.ret (.make "Duel" (.cons (.sub (.var 1) (.int 1)) .nil)))
 .nil)))
def ec_is_word : Ent := ⟨"is_word", dfn (.glo "is_word") "is_word" "is_word" (top 17), ["item"], ["item", "sign"], c_is_word⟩
def ec_is_number : Ent := ⟨"is_number", dfn (.glo "is_number") "is_number" "is_number" (top 18), ["item"], ["item"], c_is_number⟩
def ec_write_part : Ent := ⟨"write_part", dfn (.glo "write_part") "write_part" "write_part" (top 19), ["term", "path"], ["term", "path", "texts", "k"], c_write_part⟩
def ec_write_term : Ent := ⟨"write_term", dfn (.glo "write_term") "write_term" "write_term" (top 20), ["term"], ["term"], c_write_term⟩
def ec_atom_end : Ent := ⟨"atom_end", dfn (.glo "atom_end") "atom_end" "atom_end" (top 21), ["text", "start"], ["text", "start", "signs", "most", "end"], c_atom_end⟩
def ec_atom : Ent := ⟨"atom", dfn (.glo "atom") "atom" "atom" (top 22), ["text"], ["text"], c_atom⟩
def ec_whole : Ent := ⟨"whole", dfn (.glo "whole") "whole" "whole" (top 23), ["item", "text", "at"], ["item", "text", "at"], c_whole⟩
def ec_read_term : Ent := ⟨"read_term", dfn (.glo "read_term") "read_term" "read_term" (top 24), ["text"], ["text", "lists", "at", "end", "item"], c_read_term⟩
def ec_is_outcome : Ent := ⟨"is_outcome", dfn (.glo "is_outcome") "is_outcome" "is_outcome" (top 28), ["item"], ["item"], c_is_outcome⟩
def ec_check_tree : Ent := ⟨"check_tree", dfn (.glo "check_tree") "check_tree" "check_tree" (top 29), ["tree", "path", "levels"], ["tree", "path", "levels"], c_check_tree⟩
def ec_scan_tree : Ent := ⟨"scan_tree", dfn (.glo "scan_tree") "scan_tree" "scan_tree" (top 30), ["tree", "path", "levels", "lists"], ["tree", "path", "levels", "lists", "index", "behind", "sides", "children", "ends", "k"], c_scan_tree⟩
def ec_tree_with_ends : Ent := ⟨"tree_with_ends", dfn (.glo "tree_with_ends") "tree_with_ends" "tree_with_ends" (top 31), ["tree", "ends", "start"], ["tree", "ends", "start", "behind", "at", "inner", "changed"], c_tree_with_ends⟩
def ec_swapped_tree : Ent := ⟨"swapped_tree", dfn (.glo "swapped_tree") "swapped_tree" "swapped_tree" (top 32), ["tree"], ["tree", "inner"], c_swapped_tree⟩
def ec_swapped : Ent := ⟨"swapped", dfn (.glo "swapped") "swapped" "swapped" (top 33), ["duel"], ["duel"], c_swapped⟩
def ec_entry_of : Ent := ⟨"entry_of", dfn (.glo "entry_of") "entry_of" "entry_of" (top 34), ["child", "at_nodes", "at_leaves"], ["child", "at_nodes", "at_leaves", "kind", "number"], c_entry_of⟩
def ec_winners_with : Ent := ⟨"winners_with", dfn (.glo "winners_with") "winners_with" "winners_with" (top 35), ["duel", "ends"], ["duel", "ends", "winners", "index", "side", "behind", "_", "child"], c_winners_with⟩
def ec_winner : Ent := ⟨"winner", dfn (.glo "winner") "winner" "winner" (top 36), ["duel"], ["duel"], c_winner⟩
def ec_node_winners : Ent := ⟨"node_winners", dfn (.glo "node_winners") "node_winners" "node_winners" (top 37), ["duel"], ["duel"], c_node_winners⟩
def ec_winning_plan : Ent := ⟨"winning_plan", dfn (.glo "winning_plan") "winning_plan" "winning_plan" (top 38), ["duel"], ["duel", "winners", "outcome", "plan", "side", "children", "behind", "child"], c_winning_plan⟩
def ec_require_plan : Ent := ⟨"require_plan", dfn (.glo "require_plan") "require_plan" "require_plan" (top 39), ["duel", "plan"], ["duel", "plan", "index", "option"], c_require_plan⟩
def ec_is_winning : Ent := ⟨"is_winning", dfn (.glo "is_winning") "is_winning" "is_winning" (top 40), ["duel", "plan", "outcome"], ["duel", "plan", "outcome", "reached", "kept", "index", "behind", "end", "_", "child"], c_is_winning⟩
def ec__law_start : Ent := ⟨"_law_start", dfn (.glo "_law_start") "_law_start" "_law_start" (top 42), ["script"], ["script", "seed", "k"], c__law_start⟩
def ec__law_pick : Ent := ⟨"_law_pick", dfn (.glo "_law_pick") "_law_pick" "_law_pick" (top 43), ["state", "limit"], ["state", "limit", "cell", "mixed", "rest"], c__law_pick⟩
def ec__law_same : Ent := ⟨"_law_same", dfn (.glo "_law_same") "_law_same" "_law_same" (top 44), ["actual", "due"], ["actual", "due", "p"], c__law_same⟩
def ec__law_tree : Ent := ⟨"_law_tree", dfn (.glo "_law_tree") "_law_tree" "_law_tree" (top 45), ["state", "levels", "room"], ["state", "levels", "room", "many", "trees", "k", "deeper"], c__law_tree⟩
def ec__law_scan : Ent := ⟨"_law_scan", dfn (.glo "_law_scan") "_law_scan" "_law_scan" (top 46), ["tree", "nodes", "ends"], ["tree", "nodes", "ends", "options", "at", "inner"], c__law_scan⟩
def ec__law_at : Ent := ⟨"_law_at", dfn (.glo "_law_at") "_law_at" "_law_at" (top 47), ["child", "winners", "ends"], ["child", "winners", "ends"], c__law_at⟩
def ec__law_winners : Ent := ⟨"_law_winners", dfn (.glo "_law_winners") "_law_winners" "_law_winners" (top 48), ["nodes", "ends"], ["nodes", "ends", "winners", "k", "at", "side", "behind", "node", "child"], c__law_winners⟩
def ec__law_due_plan : Ent := ⟨"_law_due_plan", dfn (.glo "_law_due_plan") "_law_due_plan" "_law_due_plan" (top 49), ["nodes", "ends", "winners", "outcome"], ["nodes", "ends", "winners", "outcome", "plan", "node", "behind", "entry", "child"], c__law_due_plan⟩
def ec__law_reached : Ent := ⟨"_law_reached", dfn (.glo "_law_reached") "_law_reached" "_law_reached" (top 50), ["nodes", "child", "plan"], ["nodes", "child", "plan", "options", "found", "k"], c__law_reached⟩
def ec__law_tells : Ent := ⟨"_law_tells", dfn (.glo "_law_tells") "_law_tells" "_law_tells" (top 51), ["duel", "tree"], ["duel", "tree", "nodes", "ends", "root", "winners", "outcome", "plan", "node"], c__law_tells⟩
def ec__law_plays : Ent := ⟨"_law_plays", dfn (.glo "_law_plays") "_law_plays" "_law_plays" (top 52), ["state", "duel", "tree"], ["state", "duel", "tree", "nodes", "ends", "root", "winners", "due", "drawn", "node", "bent", "plan", "at", "reached", "goal", "leaf"], c__law_plays⟩
def ec__law_refused : Ent := ⟨"_law_refused", dfn (.glo "_law_refused") "_law_refused" "_law_refused" (top 53), ["duel", "plan", "goal"], ["duel", "plan", "goal", "e"], c__law_refused⟩
def ec__law_wrong_plans : Ent := ⟨"_law_wrong_plans", dfn (.glo "_law_wrong_plans") "_law_wrong_plans" "_law_wrong_plans" (top 54), ["state", "duel", "nodes", "plan"], ["state", "duel", "nodes", "plan", "wrong", "more", "at", "later", "spoilt"], c__law_wrong_plans⟩
def ec__law_replaced : Ent := ⟨"_law_replaced", dfn (.glo "_law_replaced") "_law_replaced" "_law_replaced" (top 55), ["tree", "ends", "count"], ["tree", "ends", "count", "inner"], c__law_replaced⟩
def ec__law_exchanged : Ent := ⟨"_law_exchanged", dfn (.glo "_law_exchanged") "_law_exchanged" "_law_exchanged" (top 56), ["tree"], ["tree", "inner"], c__law_exchanged⟩
def ec__law_text : Ent := ⟨"_law_text", dfn (.glo "_law_text") "_law_text" "_law_text" (top 57), ["term"], ["term", "item"], c__law_text⟩
def ec__law_made : Ent := ⟨"_law_made", dfn (.glo "_law_made") "_law_made" "_law_made" (top 58), ["tree"], ["tree", "e"], c__law_made⟩
def ec__law_read : Ent := ⟨"_law_read", dfn (.glo "_law_read") "_law_read" "_law_read" (top 59), ["text"], ["text", "e"], c__law_read⟩
def ec__law_with : Ent := ⟨"_law_with", dfn (.glo "_law_with") "_law_with" "_law_with" (top 60), ["duel", "ends"], ["duel", "ends", "e"], c__law_with⟩
def ec__law_paths : Ent := ⟨"_law_paths", dfn (.glo "_law_paths") "_law_paths" "_law_paths" (top 61), ["tree", "path", "found"], ["tree", "path", "found", "k"], c__law_paths⟩
def ec__law_put : Ent := ⟨"_law_put", dfn (.glo "_law_put") "_law_put" "_law_put" (top 62), ["term", "path", "part"], ["term", "path", "part"], c__law_put⟩
def ec__law_spoilt : Ent := ⟨"_law_spoilt", dfn (.glo "_law_spoilt") "_law_spoilt" "_law_spoilt" (top 63), ["state", "tree"], ["state", "tree", "paths", "at", "spots", "due", "spot", "path", "leaves", "wrong"], c__law_spoilt⟩
def ec__law_grouped : Ent := ⟨"_law_grouped", dfn (.glo "_law_grouped") "_law_grouped" "_law_grouped" (top 64), ["state", "leaves", "nodes"], ["state", "leaves", "nodes", "trees", "many", "k", "turn", "at", "groups"], c__law_grouped⟩
def ec__law_chain : Ent := ⟨"_law_chain", dfn (.glo "_law_chain") "_law_chain" "_law_chain" (top 65), ["state", "levels"], ["state", "levels", "tree", "path", "k", "side", "leaf"], c__law_chain⟩
def ec__law_limits : Ent := ⟨"_law_limits", dfn (.glo "_law_limits") "_law_limits" "_law_limits" (top 66), ["state"], ["state", "chain", "leaves", "nodes", "tree", "spoilt"], c__law_limits⟩
def ec__law_texts : Ent := ⟨"_law_texts", dfn (.glo "_law_texts") "_law_texts" "_law_texts" (top 67), ["state", "duel", "tree"], ["state", "duel", "tree", "text", "spoilt", "wrong", "cut"], c__law_texts⟩
def ec_law : Ent := ⟨"law", dfn (.glo "law") "law" "law" (top 68), ["script"], ["script", "state", "room", "tree", "duel", "nodes", "ends", "other", "changed", "at", "wrong", "end"], c_law⟩
def ec_Duel_init : Ent := ⟨"Duel.__init__", dfn (.met "Duel" "__init__") "__init__" "Duel.__init__" (inClass (top 27) 3), ["self", "tree"], ["self", "tree", "sides", "children", "ends"], c_Duel_init⟩
def ec_Duel_with_ends : Ent := ⟨"Duel.with_ends", dfn (.met "Duel" "with_ends") "with_ends" "Duel.with_ends" (inClass (top 27) 4), ["self", "ends"], ["self", "ends", "end"], c_Duel_with_ends⟩
def ec_Duel_text : Ent := ⟨"Duel.text", dfn (.met "Duel" "text") "text" "Duel.text" (inClass (top 27) 5), ["self"], ["self"], c_Duel_text⟩
def ec_Duel_read : Ent := ⟨"Duel.read", dfn (.sm "Duel" "read") "read" "Duel.read" (inClass (top 27) 6), ["text"], ["text", "term"], c_Duel_read⟩
def i_InvalidDuel : Ini := ⟨"InvalidDuel", dfn (.met "InvalidDuel" "__init__") "__init__" "InvalidTerm.__init__" (inClass (top 3) 0), ["self", "path"], [("path", 0)]⟩
def i_InvalidPlan : Ini := ⟨"InvalidPlan", dfn (.met "InvalidPlan" "__init__") "__init__" "InvalidPlan.__init__" (inClass (top 9) 0), ["self", "index"], [("index", 0)]⟩
def i_InvalidTerm : Ini := ⟨"InvalidTerm", dfn (.met "InvalidTerm" "__init__") "__init__" "InvalidTerm.__init__" (inClass (top 3) 0), ["self", "path"], [("path", 0)]⟩
def i_InvalidText : Ini := ⟨"InvalidText", dfn (.met "InvalidText" "__init__") "__init__" "InvalidText.__init__" (inClass (top 2) 0), ["self", "position"], [("position", 0)]⟩
def M : ModD where
  ents := [ec_is_word, ec_is_number, ec_write_part, ec_write_term, ec_atom_end, ec_atom, ec_whole, ec_read_term, ec_is_outcome, ec_check_tree, ec_scan_tree, ec_tree_with_ends, ec_swapped_tree, ec_swapped, ec_entry_of, ec_winners_with, ec_winner, ec_node_winners, ec_winning_plan, ec_require_plan, ec_is_winning, ec__law_start, ec__law_pick, ec__law_same, ec__law_tree, ec__law_scan, ec__law_at, ec__law_winners, ec__law_due_plan, ec__law_reached, ec__law_tells, ec__law_plays, ec__law_refused, ec__law_wrong_plans, ec__law_replaced, ec__law_exchanged, ec__law_text, ec__law_made, ec__law_read, ec__law_with, ec__law_paths, ec__law_put, ec__law_spoilt, ec__law_grouped, ec__law_chain, ec__law_limits, ec__law_texts, ec_law, ec_Duel_init, ec_Duel_with_ends, ec_Duel_text, ec_Duel_read]
  inis := [i_InvalidDuel, i_InvalidPlan, i_InvalidTerm, i_InvalidText]
  cInt := [(("MOST_LETTERS" : Str), 12), (("MOST_DIGITS" : Str), 9), (("MOST_NUMBER" : Str), 999999999), (("MOST_DEPTH" : Str), 200), (("MOST_TREES" : Str), 12)]
  cStr := [(("LETTERS" : Str), ("abcdefghijklmnopqrstuvwxyz" : Str)), (("DIGITS" : Str), ("0123456789" : Str))]
  blts := ["all", "bool", "int", "isinstance", "len", "list", "max", "min", "range", "str", "tuple", "zip"]
  funs := [(("is_word" : Str), 1), (("is_number" : Str), 1), (("write_part" : Str), 2), (("write_term" : Str), 1), (("atom_end" : Str), 2), (("atom" : Str), 1), (("whole" : Str), 3), (("read_term" : Str), 1), (("is_outcome" : Str), 1), (("check_tree" : Str), 3), (("scan_tree" : Str), 4), (("tree_with_ends" : Str), 3), (("swapped_tree" : Str), 1), (("swapped" : Str), 1), (("entry_of" : Str), 3), (("winners_with" : Str), 2), (("winner" : Str), 1), (("node_winners" : Str), 1), (("winning_plan" : Str), 1), (("require_plan" : Str), 2), (("is_winning" : Str), 3), (("_law_start" : Str), 1), (("_law_pick" : Str), 2), (("_law_same" : Str), 2), (("_law_tree" : Str), 3), (("_law_scan" : Str), 3), (("_law_at" : Str), 3), (("_law_winners" : Str), 2), (("_law_due_plan" : Str), 4), (("_law_reached" : Str), 3), (("_law_tells" : Str), 2), (("_law_plays" : Str), 3), (("_law_refused" : Str), 3), (("_law_wrong_plans" : Str), 4), (("_law_replaced" : Str), 3), (("_law_exchanged" : Str), 1), (("_law_text" : Str), 1), (("_law_made" : Str), 1), (("_law_read" : Str), 1), (("_law_with" : Str), 2), (("_law_paths" : Str), 3), (("_law_put" : Str), 3), (("_law_spoilt" : Str), 2), (("_law_grouped" : Str), 3), (("_law_chain" : Str), 2), (("_law_limits" : Str), 1), (("_law_texts" : Str), 3), (("law" : Str), 1)]
  inits := [(("Duel" : Str), 1)]
  fok := [(("Duel" : Str), ("children" : Str)), (("Duel" : Str), ("ends" : Str)), (("Duel" : Str), ("root" : Str)), (("Duel" : Str), ("sides" : Str)), (("Duel" : Str), ("tree" : Str))]
  mok := [((("Duel" : Str), ("with_ends" : Str)), 1), ((("Duel" : Str), ("text" : Str)), 0)]
  smeths := [((("Duel" : Str), ("read" : Str)), 1)]
  ccons := [((("Duel" : Str), ("MOST_LEAVES" : Str)), 200), ((("Duel" : Str), ("MOST_LEVELS" : Str)), 20), ((("Duel" : Str), ("MOST_NODES" : Str)), 200)]
  exf := [(("InvalidDuel" : Str), ("path" : Str)), (("InvalidPlan" : Str), ("index" : Str)), (("InvalidTerm" : Str), ("path" : Str)), (("InvalidText" : Str), ("position" : Str))]
  sub := [((("OutOfRange" : Str), ("InvalidDuel" : Str)), false), ((("OutOfRange" : Str), ("InvalidPlan" : Str)), false), ((("OutOfRange" : Str), ("InvalidQuery" : Str)), false), ((("OutOfRange" : Str), ("InvalidTerm" : Str)), false), ((("OutOfRange" : Str), ("InvalidText" : Str)), false), ((("OutOfRange" : Str), ("OutOfRange" : Str)), true), ((("OutOfRange" : Str), ("ProofsError" : Str)), true), ((("OutOfRange" : Str), ("SizeMismatch" : Str)), false), ((("OutOfRange" : Str), ("TooLarge" : Str)), false), ((("OutOfRange" : Str), ("ValueError" : Str)), true), ((("TooLarge" : Str), ("InvalidDuel" : Str)), false), ((("TooLarge" : Str), ("InvalidPlan" : Str)), false), ((("TooLarge" : Str), ("InvalidQuery" : Str)), false), ((("TooLarge" : Str), ("InvalidTerm" : Str)), false), ((("TooLarge" : Str), ("InvalidText" : Str)), false), ((("TooLarge" : Str), ("OutOfRange" : Str)), false), ((("TooLarge" : Str), ("ProofsError" : Str)), true), ((("TooLarge" : Str), ("SizeMismatch" : Str)), false), ((("TooLarge" : Str), ("TooLarge" : Str)), true), ((("TooLarge" : Str), ("ValueError" : Str)), true), ((("InvalidDuel" : Str), ("InvalidDuel" : Str)), true), ((("InvalidDuel" : Str), ("InvalidPlan" : Str)), false), ((("InvalidDuel" : Str), ("InvalidQuery" : Str)), false), ((("InvalidDuel" : Str), ("InvalidTerm" : Str)), true), ((("InvalidDuel" : Str), ("InvalidText" : Str)), false), ((("InvalidDuel" : Str), ("OutOfRange" : Str)), false), ((("InvalidDuel" : Str), ("ProofsError" : Str)), true), ((("InvalidDuel" : Str), ("SizeMismatch" : Str)), false), ((("InvalidDuel" : Str), ("TooLarge" : Str)), false), ((("InvalidDuel" : Str), ("ValueError" : Str)), true), ((("InvalidPlan" : Str), ("InvalidDuel" : Str)), false), ((("InvalidPlan" : Str), ("InvalidPlan" : Str)), true), ((("InvalidPlan" : Str), ("InvalidQuery" : Str)), false), ((("InvalidPlan" : Str), ("InvalidTerm" : Str)), false), ((("InvalidPlan" : Str), ("InvalidText" : Str)), false), ((("InvalidPlan" : Str), ("OutOfRange" : Str)), false), ((("InvalidPlan" : Str), ("ProofsError" : Str)), true), ((("InvalidPlan" : Str), ("SizeMismatch" : Str)), false), ((("InvalidPlan" : Str), ("TooLarge" : Str)), false), ((("InvalidPlan" : Str), ("ValueError" : Str)), true), ((("InvalidTerm" : Str), ("InvalidDuel" : Str)), false), ((("InvalidTerm" : Str), ("InvalidPlan" : Str)), false), ((("InvalidTerm" : Str), ("InvalidQuery" : Str)), false), ((("InvalidTerm" : Str), ("InvalidTerm" : Str)), true), ((("InvalidTerm" : Str), ("InvalidText" : Str)), false), ((("InvalidTerm" : Str), ("OutOfRange" : Str)), false), ((("InvalidTerm" : Str), ("ProofsError" : Str)), true), ((("InvalidTerm" : Str), ("SizeMismatch" : Str)), false), ((("InvalidTerm" : Str), ("TooLarge" : Str)), false), ((("InvalidTerm" : Str), ("ValueError" : Str)), true), ((("InvalidText" : Str), ("InvalidDuel" : Str)), false), ((("InvalidText" : Str), ("InvalidPlan" : Str)), false), ((("InvalidText" : Str), ("InvalidQuery" : Str)), false), ((("InvalidText" : Str), ("InvalidTerm" : Str)), false), ((("InvalidText" : Str), ("InvalidText" : Str)), true), ((("InvalidText" : Str), ("OutOfRange" : Str)), false), ((("InvalidText" : Str), ("ProofsError" : Str)), true), ((("InvalidText" : Str), ("SizeMismatch" : Str)), false), ((("InvalidText" : Str), ("TooLarge" : Str)), false), ((("InvalidText" : Str), ("ValueError" : Str)), true)]
  excs := ["InvalidDuel", "InvalidPlan", "InvalidQuery", "InvalidTerm", "InvalidText", "OutOfRange", "ProofsError", "SizeMismatch", "TooLarge"]
  bexcs := [(("ValueError" : Str), "ValueError")]
  exc0 := ["OutOfRange", "TooLarge"]
theorem okT : M.okT = true := by kernel_rfl
theorem bc_is_word : BindOk ec_is_word.d ec_is_word.ps := fun _ _ _ _ _ _ us hl => match us, hl with | [_], _ => rfl
theorem bc_is_number : BindOk ec_is_number.d ec_is_number.ps := fun _ _ _ _ _ _ us hl => match us, hl with | [_], _ => rfl
theorem bc_write_part : BindOk ec_write_part.d ec_write_part.ps := fun _ _ _ _ _ _ us hl => match us, hl with | [_, _], _ => rfl
theorem bc_write_term : BindOk ec_write_term.d ec_write_term.ps := fun _ _ _ _ _ _ us hl => match us, hl with | [_], _ => rfl
theorem bc_atom_end : BindOk ec_atom_end.d ec_atom_end.ps := fun _ _ _ _ _ _ us hl => match us, hl with | [_, _], _ => rfl
theorem bc_atom : BindOk ec_atom.d ec_atom.ps := fun _ _ _ _ _ _ us hl => match us, hl with | [_], _ => rfl
theorem bc_whole : BindOk ec_whole.d ec_whole.ps := fun _ _ _ _ _ _ us hl => match us, hl with | [_, _, _], _ => rfl
theorem bc_read_term : BindOk ec_read_term.d ec_read_term.ps := fun _ _ _ _ _ _ us hl => match us, hl with | [_], _ => rfl
theorem bc_is_outcome : BindOk ec_is_outcome.d ec_is_outcome.ps := fun _ _ _ _ _ _ us hl => match us, hl with | [_], _ => rfl
theorem bc_check_tree : BindOk ec_check_tree.d ec_check_tree.ps := fun _ _ _ _ _ _ us hl => match us, hl with | [_, _, _], _ => rfl
theorem bc_scan_tree : BindOk ec_scan_tree.d ec_scan_tree.ps := fun _ _ _ _ _ _ us hl => match us, hl with | [_, _, _, _], _ => rfl
theorem bc_tree_with_ends : BindOk ec_tree_with_ends.d ec_tree_with_ends.ps := fun _ _ _ _ _ _ us hl => match us, hl with | [_, _, _], _ => rfl
theorem bc_swapped_tree : BindOk ec_swapped_tree.d ec_swapped_tree.ps := fun _ _ _ _ _ _ us hl => match us, hl with | [_], _ => rfl
theorem bc_swapped : BindOk ec_swapped.d ec_swapped.ps := fun _ _ _ _ _ _ us hl => match us, hl with | [_], _ => rfl
theorem bc_entry_of : BindOk ec_entry_of.d ec_entry_of.ps := fun _ _ _ _ _ _ us hl => match us, hl with | [_, _, _], _ => rfl
theorem bc_winners_with : BindOk ec_winners_with.d ec_winners_with.ps := fun _ _ _ _ _ _ us hl => match us, hl with | [_, _], _ => rfl
theorem bc_winner : BindOk ec_winner.d ec_winner.ps := fun _ _ _ _ _ _ us hl => match us, hl with | [_], _ => rfl
theorem bc_node_winners : BindOk ec_node_winners.d ec_node_winners.ps := fun _ _ _ _ _ _ us hl => match us, hl with | [_], _ => rfl
theorem bc_winning_plan : BindOk ec_winning_plan.d ec_winning_plan.ps := fun _ _ _ _ _ _ us hl => match us, hl with | [_], _ => rfl
theorem bc_require_plan : BindOk ec_require_plan.d ec_require_plan.ps := fun _ _ _ _ _ _ us hl => match us, hl with | [_, _], _ => rfl
theorem bc_is_winning : BindOk ec_is_winning.d ec_is_winning.ps := fun _ _ _ _ _ _ us hl => match us, hl with | [_, _, _], _ => rfl
theorem bc__law_start : BindOk ec__law_start.d ec__law_start.ps := fun _ _ _ _ _ _ us hl => match us, hl with | [_], _ => rfl
theorem bc__law_pick : BindOk ec__law_pick.d ec__law_pick.ps := fun _ _ _ _ _ _ us hl => match us, hl with | [_, _], _ => rfl
theorem bc__law_same : BindOk ec__law_same.d ec__law_same.ps := fun _ _ _ _ _ _ us hl => match us, hl with | [_, _], _ => rfl
theorem bc__law_tree : BindOk ec__law_tree.d ec__law_tree.ps := fun _ _ _ _ _ _ us hl => match us, hl with | [_, _, _], _ => rfl
theorem bc__law_scan : BindOk ec__law_scan.d ec__law_scan.ps := fun _ _ _ _ _ _ us hl => match us, hl with | [_, _, _], _ => rfl
theorem bc__law_at : BindOk ec__law_at.d ec__law_at.ps := fun _ _ _ _ _ _ us hl => match us, hl with | [_, _, _], _ => rfl
theorem bc__law_winners : BindOk ec__law_winners.d ec__law_winners.ps := fun _ _ _ _ _ _ us hl => match us, hl with | [_, _], _ => rfl
theorem bc__law_due_plan : BindOk ec__law_due_plan.d ec__law_due_plan.ps := fun _ _ _ _ _ _ us hl => match us, hl with | [_, _, _, _], _ => rfl
theorem bc__law_reached : BindOk ec__law_reached.d ec__law_reached.ps := fun _ _ _ _ _ _ us hl => match us, hl with | [_, _, _], _ => rfl
theorem bc__law_tells : BindOk ec__law_tells.d ec__law_tells.ps := fun _ _ _ _ _ _ us hl => match us, hl with | [_, _], _ => rfl
theorem bc__law_plays : BindOk ec__law_plays.d ec__law_plays.ps := fun _ _ _ _ _ _ us hl => match us, hl with | [_, _, _], _ => rfl
theorem bc__law_refused : BindOk ec__law_refused.d ec__law_refused.ps := fun _ _ _ _ _ _ us hl => match us, hl with | [_, _, _], _ => rfl
theorem bc__law_wrong_plans : BindOk ec__law_wrong_plans.d ec__law_wrong_plans.ps := fun _ _ _ _ _ _ us hl => match us, hl with | [_, _, _, _], _ => rfl
theorem bc__law_replaced : BindOk ec__law_replaced.d ec__law_replaced.ps := fun _ _ _ _ _ _ us hl => match us, hl with | [_, _, _], _ => rfl
theorem bc__law_exchanged : BindOk ec__law_exchanged.d ec__law_exchanged.ps := fun _ _ _ _ _ _ us hl => match us, hl with | [_], _ => rfl
theorem bc__law_text : BindOk ec__law_text.d ec__law_text.ps := fun _ _ _ _ _ _ us hl => match us, hl with | [_], _ => rfl
theorem bc__law_made : BindOk ec__law_made.d ec__law_made.ps := fun _ _ _ _ _ _ us hl => match us, hl with | [_], _ => rfl
theorem bc__law_read : BindOk ec__law_read.d ec__law_read.ps := fun _ _ _ _ _ _ us hl => match us, hl with | [_], _ => rfl
theorem bc__law_with : BindOk ec__law_with.d ec__law_with.ps := fun _ _ _ _ _ _ us hl => match us, hl with | [_, _], _ => rfl
theorem bc__law_paths : BindOk ec__law_paths.d ec__law_paths.ps := fun _ _ _ _ _ _ us hl => match us, hl with | [_, _, _], _ => rfl
theorem bc__law_put : BindOk ec__law_put.d ec__law_put.ps := fun _ _ _ _ _ _ us hl => match us, hl with | [_, _, _], _ => rfl
theorem bc__law_spoilt : BindOk ec__law_spoilt.d ec__law_spoilt.ps := fun _ _ _ _ _ _ us hl => match us, hl with | [_, _], _ => rfl
theorem bc__law_grouped : BindOk ec__law_grouped.d ec__law_grouped.ps := fun _ _ _ _ _ _ us hl => match us, hl with | [_, _, _], _ => rfl
theorem bc__law_chain : BindOk ec__law_chain.d ec__law_chain.ps := fun _ _ _ _ _ _ us hl => match us, hl with | [_, _], _ => rfl
theorem bc__law_limits : BindOk ec__law_limits.d ec__law_limits.ps := fun _ _ _ _ _ _ us hl => match us, hl with | [_], _ => rfl
theorem bc__law_texts : BindOk ec__law_texts.d ec__law_texts.ps := fun _ _ _ _ _ _ us hl => match us, hl with | [_, _, _], _ => rfl
theorem bc_law : BindOk ec_law.d ec_law.ps := fun _ _ _ _ _ _ us hl => match us, hl with | [_], _ => rfl
theorem bc_Duel_init : BindOk ec_Duel_init.d ec_Duel_init.ps := fun _ _ _ _ _ _ us hl => match us, hl with | [_, _], _ => rfl
theorem bc_Duel_with_ends : BindOk ec_Duel_with_ends.d ec_Duel_with_ends.ps := fun _ _ _ _ _ _ us hl => match us, hl with | [_, _], _ => rfl
theorem bc_Duel_text : BindOk ec_Duel_text.d ec_Duel_text.ps := fun _ _ _ _ _ _ us hl => match us, hl with | [_], _ => rfl
theorem bc_Duel_read : BindOk ec_Duel_read.d ec_Duel_read.ps := fun _ _ _ _ _ _ us hl => match us, hl with | [_], _ => rfl
theorem bi_InvalidDuel : BindOk i_InvalidDuel.d i_InvalidDuel.ps := fun _ _ _ _ _ _ us hl => match us, hl with | [_, _], _ => rfl
theorem bi_InvalidPlan : BindOk i_InvalidPlan.d i_InvalidPlan.ps := fun _ _ _ _ _ _ us hl => match us, hl with | [_, _], _ => rfl
theorem bi_InvalidTerm : BindOk i_InvalidTerm.d i_InvalidTerm.ps := fun _ _ _ _ _ _ us hl => match us, hl with | [_, _], _ => rfl
theorem bi_InvalidText : BindOk i_InvalidText.d i_InvalidText.ps := fun _ _ _ _ _ _ us hl => match us, hl with | [_, _], _ => rfl
theorem be : ∀ e ∈ M.ents, BindOk e.d e.ps := by
  intro e he
  simp only [M, List.mem_cons, List.not_mem_nil, or_false] at he
  rcases he with rfl | rfl | rfl | rfl | rfl | rfl | rfl | rfl | rfl | rfl | rfl | rfl | rfl | rfl | rfl | rfl | rfl | rfl | rfl | rfl | rfl | rfl | rfl | rfl | rfl | rfl | rfl | rfl | rfl | rfl | rfl | rfl | rfl | rfl | rfl | rfl | rfl | rfl | rfl | rfl | rfl | rfl | rfl | rfl | rfl | rfl | rfl | rfl | rfl | rfl | rfl | rfl
  · exact bc_is_word
  · exact bc_is_number
  · exact bc_write_part
  · exact bc_write_term
  · exact bc_atom_end
  · exact bc_atom
  · exact bc_whole
  · exact bc_read_term
  · exact bc_is_outcome
  · exact bc_check_tree
  · exact bc_scan_tree
  · exact bc_tree_with_ends
  · exact bc_swapped_tree
  · exact bc_swapped
  · exact bc_entry_of
  · exact bc_winners_with
  · exact bc_winner
  · exact bc_node_winners
  · exact bc_winning_plan
  · exact bc_require_plan
  · exact bc_is_winning
  · exact bc__law_start
  · exact bc__law_pick
  · exact bc__law_same
  · exact bc__law_tree
  · exact bc__law_scan
  · exact bc__law_at
  · exact bc__law_winners
  · exact bc__law_due_plan
  · exact bc__law_reached
  · exact bc__law_tells
  · exact bc__law_plays
  · exact bc__law_refused
  · exact bc__law_wrong_plans
  · exact bc__law_replaced
  · exact bc__law_exchanged
  · exact bc__law_text
  · exact bc__law_made
  · exact bc__law_read
  · exact bc__law_with
  · exact bc__law_paths
  · exact bc__law_put
  · exact bc__law_spoilt
  · exact bc__law_grouped
  · exact bc__law_chain
  · exact bc__law_limits
  · exact bc__law_texts
  · exact bc_law
  · exact bc_Duel_init
  · exact bc_Duel_with_ends
  · exact bc_Duel_text
  · exact bc_Duel_read
theorem bi : ∀ i ∈ M.inis, BindOk i.d i.ps := by
  intro i hi
  simp only [M, List.mem_cons, List.not_mem_nil, or_false] at hi
  rcases hi with rfl | rfl | rfl | rfl
  · exact bi_InvalidDuel
  · exact bi_InvalidPlan
  · exact bi_InvalidTerm
  · exact bi_InvalidText
theorem bx : ∀ p ∈ M.bexcs, bootBuiltins p.1 = some (.type p.2) := by
  intro p hp
  simp only [M, List.mem_cons, List.not_mem_nil, or_false] at hp
  rcases hp with rfl
  · exact PyProof.Rows.Boot.«ValueError»
def nm0 : List Str := ["is_word", "is_number", "write_part", "write_term", "atom_end", "atom", "whole", "read_term", "is_outcome", "check_tree", "scan_tree", "tree_with_ends", "swapped_tree", "swapped", "entry_of", "winners_with", "winner", "node_winners", "winning_plan", "require_plan", "is_winning", "_law_start", "_law_pick", "_law_same", "_law_tree", "_law_scan", "_law_at", "_law_winners", "_law_due_plan", "_law_reached"]
def nm1 : List Str := ["_law_tells", "_law_plays", "_law_refused", "_law_wrong_plans", "_law_replaced", "_law_exchanged", "_law_text", "_law_made", "_law_read", "_law_with", "_law_paths", "_law_put", "_law_spoilt", "_law_grouped", "_law_chain", "_law_limits", "_law_texts", "ProofsError", "InvalidText", "InvalidTerm", "InvalidDuel", "InvalidQuery", "OutOfRange", "SizeMismatch", "TooLarge", "InvalidPlan", "Duel", "MOST_LETTERS", "MOST_DIGITS", "MOST_NUMBER"]
def nm2 : List Str := ["MOST_DEPTH", "MOST_TREES", "LETTERS", "DIGITS"]
def nms : List Str := nm0 ++ nm1 ++ nm2
abbrev R : PySem.W.OpenRow := PySem.W.OpenLaw.row PySem.Challenge.rw_pathschosen_k42_winners_and_plans
abbrev hk : PySem.W.Hook := hookM 5 M
def ob (s : PySem.W.SharedT) : AlM := obsMG 5 M (HandSHeadRun.getT s)
theorem ob_eq (s : PySem.W.SharedT) : ob s = hk.obs s.abs := obsMG_eq (HandSHeadRun.getT_eq s)
end Mp.K42
end
section
set_option Elab.async false
set_option linter.all false
set_option maxRecDepth 100000
set_option maxHeartbeats 0
namespace Mp.K42
open PySem L2
theorem run (w : World) : HandSHeadRun.RunEq R (PySem.W.view R.prog [68]) hk ob 20000 nms w := by
  intro os
  kernel_rfl
end Mp.K42
end
section
set_option Elab.async false
set_option linter.all false
/-! MpEv: the semantics' equations marked for simp, answers with a promise, and what stays in a store. -/
namespace Mp
open PySem (Str Operator CmpOp PyData)
section
variable {C : Cf} {cu : Option Ex} {ρ : Env} {S : Sto}
@[simp] theorem s_evE_var {i} : evE C cu (CE.var i) ρ S = (ofO (getV ρ i) S) := evE_var
@[simp] theorem s_evE_int {i} : evE C cu (CE.int i) ρ S = (.ok (.int i) S) := evE_int
@[simp] theorem s_evE_bl {b} : evE C cu (CE.bl b) ρ S = (.ok (.bl b) S) := evE_bl
@[simp] theorem s_evE_non : evE C cu (CE.non) ρ S = (.ok .non S) := evE_non
@[simp] theorem s_evE_str {x} : evE C cu (CE.str x) ρ S = (.ok (.str x) S) := evE_str
@[simp] theorem s_evE_glob {x} : evE C cu (CE.glob x) ρ S = (ofO (C.con x) S) := evE_glob
@[simp] theorem s_evE_ccon {c f} : evE C cu (CE.ccon c f) ρ S = (ofO (C.ccon c f) S) := evE_ccon
@[simp] theorem s_evE_tup {es} : evE C cu (CE.tup es) ρ S = ((evEs C cu es ρ S).bind fun ds S1 => .ok (.tup ds) S1) := evE_tup
@[simp] theorem s_evE_lst {es} : evE C cu (CE.lst es) ρ S = ((evEs C cu es ρ S).bind fun ds S1 => .ok (.ref S1.length) (S1 ++ [.lst ds])) := evE_lst
@[simp] theorem s_evE_bin {op a b} : evE C cu (CE.bin op a b) ρ S = ((evE C cu a ρ S).bind fun x S1 => (evE C cu b ρ S1).bind fun y S2 => binD op x y S2) := evE_bin
@[simp] theorem s_evE_neg {a} : evE C cu (CE.neg a) ρ S = ((evE C cu a ρ S).bind fun x S1 => (ofO (asInt x) S1).bind fun i S2 => .ok (.int (-i)) S2) := evE_neg
@[simp] theorem s_evE_cmp {op a b} : evE C cu (CE.cmp op a b) ρ S = ((evE C cu a ρ S).bind fun x S1 => (evE C cu b ρ S1).bind fun y S2 => ofO ((cmpD op x y S2).map .bl) S2) := evE_cmp
@[simp] theorem s_evE_cmp2 {op op' a b c} : evE C cu (CE.cmp2 op op' a b c) ρ S = ((evE C cu a ρ S).bind fun x S1 => (evE C cu b ρ S1).bind fun y S2 => (ofO (cmpD op x y S2) S2).bind fun k S3 =>
      if k = true then (evE C cu c ρ S3).bind fun z S4 => ofO ((cmpD op' y z S4).map .bl) S4 else .ok (.bl false) S3) := evE_cmp2
@[simp] theorem s_evE_and {es} : evE C cu (CE.and es) ρ S = (evAnd C cu es ρ S) := evE_and
@[simp] theorem s_evE_or {es} : evE C cu (CE.or es) ρ S = (evOr C cu es ρ S) := evE_or
@[simp] theorem s_evE_not {a} : evE C cu (CE.not a) ρ S = ((evE C cu a ρ S).bind fun x S1 => ofO ((isBl x).map fun b => .bl (!b)) S1) := evE_not
@[simp] theorem s_evE_ifx {c a b} : evE C cu (CE.ifx c a b) ρ S = ((evE C cu c ρ S).bind fun x S1 => (ofO (isBl x) S1).bind fun k S2 => if k = true then evE C cu a ρ S2 else evE C cu b ρ S2) := evE_ifx
@[simp] theorem s_evE_isI {a t} : evE C cu (CE.isI a t) ρ S = ((evE C cu a ρ S).bind fun x S1 => ofO ((isD C.sub x S1 t).map .bl) S1) := evE_isI
@[simp] theorem s_evE_exF {f} : evE C cu (CE.exF f) ρ S = (ofO (cu.bind fun x => if C.exf x.cls f = true then x.fs.lookup f else none) S) := evE_exF
@[simp] theorem s_evE_exI {c} : evE C cu (CE.exI c) ρ S = (ofO (cu.bind fun x => (C.sub x.cls c).map .bl) S) := evE_exI
@[simp] theorem s_evE_fld {a f} : evE C cu (CE.fld a f) ρ S = ((evE C cu a ρ S).bind fun x S1 => ofO (fldD C.fok x f S1) S1) := evE_fld
@[simp] theorem s_evE_call {f es} : evE C cu (CE.call f es) ρ S = ((evEs C cu es ρ S).bind fun ds S1 => C.call f ds S1) := evE_call
@[simp] theorem s_evE_make {c es} : evE C cu (CE.make c es) ρ S = ((evEs C cu es ρ S).bind fun ds S1 => (C.init c (.ref S1.length :: ds) (S1 ++ [.ins c []])).bind fun d S2 => if isNon d = true then .ok (.ref S1.length) S2 else .stuck) := evE_make
@[simp] theorem s_evE_meth {m a es} : evE C cu (CE.meth m a es) ρ S = ((evE C cu a ρ S).bind fun x S1 => (ofO (metD C.mok x m es.len S1) S1).bind fun c S2 => (evEs C cu es ρ S2).bind fun ds S3 => C.call (mkey c m) (x :: ds) S3) := evE_meth
@[simp] theorem s_evE_smeth {c m es} : evE C cu (CE.smeth c m es) ρ S = ((evEs C cu es ρ S).bind fun ds S1 => C.call (mkey c m) ds S1) := evE_smeth
@[simp] theorem s_evE_blt {b es} : evE C cu (CE.blt b es) ρ S = ((evEs C cu es ρ S).bind fun ds S1 => bltD b ds S1) := evE_blt
@[simp] theorem s_evE_bm {m a es} : evE C cu (CE.bm m a es) ρ S = ((evE C cu a ρ S).bind fun x S1 => if bmOk m x S1 = true then (evEs C cu es ρ S1).bind fun ds S2 => bmD m x ds S2 else .stuck) := evE_bm
@[simp] theorem s_evE_sub {a i} : evE C cu (CE.sub a i) ρ S = ((evE C cu a ρ S).bind fun x S1 => (evE C cu i ρ S1).bind fun j S2 => (ofO (asInt j) S2).bind fun k S3 => ofO (ixD x k S3) S3) := evE_sub
@[simp] theorem s_evE_slc {a lo hi} : evE C cu (CE.slc a lo hi) ρ S = ((evE C cu a ρ S).bind fun x S1 => (evO C cu lo ρ S1).bind fun l S2 => (evO C cu hi ρ S2).bind fun h S3 => slcD x l h S3) := evE_slc
@[simp] theorem s_evE_lc {elt tg it ifs} : evE C cu (CE.lc elt tg it ifs) ρ S = ((evI C cu it ρ S).bind fun t S1 => (lcL t.ck (fun d S2 => (ofO (asgT tg d (wipe ρ tg.ix)) S2).bind fun ρ1 S3 => (evIfs C none ifs ρ1 S3).bind fun b S4 =>
      if b = true then (evE C none elt ρ1 S4).bind fun y S5 => .ok (some y) S5 else .ok none S4) t.ds S1).bind fun ds S2 => .ok (.ref S2.length) (S2 ++ [.lst ds])) := evE_lc
@[simp] theorem s_evO_none : evO C cu (CO.none) ρ S = (.ok none S) := evO_none
@[simp] theorem s_evO_some {e} : evO C cu (CO.some e) ρ S = ((evE C cu e ρ S).bind fun x S1 => (ofO (asInt x) S1).bind fun i S2 => .ok (some i) S2) := evO_some
@[simp] theorem s_evEs_nil : evEs C cu (CEs.nil) ρ S = (.ok [] S) := evEs_nil
@[simp] theorem s_evEs_cons {e es} : evEs C cu (CEs.cons e es) ρ S = ((evE C cu e ρ S).bind fun d S1 => (evEs C cu es ρ S1).bind fun ds S2 => .ok (d :: ds) S2) := evEs_cons
@[simp] theorem s_evIfs_nil : evIfs C cu (CEs.nil) ρ S = (.ok true S) := evIfs_nil
@[simp] theorem s_evIfs_cons {e es} : evIfs C cu (CEs.cons e es) ρ S = ((evE C cu e ρ S).bind fun x S1 => (ofO (isBl x) S1).bind fun k S2 => if k = true then evIfs C cu es ρ S2 else .ok false S2) := evIfs_cons
@[simp] theorem s_evI_seq {e} : evI C cu (CI.seq e) ρ S = ((evE C cu e ρ S).bind fun d S1 => ofO (seqI d S1) S1) := evI_seq
@[simp] theorem s_evI_range {es} : evI C cu (CI.range es) ρ S = ((evEs C cu es ρ S).bind fun ds S1 => ofO (rangeI ds) S1) := evI_range
@[simp] theorem s_evI_zip {a b} : evI C cu (CI.zip a b) ρ S = ((evE C cu a ρ S).bind fun x S1 => (evE C cu b ρ S1).bind fun y S2 => ofO (zipI x y) S2) := evI_zip
@[simp] theorem s_evS_expr {e} : evS C cu (CS.expr e) ρ S = ((evE C cu e ρ S).fl ρ fun _ S1 => .nx ρ S1) := evS_expr
@[simp] theorem s_evS_ret {e} : evS C cu (CS.ret e) ρ S = ((evE C cu e ρ S).fl ρ fun d S1 => .rt d S1) := evS_ret
@[simp] theorem s_evS_retN : evS C cu (CS.retN) ρ S = (.rt .non S) := evS_retN
@[simp] theorem s_evS_asg {tg e} : evS C cu (CS.asg tg e) ρ S = ((evE C cu e ρ S).fl ρ fun d S1 => nxE (asgT tg d ρ) S1) := evS_asg
@[simp] theorem s_evS_set {a i e} : evS C cu (CS.set a i e) ρ S = ((evE C cu e ρ S).fl ρ fun d S1 => (evE C cu a ρ S1).fl ρ fun x S2 => (evE C cu i ρ S2).fl ρ fun j S3 => nxS ρ (setD x j d S3)) := evS_set
@[simp] theorem s_evS_fld {a f e} : evS C cu (CS.fld a f e) ρ S = ((evE C cu e ρ S).fl ρ fun d S1 => (evE C cu a ρ S1).fl ρ fun x S2 => nxS ρ (setF C.fok x f d S2)) := evS_fld
@[simp] theorem s_evS_aug {i op e} : evS C cu (CS.aug i op e) ρ S = ((ofO (getV ρ i) S).fl ρ fun x S0 => (evE C cu e ρ S0).fl ρ fun y S1 => nxE ((augD op x y).map fun d => ρ.set i (some d)) S1) := evS_aug
@[simp] theorem s_evS_ite {c a b} : evS C cu (CS.ite c a b) ρ S = (((evE C cu c ρ S).bind fun x S1 => ofO (isBl x) S1).fl ρ fun k S1 => if k = true then evSs C cu a ρ S1 else evSs C cu b ρ S1) := evS_ite
@[simp] theorem s_evS_for {tg it b} : evS C cu (CS.for_ tg it b) ρ S = ((evI C cu it ρ S).fl ρ fun t S1 => forL t.ck tg (fun ρ2 S2 => evSs C cu b ρ2 S2) t.ds ρ S1) := evS_for
@[simp] theorem s_evS_while {c b} : evS C cu (CS.while_ c b) ρ S = (whL (fun ρ2 S2 => (evE C cu c ρ2 S2).bind fun x S3 => ofO (isBl x) S3) (fun ρ2 S2 => evSs C cu b ρ2 S2) wFuel ρ S) := evS_while
@[simp] theorem s_evS_try {b hs} : evS C cu (CS.try_ b hs) ρ S = ((evSs C cu b ρ S).catch_ fun x ρ1 S1 => evH C hs x ρ1 S1) := evS_try
@[simp] theorem s_evS_raise {c es} : evS C cu (CS.raise c es) ρ S = ((evEs C cu es ρ S).fl ρ fun ds S1 => exnO c (C.exc c ds) ρ S1) := evS_raise
@[simp] theorem s_evS_pass : evS C cu (CS.pass) ρ S = (.nx ρ S) := evS_pass
@[simp] theorem s_evS_brk : evS C cu (CS.brk) ρ S = (.bk ρ S) := evS_brk
@[simp] theorem s_evS_cont : evS C cu (CS.cont) ρ S = (.ct ρ S) := evS_cont
@[simp] theorem s_evSs_nil : evSs C cu (CSs.nil) ρ S = (.nx ρ S) := evSs_nil
@[simp] theorem s_evSs_cons {s r} : evSs C cu (CSs.cons s r) ρ S = ((evS C cu s ρ S).then_ fun ρ1 S1 => evSs C cu r ρ1 S1) := evSs_cons
@[simp] theorem s_evAnd_one {e : CE} : evAnd C cu (.cons e .nil) ρ S = evE C cu e ρ S := evAnd_one
@[simp] theorem s_evAnd_cons {e f : CE} {es : CEs} : evAnd C cu (.cons e (.cons f es)) ρ S = (evE C cu e ρ S).bind fun x S1 => (ofO (isBl x) S1).bind fun k S2 => if k = true then evAnd C cu (.cons f es) ρ S2 else .ok (.bl false) S2 := evAnd_cons
@[simp] theorem s_evOr_one {e : CE} : evOr C cu (.cons e .nil) ρ S = evE C cu e ρ S := evOr_one
@[simp] theorem s_evOr_cons {e f : CE} {es : CEs} : evOr C cu (.cons e (.cons f es)) ρ S = (evE C cu e ρ S).bind fun x S1 => (ofO (isBl x) S1).bind fun k S2 => if k = true then .ok (.bl true) S2 else evOr C cu (.cons f es) ρ S2 := evOr_cons
@[simp] theorem s_evH_nil {x : Ex} : evH C .nil x ρ S = .exn x ρ S := evH_nil
@[simp] theorem s_evH_cons {x : Ex} {c : Str} {i : Option Nat} {b : CSs} {r : CHs} : evH C (.cons c i b r) x ρ S = ifO (if bornOk i ρ = true then C.sub x.cls c else none) ((evSs C (some x) b (Mp.unset i ρ) S).unset i) (evH C r x ρ S) := evH_cons
end
@[simp] theorem Res.bind_ok {α β : Type} (a : α) (S : Sto) (f : α → Sto → Res β) : (Res.ok a S).bind f = f a S := rfl
@[simp] theorem Res.bind_exn {α β : Type} (x : Ex) (S : Sto) (f : α → Sto → Res β) : (Res.exn x S).bind f = .exn x S := rfl
@[simp] theorem Res.fl_ok {α : Type} (a : α) (S : Sto) (ρ : Env) (f : α → Sto → Fl) : (Res.ok a S).fl ρ f = f a S := rfl
@[simp] theorem Res.fl_exn {α : Type} (x : Ex) (S : Sto) (ρ : Env) (f : α → Sto → Fl) : (Res.exn x S).fl ρ f = .exn x ρ S := rfl
@[simp] theorem ofO_some {α : Type} (a : α) (S : Sto) : ofO (some a) S = .ok a S := rfl
@[simp] theorem nxE_some (ρ : Env) (S : Sto) : nxE (some ρ) S = .nx ρ S := rfl
@[simp] theorem nxS_some (ρ : Env) (S : Sto) : nxS ρ (some S) = .nx ρ S := rfl
@[simp] theorem Fl.then_nx (ρ : Env) (S : Sto) (f : Env → Sto → Fl) : (Fl.nx ρ S).then_ f = f ρ S := rfl
@[simp] theorem Fl.then_rt (d : D) (S : Sto) (f : Env → Sto → Fl) : (Fl.rt d S).then_ f = .rt d S := rfl
@[simp] theorem Fl.then_bk (ρ : Env) (S : Sto) (f : Env → Sto → Fl) : (Fl.bk ρ S).then_ f = .bk ρ S := rfl
@[simp] theorem Fl.then_ct (ρ : Env) (S : Sto) (f : Env → Sto → Fl) : (Fl.ct ρ S).then_ f = .ct ρ S := rfl
@[simp] theorem Fl.then_exn (x : Ex) (ρ : Env) (S : Sto) (f : Env → Sto → Fl) : (Fl.exn x ρ S).then_ f = .exn x ρ S := rfl
@[simp] theorem Fl.turn_nx (ρ : Env) (S : Sto) (f : Env → Sto → Fl) : (Fl.nx ρ S).turn f = f ρ S := rfl
@[simp] theorem Fl.turn_ct (ρ : Env) (S : Sto) (f : Env → Sto → Fl) : (Fl.ct ρ S).turn f = f ρ S := rfl
@[simp] theorem Fl.turn_bk (ρ : Env) (S : Sto) (f : Env → Sto → Fl) : (Fl.bk ρ S).turn f = .nx ρ S := rfl
@[simp] theorem Fl.turn_rt (d : D) (S : Sto) (f : Env → Sto → Fl) : (Fl.rt d S).turn f = .rt d S := rfl
@[simp] theorem Fl.turn_exn (x : Ex) (ρ : Env) (S : Sto) (f : Env → Sto → Fl) : (Fl.exn x ρ S).turn f = .exn x ρ S := rfl
@[simp] theorem Fl.catch_nx (ρ : Env) (S : Sto) (f : Ex → Env → Sto → Fl) : (Fl.nx ρ S).catch_ f = .nx ρ S := rfl
@[simp] theorem Fl.catch_rt (d : D) (S : Sto) (f : Ex → Env → Sto → Fl) : (Fl.rt d S).catch_ f = .rt d S := rfl
@[simp] theorem Fl.catch_exn (x : Ex) (ρ : Env) (S : Sto) (f : Ex → Env → Sto → Fl) : (Fl.exn x ρ S).catch_ f = f x ρ S := rfl
@[simp] theorem Fl.res_rt (d : D) (S : Sto) : (Fl.rt d S).res = .ok d S := rfl
@[simp] theorem Fl.res_nx (ρ : Env) (S : Sto) : (Fl.nx ρ S).res = .ok .non S := rfl
@[simp] theorem Fl.res_exn (x : Ex) (ρ : Env) (S : Sto) : (Fl.exn x ρ S).res = .exn x S := rfl
@[simp] theorem getV_zero (o : Option D) (ρ : Env) : getV (o :: ρ) 0 = o := by cases o <;> rfl
@[simp] theorem getV_succ (o : Option D) (ρ : Env) (i : Nat) : getV (o :: ρ) (i + 1) = getV ρ i := rfl
@[simp] theorem asgT_name (i : Nat) (d : D) (ρ : Env) : asgT (.name i) d ρ = some (ρ.set i (some d)) := rfl
@[simp] theorem isBl_bl (b : Bool) : isBl (.bl b) = some b := rfl
@[simp] theorem asInt_int (i : Int) : asInt (.int i) = some i := rfl
@[simp] theorem wipe_name (ρ : Env) (i : Nat) : wipe ρ (Tg.name i).ix = ρ.set i none := rfl
/-- all places but those of W are as they were; the store only grows -/
def Fr (W : List Nat) (S S' : Sto) : Prop := S.length ≤ S'.length ∧ ∀ n, n < S.length → n ∉ W → S'[n]? = S[n]?
theorem Fr.refl (W : List Nat) (S : Sto) : Fr W S S := ⟨Nat.le_refl _, fun _ _ _ => rfl⟩
theorem Fr.trans {W : List Nat} {A B E : Sto} (h : Fr W A B) (g : Fr W B E) : Fr W A E :=
  ⟨Nat.le_trans h.1 g.1, fun n hn hW => (g.2 n (Nat.lt_of_lt_of_le hn h.1) hW).trans (h.2 n hn hW)⟩
theorem Fr.mono {W V : List Nat} {A B : Sto} (h : Fr W A B) (g : ∀ n, n ∈ W → n ∈ V) : Fr V A B :=
  ⟨h.1, fun n hn hV => h.2 n hn fun hW => hV (g n hW)⟩
theorem Fr.app (W : List Nat) (S T : Sto) : Fr W S (S ++ T) := ⟨by simp, fun n hn _ => by simp [List.getElem?_append_left hn]⟩
theorem Fr.set {W : List Nat} {n : Nat} (S : Sto) (o : O) (h : n ∈ W) : Fr W S (S.set n o) :=
  ⟨by simp, fun m hm hW => by
    have : n ≠ m := fun e => hW (e ▸ h)
    simp [List.getElem?_set, this]⟩
theorem lt_at {S : Sto} {n : Nat} {o : O} (h : S[n]? = some o) : n < S.length := (List.getElem?_eq_some_iff.1 h).1
theorem Fr.at {W : List Nat} {S S' : Sto} {n : Nat} {o : O} (f : Fr W S S') (h : S[n]? = some o) (hW : n ∉ W) : S'[n]? = some o :=
  (f.2 n (lt_at h) hW).trans h
/-- a place above all old ones is of no account -/
theorem Fr.fresh {W V : List Nat} {A B : Sto} (h : Fr W A B) (g : ∀ n, n ∈ W → n ∈ V ∨ A.length ≤ n) : Fr V A B :=
  ⟨h.1, fun n hn hV => h.2 n hn fun hW => (g n hW).elim hV fun l => absurd hn (by omega)⟩
/-- an answer with a promise -/
def Res.Good {α : Type} (r : Res α) (Q : α → Sto → Prop) : Prop := ∃ a S, r = .ok a S ∧ Q a S
end Mp
end
section
set_option Elab.async false
set_option linter.all false
set_option maxHeartbeats 0
/-! K42Pick: the law's drawing. -/
namespace Mp.K42
open PySem L2
theorem lev_call (P : Prg) (k : Nat) (f : Str) (fd : Fd) (ds : List D) (S : Sto) (h : P.fn f = some fd) (hl : ds.length = fd.np) :
    (lev P (k + 1)).call f ds S = (evSs (lev P k) none fd.body (ds.map some ++ List.replicate (fd.ns - fd.np) none) S).res := by
  rw [lev]
  show runB _ _ _ _ _ = _
  unfold runB
  rw [h]
  simp [hl]
theorem fn_pick : M.prg.fn "_law_pick" = some ⟨2, 5, c__law_pick⟩ := by kernel_rfl
/-- the state of the law's drawing lies at s, the script at n -/
def Stt (S : Sto) (s n : Nat) : Prop := ∃ (a : Int) (xs : List Int) (p : Nat) (r : Int), S[s]? = some (.lst [.int a, .ref n, .int p, .int r]) ∧ S[n]? = some (.lst (xs.map .int)) ∧ xs.length ≤ 63 ∧ 0 ≤ r
theorem ixD_ref {S : Sto} {n : Nat} {ds : List D} (h : S[n]? = some (.lst ds)) (i : Int) : ixD (.ref n) i S = L2.atI ds i := by simp [ixD, itemsD, h]
theorem len_ref {S : Sto} {n : Nat} {ds : List D} (h : S[n]? = some (.lst ds)) : bltD .len [.ref n] S = .ok (.int ds.length) S := by simp [bltD, itemsD, h]
theorem setD_ref {S : Sto} {n : Nat} {ds : List D} (h : S[n]? = some (.lst ds)) (i : Int) (d : D) : setD (.ref n) (.int i) d S = (L2.ixN ds.length i).map fun j => S.set n (.lst (ds.set j d)) := by simp [setD, h]
theorem set_self {S : Sto} {n : Nat} {o : O} (h : S[n]? = some o) (o' : O) : (S.set n o')[n]? = some o' := by simp [lt_at h]
theorem set_other {S : Sto} {n m : Nat} {o : O} (h : S[m]? = some o) (o' : O) (hn : n ≠ m) : (S.set n o')[m]? = some o := by simp [hn, h]
@[simp] theorem int_int (i : Int) (S : Sto) : bltD .int [.int i] S = .ok (.int i) S := rfl
@[simp] theorem ge_int (i j : Int) (S : Sto) : cmpD .GtE (.int i) (.int j) S = some (decide (j ≤ i)) := rfl
@[simp] theorem lt_int (i j : Int) (S : Sto) : cmpD .Lt (.int i) (.int j) S = some (decide (i < j)) := rfl
@[simp] theorem add_int (i j : Int) (S : Sto) : binD .Add (.int i) (.int j) S = .ok (.int (i + j)) S := rfl
@[simp] theorem sub_int (i j : Int) (S : Sto) : binD .Sub (.int i) (.int j) S = .ok (.int (i - j)) S := rfl
theorem div_int (i j : Int) (S : Sto) (h : 0 < j) (g : j < 1073741824) : binD .FloorDiv (.int i) (.int j) S = .ok (.int (i / j)) S := by simp [binD, h, g]
theorem mod_int (i j : Int) (S : Sto) (h : 0 < j) : binD .Mod (.int i) (.int j) S = .ok (.int (i % j)) S := by simp [binD, h]
theorem mul_int (i j : Int) (S : Sto) (h : -(2 ^ 64) < j ∧ j < 2 ^ 64) : binD .Mult (.int i) (.int j) S = .ok (.int (i * j)) S := by simp only [binD]; rw [if_pos (Or.inr h)]
theorem pow_18 (S : Sto) : binD .Pow (.int 10) (.int 18) S = .ok (.int 1000000000000000000) S := rfl
theorem ixN_nat (l p : Nat) (h : p < l) : L2.ixN l (p : Int) = some p := by
  unfold L2.ixN
  rw [if_pos (by omega), if_pos (by omega)]
  simp
theorem atI_nat {α : Type} (xs : List α) (p : Nat) : L2.atI xs (p : Int) = xs[p]? := by
  unfold L2.atI
  by_cases h : p < xs.length
  · rw [ixN_nat _ _ h]; rfl
  · unfold L2.ixN
    rw [if_pos (by omega), if_neg (by omega)]
    simp; omega
theorem pick_rest (k : Nat) (S : Sto) (s n : Nat) (m a p r : Int) (hm : 0 < m) (hM : m < 1073741824) (e : S[s]? = some (.lst [.int a, .ref n, .int p, .int r])) (hr : m ≤ r) :
    (lev M.prg (k + 1)).call "_law_pick" [.ref s, .int m] S = .ok (.int (r % m)) (S.set s (.lst [.int a, .ref n, .int p, .int (r / m)])) := by
  rw [lev_call _ _ _ _ _ _ fn_pick rfl]
  simp [c__law_pick, ixD_ref e, hr, div_int _ _ _ hm hM, mod_int _ _ _ hm, setD_ref e, L2.ixN, L2.atI]
theorem stt_ne {S : Sto} {s n : Nat} {a p r : Int} {xs : List Int} (e : S[s]? = some (.lst [.int a, .ref n, .int p, .int r])) (en : S[n]? = some (.lst (xs.map .int))) : s ≠ n := by
  intro h
  subst h
  rw [e] at en
  have := O.lst.inj (Option.some.inj en)
  match xs, this with
  | [], h => simp at h
  | [_], h => simp at h
  | _ :: _ :: _, h => simp at h
theorem stt_set {S : Sto} {s n : Nat} {a p r : Int} {xs : List Int} (e : S[s]? = some (.lst [.int a, .ref n, .int p, .int r])) (en : S[n]? = some (.lst (xs.map .int))) (hx : xs.length ≤ 63) (a' : Int) (p' : Nat) (r' : Int) (hr : 0 ≤ r') :
    Stt (S.set s (.lst [.int a', .ref n, .int p', .int r'])) s n :=
  ⟨a', xs, p', r', set_self e _, set_other en _ (stt_ne e en), hx, hr⟩
/-- the next seed -/
def nxt (a c : Int) : Int := ((a + c % 2147483647 + 1) * 48271 % 2147483647 * 69621 + 12345) % 2147483647
theorem pick (k : Nat) (S : Sto) (s n : Nat) (m : Int) (h : Stt S s n) (hm : 0 < m) (hM : m < 1073741824) :
    ∃ p o, (lev M.prg (k + 1)).call "_law_pick" [.ref s, .int m] S = .ok (.int p) (S.set s o) ∧ 0 ≤ p ∧ p < m ∧ Stt (S.set s o) s n := by
  obtain ⟨a, xs, p, r, e, en, hx, hr⟩ := h
  by_cases h1 : m ≤ r
  · exact ⟨_, _, pick_rest k S s n m a p r hm hM e h1, Int.emod_nonneg _ (by omega), Int.emod_lt_of_pos _ hm, stt_set e en hx _ _ _ (Int.ediv_nonneg hr (by omega))⟩
  rw [lev_call _ _ _ _ _ _ fn_pick rfl]
  have nn := stt_ne e en
  by_cases h2 : p < xs.length
  · have e1 := set_self e (.lst [.int a, .ref n, .int ((p : Int) + 1), .int r])
    have ep : L2.atI (xs.map D.int) (p : Int) = some (.int xs[p]) := by rw [atI_nat]; simp [h2]
    have big : ∀ c : Int, (1000000000000000000 : Int) ≤ c → 0 ≤ c / m := fun c hc => Int.ediv_nonneg (by omega) (by omega)
    have fin : ∀ c : Int, (1000000000000000000 : Int) ≤ c → (evSs (lev M.prg k) none c__law_pick [some (.ref s), some (.int m), none, none, none] S).res = .ok (.int (c % m)) (S.set s (.lst [.int a, .ref n, .int ((p + 1 : Nat) : Int), .int (c / m)])) →
        ∃ p o, (evSs (lev M.prg k) none c__law_pick [some (.ref s), some (.int m), none, none, none] S).res = .ok (.int p) (S.set s o) ∧ 0 ≤ p ∧ p < m ∧ Stt (S.set s o) s n :=
      fun c hc h => ⟨_, _, h, Int.emod_nonneg _ (by omega), Int.emod_lt_of_pos _ hm, stt_set e en hx _ _ _ (big c hc)⟩
    have fin2 : ∀ c : Int, (evSs (lev M.prg k) none c__law_pick [some (.ref s), some (.int m), none, none, none] S).res = .ok (.int (nxt a c / 7 % m)) (S.set s (.lst [.int (nxt a c), .ref n, .int ((p + 1 : Nat) : Int), .int r])) →
        ∃ p o, (evSs (lev M.prg k) none c__law_pick [some (.ref s), some (.int m), none, none, none] S).res = .ok (.int p) (S.set s o) ∧ 0 ≤ p ∧ p < m ∧ Stt (S.set s o) s n :=
      fun c h => ⟨_, _, h, Int.emod_nonneg _ (by omega), Int.emod_lt_of_pos _ hm, stt_set e en hx _ _ _ hr⟩
    by_cases h3 : xs[p] < 0
    · by_cases h4 : (1000000000000000000 : Int) ≤ 1 - xs[p]
      · refine fin _ h4 ?_
        simp [c__law_pick, ixD_ref e, ixD_ref en, ixD_ref e1, h1, h2, h3, h4, len_ref en, ep, pow_18, div_int _ _ _ hm hM, mod_int _ _ _ hm, setD_ref e, setD_ref e1, L2.ixN, L2.atI]
      · refine fin2 (1 - xs[p]) ?_
        have e2 := set_self e (.lst [.int (nxt a (1 - xs[p])), .ref n, .int ((p : Int) + 1), .int r])
        simp only [nxt] at e2
        simp [c__law_pick, ixD_ref e, ixD_ref en, ixD_ref e1, ixD_ref e2, h1, h2, h3, h4, len_ref en, ep, pow_18, div_int, mod_int, mul_int, hm, setD_ref e, setD_ref e1, L2.ixN, L2.atI, nxt]
    · by_cases h4 : (1000000000000000000 : Int) ≤ xs[p]
      · refine fin _ h4 ?_
        simp [c__law_pick, ixD_ref e, ixD_ref en, ixD_ref e1, h1, h2, h3, h4, len_ref en, ep, pow_18, div_int _ _ _ hm hM, mod_int _ _ _ hm, setD_ref e, setD_ref e1, L2.ixN, L2.atI]
      · refine fin2 xs[p] ?_
        have e2 := set_self e (.lst [.int (nxt a xs[p]), .ref n, .int ((p : Int) + 1), .int r])
        simp only [nxt] at e2
        simp [c__law_pick, ixD_ref e, ixD_ref en, ixD_ref e1, ixD_ref e2, h1, h2, h3, h4, len_ref en, ep, pow_18, div_int, mod_int, mul_int, hm, setD_ref e, setD_ref e1, L2.ixN, L2.atI, nxt]
  · refine ⟨nxt a 11 / 7 % m, .lst [.int (nxt a 11), .ref n, .int p, .int r], ?_, Int.emod_nonneg _ (by omega), Int.emod_lt_of_pos _ hm, stt_set e en hx _ _ _ hr⟩
    have e2 := set_self e (.lst [.int (nxt a 11), .ref n, .int p, .int r])
    simp [nxt] at e2
    simp [c__law_pick, ixD_ref e, ixD_ref en, ixD_ref e2, h1, h2, len_ref en, div_int, mod_int, mul_int, hm, setD_ref e, L2.ixN, L2.atI, nxt]
end Mp.K42
end
section
set_option Elab.async false
set_option linter.all false
set_option maxHeartbeats 0
/-! K42Start: loops by an invariant; the law's first state. -/
namespace Mp
theorem forL_inv {ck : Sto → Prop} {tg : Tg} {body : Env → Sto → Fl} (I : Nat → Env → Sto → Prop) (hck : ∀ i ρ S, I i ρ S → ck S) :
    ∀ (ds : List D) (j : Nat) (ρ : Env) (S : Sto), I j ρ S →
    (∀ i (h : i < ds.length) ρ S, I (j + i) ρ S → ∃ ρ1, asgT tg ds[i] ρ = some ρ1 ∧ ∃ ρ' S', (body ρ1 S = .nx ρ' S' ∨ body ρ1 S = .ct ρ' S') ∧ I (j + i + 1) ρ' S') →
    ∃ ρ' S', forL ck tg body ds ρ S = .nx ρ' S' ∧ I (j + ds.length) ρ' S'
  | [], j, ρ, S, h0, _ => ⟨ρ, S, by unfold forL; rw [if_pos (hck _ _ _ h0)], by simpa using h0⟩
  | d :: ds, j, ρ, S, h0, st => by
    obtain ⟨ρ1, h1, ρ2, S2, h2, h3⟩ := st 0 (by simp) ρ S (by simpa using h0)
    obtain ⟨ρ', S', h4, h5⟩ := forL_inv I hck ds (j + 1) ρ2 S2 (by simpa using h3) fun i hi ρ S h => by
      have := st (i + 1) (by simpa using hi) ρ S (by simpa [Nat.add_assoc, Nat.add_comm 1 i] using h)
      simpa [Nat.add_assoc, Nat.add_comm 1 i] using this
    refine ⟨ρ', S', ?_, ?_⟩
    · unfold forL
      simp at h1
      rw [if_pos (hck _ _ _ h0), h1]
      simp only [enter]
      rcases h2 with h2 | h2 <;> rw [h2] <;> exact h4
    · simpa [Nat.add_assoc, Nat.add_comm 1] using h5
theorem rangeI_one (n : Nat) (h : n ≤ 1000000) : rangeI [.int n] = some ⟨rangeL 0 1 n, fun _ => True⟩ := by
  have : bnd (n : Int) ∧ (n : Int) ≤ 1000000 := ⟨⟨by omega, by omega⟩, by omega⟩
  simp [rangeI, this]
def Fl.Ret (r : Fl) (Q : D → Sto → Prop) : Prop := ∃ d S, r = .rt d S ∧ Q d S
def Fl.Nx (r : Fl) (Q : Env → Sto → Prop) : Prop := ∃ ρ S, r = .nx ρ S ∧ Q ρ S
theorem Fl.Ret.res {r : Fl} {Q : D → Sto → Prop} (h : r.Ret Q) : ∃ d S, r.res = .ok d S ∧ Q d S := by
  obtain ⟨d, S, h, q⟩ := h
  exact ⟨d, S, by rw [h]; rfl, q⟩
@[simp] theorem Fl.ret_rt (d : D) (S : Sto) (Q : D → Sto → Prop) : (Fl.rt d S).Ret Q ↔ Q d S :=
  ⟨fun ⟨_, _, h, q⟩ => by injection h with h1 h2; rw [h1, h2]; exact q, fun q => ⟨d, S, rfl, q⟩⟩
@[simp] theorem Fl.nx_nx (ρ : Env) (S : Sto) (Q : Env → Sto → Prop) : (Fl.nx ρ S).Nx Q ↔ Q ρ S :=
  ⟨fun ⟨_, _, h, q⟩ => by injection h with h1 h2; rw [h1, h2]; exact q, fun q => ⟨ρ, S, rfl, q⟩⟩
/-- a loop that runs through, ahead of the rest of a body -/
theorem for_ret {ck : Sto → Prop} {tg : Tg} {body : Env → Sto → Fl} {ds : List D} {ρ : Env} {S : Sto} {f : Env → Sto → Fl} {Q : D → Sto → Prop}
    (I : Nat → Env → Sto → Prop) (h0 : I 0 ρ S) (hck : ∀ i ρ S, I i ρ S → ck S)
    (st : ∀ i (h : i < ds.length) ρ S, I i ρ S → ∃ ρ1, asgT tg ds[i] ρ = some ρ1 ∧ ∃ ρ' S', (body ρ1 S = .nx ρ' S' ∨ body ρ1 S = .ct ρ' S') ∧ I (i + 1) ρ' S')
    (he : ∀ ρ' S', I ds.length ρ' S' → (f ρ' S').Ret Q) : ((forL ck tg body ds ρ S).then_ f).Ret Q := by
  obtain ⟨ρ', S', h, hI⟩ := forL_inv I hck ds 0 ρ S h0 (by simpa using st)
  rw [h]
  exact he _ _ (by simpa using hI)
@[simp] theorem rangeL_len (lo c : Int) (n : Nat) : (rangeL lo c n).length = n := by simp [rangeL]
@[simp] theorem rangeL_get (lo c : Int) (n i : Nat) (h : i < (rangeL lo c n).length) : (rangeL lo c n)[i] = .int (lo + (i : Nat) * c) := by simp [rangeL]
end Mp
namespace Mp.K42
open PySem L2
theorem fn_start : M.prg.fn "_law_start" = some ⟨1, 3, c__law_start⟩ := by kernel_rfl
theorem start (k : Nat) (ns : List Int) (h : ns.length ≤ 63) : ∃ d S, (lev M.prg (k + 1)).call "_law_start" [.rol (ns.map .int)] [] = .ok d S ∧ d = .ref 1 ∧ S.length = 2 ∧ Stt S 1 0 := by
  rw [lev_call _ _ _ _ _ _ fn_start rfl]
  apply Fl.Ret.res
  have hl : bltD .len [.rol (ns.map D.int)] [] = .ok (.int ns.length) [] := by simp [bltD, itemsD]
  simp -implicitDefEqProofs [c__law_start, hl, rangeI_one _ (show ns.length ≤ 1000000 by omega)]
  refine for_ret (fun _ ρ S => S = [] ∧ ∃ (a : Int) (x : Option D), ρ = [some (.rol (ns.map .int)), some (.int a), x]) ⟨rfl, 7, none, rfl⟩ (fun _ _ _ _ => trivial) ?_ ?_
  · rintro i hi ρ S ⟨rfl, a, x, rfl⟩
    have hi' : i < ns.length := by simpa using hi
    have hx : ixD (.rol (ns.map D.int)) (i : Int) [] = some (.int ns[i]) := by
      show (some (ns.map D.int)).bind (fun ds => L2.atI ds (i : Int)) = _
      simp [atI_nat, hi']
    refine ⟨_, rfl, [some (.rol (ns.map .int)), some (.int ((a * 48271 + ns[i] % 2147483647 + i + 1) % 2147483647)), some (.int i)], [], Or.inl ?_, rfl, _, _, rfl⟩
    simp -implicitDefEqProofs [p1__law_start, hx, mul_int, mod_int]
  · rintro ρ S ⟨rfl, a, x, rfl⟩
    simp [bltD, itemsD]
    exact ⟨a, ns, 0, 0, rfl, rfl, h, Int.le_refl 0⟩
end Mp.K42
end
section
set_option Elab.async false
set_option linter.all false
set_option maxHeartbeats 0
/-! K42Same: comprehensions by an invariant; _law_same of a thing and itself. -/
namespace Mp
theorem lcL_inv {ck : Sto → Prop} {f : D → Sto → Res (Option D)} (I : Nat → Sto → Prop) (hck : ∀ i S, I i S → ck S) :
    ∀ (ds rs : List D) (hl : rs.length = ds.length) (j : Nat) (S : Sto), I j S →
    (∀ i (h : i < ds.length) S, I (j + i) S → ∃ S', f ds[i] S = .ok (some (rs[i]'(hl ▸ h))) S' ∧ I (j + i + 1) S') →
    ∃ S', lcL ck f ds S = .ok rs S' ∧ I (j + ds.length) S'
  | [], [], _, j, S, h0, _ => ⟨S, by unfold lcL; rw [if_pos (hck _ _ h0)], by simpa using h0⟩
  | d :: ds, r :: rs, hl, j, S, h0, st => by
    obtain ⟨S2, h2, h3⟩ := st 0 (by simp) S (by simpa using h0)
    obtain ⟨S', h4, h5⟩ := lcL_inv I hck ds rs (by simpa using hl) (j + 1) S2 (by simpa using h3) fun i hi S h => by
      have := st (i + 1) (by simpa using hi) S (by simpa [Nat.add_assoc, Nat.add_comm 1 i] using h)
      simpa [Nat.add_assoc, Nat.add_comm 1 i] using this
    refine ⟨S', ?_, ?_⟩
    · unfold lcL
      simp at h2
      rw [if_pos (hck _ _ h0), h2]
      simp [h4]
    · simpa [Nat.add_assoc, Nat.add_comm 1] using h5
theorem Res.Good.mono {α : Type} {r : Res α} {Q R : α → Sto → Prop} (h : r.Good Q) (g : ∀ a S, Q a S → R a S) : r.Good R := by
  obtain ⟨a, S, h, q⟩ := h
  exact ⟨a, S, h, g a S q⟩
@[simp] theorem Res.good_ok {α : Type} (a : α) (S : Sto) (Q : α → Sto → Prop) : (Res.ok a S).Good Q ↔ Q a S :=
  ⟨fun ⟨_, _, h, q⟩ => by injection h with h1 h2; rw [h1, h2]; exact q, fun q => ⟨a, S, rfl, q⟩⟩
theorem Res.Good.bind {α β : Type} {r : Res α} {f : α → Sto → Res β} {Q : β → Sto → Prop} (h : r.Good fun a S => (f a S).Good Q) : (r.bind f).Good Q := by
  obtain ⟨a, S, h, q⟩ := h
  rw [h]; exact q
theorem Res.Good.ret {α : Type} {r : Res α} {ρ : Env} {f : α → Sto → Fl} {Q : D → Sto → Prop} (h : r.Good fun a S => (f a S).Ret Q) : (r.fl ρ f).Ret Q := by
  obtain ⟨a, S, h, q⟩ := h
  rw [h]; exact q
theorem Res.Good.nx {α : Type} {r : Res α} {ρ : Env} {f : α → Sto → Fl} {Q : Env → Sto → Prop} (h : r.Good fun a S => (f a S).Nx Q) : (r.fl ρ f).Nx Q := by
  obtain ⟨a, S, h, q⟩ := h
  rw [h]; exact q
theorem Fl.Ret.then_ {r : Fl} {f : Env → Sto → Fl} {Q : D → Sto → Prop} (h : r.Ret Q) : (r.then_ f).Ret Q := by
  obtain ⟨d, S, h, q⟩ := h
  rw [h]; exact ⟨d, S, rfl, q⟩
theorem Fl.Nx.ret {r : Fl} {f : Env → Sto → Fl} {Q : D → Sto → Prop} (h : r.Nx fun ρ S => (f ρ S).Ret Q) : (r.then_ f).Ret Q := by
  obtain ⟨ρ, S, h, q⟩ := h
  rw [h]; exact q
theorem Fl.Nx.then_ {r : Fl} {f : Env → Sto → Fl} {Q : Env → Sto → Prop} (h : r.Nx fun ρ S => (f ρ S).Nx Q) : (r.then_ f).Nx Q := by
  obtain ⟨ρ, S, h, q⟩ := h
  rw [h]; exact q
theorem Fl.Ret.good {r : Fl} {Q : D → Sto → Prop} (h : r.Ret Q) : r.res.Good Q := h.res
/-- a comprehension that runs through -/
theorem lc_ok {ck : Sto → Prop} {f : D → Sto → Res (Option D)} {ds : List D} {S : Sto} (rs : List D) (I : Nat → Sto → Prop) (h0 : I 0 S) (hck : ∀ i S, I i S → ck S) (hl : rs.length = ds.length)
    (st : ∀ i (h : i < ds.length) S, I i S → ∃ S', f ds[i] S = .ok (some (rs[i]'(hl ▸ h))) S' ∧ I (i + 1) S') :
    ∃ S', lcL ck f ds S = .ok rs S' ∧ I ds.length S' := by
  obtain ⟨S', h, hI⟩ := lcL_inv I hck ds rs hl 0 S h0 (by simpa using st)
  exact ⟨S', h, by simpa using hI⟩
theorem lc_good {ck : Sto → Prop} {f : D → Sto → Res (Option D)} {ds : List D} {S : Sto} {Q : List D → Sto → Prop} (rs : List D) (I : Nat → Sto → Prop) (h0 : I 0 S) (hck : ∀ i S, I i S → ck S) (hl : rs.length = ds.length)
    (st : ∀ i (h : i < ds.length) S, I i S → (f ds[i] S).Good fun r S' => r = some (rs[i]'(hl ▸ h)) ∧ I (i + 1) S') (he : ∀ S', I ds.length S' → Q rs S') :
    (lcL ck f ds S).Good Q := by
  obtain ⟨S', h, hI⟩ := lc_ok (ck := ck) rs I h0 hck hl fun i h S hI => by
    obtain ⟨r, S', h1, rfl, h2⟩ := st i h S hI
    exact ⟨S', h1, h2⟩
  exact ⟨_, _, h, he _ hI⟩
end Mp
namespace Mp.K42
open PySem L2
/-- plain data of at most so many levels -/
inductive Pl : Nat → D → Prop where
  | non {j} : Pl j .non
  | bl {j} (b) : Pl j (.bl b)
  | int {j} (i) : Pl j (.int i)
  | str {j} (x) : Pl j (.str x)
  | tup {j ds} (hl : ds.length ≤ 1000000) (h : ∀ d ∈ ds, Pl j d) : Pl (j + 1) (.tup ds)
theorem fn_same : M.prg.fn "_law_same" = some ⟨2, 3, c__law_same⟩ := by kernel_rfl
@[simp] theorem isD_tup_t (f) (ds : List D) (S : Sto) : isD f (.tup ds) S (.bi "tuple") = some true := by simp [isD, biNames]
@[simp] theorem isD_non_t (f) (S : Sto) : isD f .non S (.bi "tuple") = some false := by simp [isD, biNames]
@[simp] theorem isD_bl (f) (b : Bool) (S : Sto) : isD f (.bl b) S (.bi "bool") = some true := by simp [isD, biNames]
@[simp] theorem isD_bl_t (f) (b : Bool) (S : Sto) : isD f (.bl b) S (.bi "tuple") = some false := by simp [isD, biNames]
@[simp] theorem isD_bl_s (f) (b : Bool) (S : Sto) : isD f (.bl b) S (.bi "str") = some false := by simp [isD, biNames]
@[simp] theorem isD_int_t (f) (i : Int) (S : Sto) : isD f (.int i) S (.bi "tuple") = some false := by simp [isD, biNames]
@[simp] theorem isD_int_s (f) (i : Int) (S : Sto) : isD f (.int i) S (.bi "str") = some false := by simp [isD, biNames]
@[simp] theorem isD_int_b (f) (i : Int) (S : Sto) : isD f (.int i) S (.bi "bool") = some false := by simp [isD, biNames]
@[simp] theorem isD_int (f) (i : Int) (S : Sto) : isD f (.int i) S (.bi "int") = some true := by simp [isD, biNames]
@[simp] theorem isD_str_t (f) (x : Str) (S : Sto) : isD f (.str x) S (.bi "tuple") = some false := by simp [isD, biNames]
@[simp] theorem isD_str (f) (x : Str) (S : Sto) : isD f (.str x) S (.bi "str") = some true := by simp [isD, biNames]
@[simp] theorem len_tup (ds : List D) (S : Sto) : bltD .len [.tup ds] S = .ok (.int ds.length) S := rfl
@[simp] theorem ne_int (i j : Int) (S : Sto) : cmpD .NotEq (.int i) (.int j) S = some (!decide (i = j)) := rfl
@[simp] theorem eq_int (i j : Int) (S : Sto) : cmpD .Eq (.int i) (.int j) S = some (decide (i = j)) := rfl
@[simp] theorem eq_bl (i j : Bool) (S : Sto) : cmpD .Eq (.bl i) (.bl j) S = some (decide (i = j)) := rfl
@[simp] theorem eq_str (i j : Str) (S : Sto) : cmpD .Eq (.str i) (.str j) S = some (decide (i = j)) := rfl
@[simp] theorem is_non_non (S : Sto) : cmpD .Is .non .non S = some true := rfl
@[simp] theorem is_bl_non (b : Bool) (S : Sto) : cmpD .Is (.bl b) .non S = some false := rfl
@[simp] theorem is_int_non (i : Int) (S : Sto) : cmpD .Is (.int i) .non S = some false := rfl
@[simp] theorem is_str_non (x : Str) (S : Sto) : cmpD .Is (.str x) .non S = some false := rfl
theorem ixD_tup (ds : List D) (i : Int) (S : Sto) : ixD (.tup ds) i S = L2.atI ds i := rfl
theorem blsOf_rep (n : Nat) : blsOf (List.replicate n (.bl true)) = some (List.replicate n true) := by
  induction n with
  | zero => rfl
  | succ n ih => simp [List.replicate_succ, blsOf, ih]
theorem all_new (ds : List D) (bs : List Bool) (S : Sto) (h : blsOf ds = some bs) : bltD .all [.ref S.length] (S ++ [.lst ds]) = .ok (.bl (bs.all id)) (S ++ [.lst ds]) := by
  simp [bltD, itemsD, h]
theorem same_self : ∀ (j : Nat) (d : D), Pl j d → ∀ k S, j ≤ k → ((lev M.prg (k + 1)).call "_law_same" [d, d] S).Good fun r S' => r = .bl true ∧ Fr [] S S' := by
  intro j
  induction j with
  | zero =>
    intro d h k S hk
    rw [lev_call _ _ _ _ _ _ fn_same rfl]
    refine ⟨.bl true, S, ?_, rfl, Fr.refl _ _⟩
    cases h <;> simp -implicitDefEqProofs [c__law_same]
  | succ j ih =>
    intro d h k S hk
    rw [lev_call _ _ _ _ _ _ fn_same rfl]
    cases h with
    | non => exact ⟨.bl true, S, by simp -implicitDefEqProofs [c__law_same], rfl, Fr.refl _ _⟩
    | bl b => exact ⟨.bl true, S, by simp -implicitDefEqProofs [c__law_same], rfl, Fr.refl _ _⟩
    | int i => exact ⟨.bl true, S, by simp -implicitDefEqProofs [c__law_same], rfl, Fr.refl _ _⟩
    | str x => exact ⟨.bl true, S, by simp -implicitDefEqProofs [c__law_same], rfl, Fr.refl _ _⟩
    | @tup _ ds hl h =>
      obtain ⟨k, rfl⟩ : ∃ m, k = m + 1 := ⟨k - 1, by omega⟩
      apply Fl.Ret.good
      simp -implicitDefEqProofs [c__law_same, rangeI_one _ hl]
      apply Fl.Ret.then_
      apply Fl.Ret.then_
      apply Res.Good.ret
      apply Res.Good.bind
      apply Res.Good.bind
      apply Res.Good.bind
      refine lc_good (List.replicate ds.length (.bl true)) (fun _ S' => Fr [] S S') (Fr.refl _ _) (fun _ _ _ => trivial) (by simp) ?_ ?_
      · intro i hi S1 h1
        have hi' : i < ds.length := by simpa using hi
        have hx : L2.atI ds (i : Int) = some ds[i] := by simp [atI_nat, hi']
        simp -implicitDefEqProofs [p1__law_same, ixD_tup, hx]
        apply Res.Good.bind
        refine (ih ds[i] (h _ (List.getElem_mem hi')) k S1 (by omega)).mono ?_
        rintro r S2 ⟨rfl, h2⟩
        simp
        exact h1.trans h2
      · intro S1 h1
        simp -implicitDefEqProofs [all_new _ _ S1 (blsOf_rep _)]
        exact h1.trans (Fr.app _ _ _)
end Mp.K42
end
section
set_option Elab.async false
set_option linter.all false
set_option maxHeartbeats 0
/-! K42Tree: trees, their nodes in reading order, and _law_scan. -/
namespace Mp.K42
open PySem L2
inductive T where
  | leaf (o : Bool) | node (s : Bool) (ts : List T)
def sg (b : Bool) : Int := if b then 1 else 0
mutual
def T.d : T → D
  | .leaf o => .tup [.str "end", .int (sg o)]
  | .node s ts => .tup (.str "node" :: .int (sg s) :: dL ts)
def dL : List T → List D
  | [] => []
  | t :: ts => t.d :: dL ts
end
mutual
def T.dep : T → Nat
  | .leaf _ => 0
  | .node _ ts => depL ts + 1
def depL : List T → Nat
  | [] => 0
  | t :: ts => max t.dep (depL ts)
end
/-- a child: (is a node, its number) -/
abbrev Ch := Bool × Nat
abbrev Nd := Bool × List Ch
mutual
def scan : T → Nat → Nat → Ch × List Nd × List Bool
  | .leaf o, _, e => ((false, e), [], [o])
  | .node s ts, n, e => ((true, n), (s, (scanL ts (n + 1) e).1) :: (scanL ts (n + 1) e).2.1, (scanL ts (n + 1) e).2.2)
def scanL : List T → Nat → Nat → List Ch × List Nd × List Bool
  | [], _, _ => ([], [], [])
  | t :: ts, n, e =>
    let a := scan t n e
    let b := scanL ts (n + a.2.1.length) (e + a.2.2.length)
    (a.1 :: b.1, a.2.1 ++ b.2.1, a.2.2 ++ b.2.2)
end
theorem dL_map (ts : List T) : dL ts = ts.map T.d := by induction ts with
  | nil => rfl
  | cons t ts ih => simp [dL, ih]
theorem dep_mem {t : T} {ts : List T} (h : t ∈ ts) : t.dep ≤ depL ts := by
  induction ts with
  | nil => cases h
  | cons u us ih =>
    simp only [depL]
    rcases List.mem_cons.1 h with rfl | h
    · omega
    · have := ih h; omega
theorem scanL_snoc (ts : List T) (t : T) : ∀ n e, scanL (ts ++ [t]) n e =
    (let b := scanL ts n e; let a := scan t (n + b.2.1.length) (e + b.2.2.length); (b.1 ++ [a.1], b.2.1 ++ a.2.1, b.2.2 ++ a.2.2)) := by
  induction ts with
  | nil => intro n e; simp [scanL]
  | cons u us ih => intro n e; simp [scanL, ih, Nat.add_assoc]
def chD (c : Ch) : D := .tup [.int (sg c.1), .int (c.2 : Nat)]
/-- the nodes' rows lie at these places, all from L on -/
def NRep (S : Sto) (L : Nat) : List D → List Nd → Prop
  | [], [] => True
  | v :: vs, a :: as => (∃ r q, v = .ref r ∧ L ≤ r ∧ L ≤ q ∧ r ≠ q ∧ S[r]? = some (.lst [.int (sg a.1), .ref q]) ∧ S[q]? = some (.lst (a.2.map chD))) ∧ NRep S L vs as
  | _, _ => False
theorem NRep.keep {S S' : Sto} {L : Nat} {W : List Nat} (f : Fr W S S') (hW : ∀ w ∈ W, w < L) : ∀ {vs as}, NRep S L vs as → NRep S' L vs as
  | [], [], _ => trivial
  | v :: vs, a :: as, ⟨⟨r, q, h1, h2, h3, h0, h4, h5⟩, h⟩ => ⟨⟨r, q, h1, h2, h3, h0, f.at h4 (fun m => absurd (hW _ m) (by omega)), f.at h5 (fun m => absurd (hW _ m) (by omega))⟩, NRep.keep f hW h⟩
  | [], _ :: _, h => h.elim
  | _ :: _, [], h => h.elim
theorem NRep.mono {S : Sto} {L K : Nat} (hK : K ≤ L) : ∀ {vs as}, NRep S L vs as → NRep S K vs as
  | [], [], _ => trivial
  | v :: vs, a :: as, ⟨⟨r, q, h1, h2, h3, h4⟩, h⟩ => ⟨⟨r, q, h1, by omega, by omega, h4⟩, NRep.mono hK h⟩
  | [], _ :: _, h => h.elim
  | _ :: _, [], h => h.elim
theorem NRep.app {S : Sto} {L : Nat} : ∀ {vs as ws bs}, NRep S L vs as → NRep S L ws bs → NRep S L (vs ++ ws) (as ++ bs)
  | [], [], _, _, _, h => h
  | v :: vs, a :: as, _, _, ⟨h1, h2⟩, h => ⟨h1, NRep.app h2 h⟩
  | [], _ :: _, _, _, h, _ => h.elim
  | _ :: _, [], _, _, h, _ => h.elim
theorem NRep.len {S : Sto} {L : Nat} : ∀ {vs as}, NRep S L vs as → vs.length = as.length
  | [], [], _ => rfl
  | v :: vs, a :: as, ⟨_, h⟩ => by simp [NRep.len h]
  | [], _ :: _, h => h.elim
  | _ :: _, [], h => h.elim
def esD (es : List Bool) : List D := es.map fun b => .int (sg b)
theorem fn_scan : M.prg.fn "_law_scan" = some ⟨3, 6, c__law_scan⟩ := by kernel_rfl
theorem cut2 (a b : D) (l : List D) : cutD (a :: b :: l) (some 2) none = l := by
  simp [cutD, HT.sIx]
@[simp] theorem slc_tup (ds : List D) (lo hi : Option Int) (S : Sto) : slcD (.tup ds) lo hi S = .ok (.tup (cutD ds lo hi)) S := rfl
@[simp] theorem seqI_tup (ds : List D) (S : Sto) : seqI (.tup ds) S = some ⟨ds, fun _ => True⟩ := rfl
theorem bmOk_app {S : Sto} {n : Nat} {ds : List D} (h : S[n]? = some (.lst ds)) : bmOk .append (.ref n) S = true := by simp [bmOk, h]
theorem app_ref {S : Sto} {n : Nat} {ds : List D} (h : S[n]? = some (.lst ds)) (hl : ds.length < 16777216) (d : D) : bmD .append (.ref n) [d] S = .ok .non (S.set n (.lst (ds ++ [d]))) := by
  have : ds.length < PySem.sizeLine := Nat.lt_of_lt_of_le hl (by decide)
  simp [bmD, h, this]
end Mp.K42
end
section
set_option Elab.async false
set_option linter.all false
set_option maxHeartbeats 0
/-! K42Scan: _law_scan gives the nodes in reading order. -/
namespace Mp
/-- a loop that runs through -/
theorem for_nx {ck : Sto → Prop} {tg : Tg} {body : Env → Sto → Fl} {ds : List D} {ρ : Env} {S : Sto} {Q : Env → Sto → Prop}
    (I : Nat → Env → Sto → Prop) (h0 : I 0 ρ S) (hck : ∀ i ρ S, I i ρ S → ck S)
    (st : ∀ i (h : i < ds.length) ρ S, I i ρ S → ∃ ρ1, asgT tg ds[i] ρ = some ρ1 ∧ (body ρ1 S).Nx (I (i + 1)))
    (he : ∀ ρ' S', I ds.length ρ' S' → Q ρ' S') : (forL ck tg body ds ρ S).Nx Q := by
  obtain ⟨ρ', S', h, hI⟩ := forL_inv I hck ds 0 ρ S h0 fun i h ρ S hI => by
    obtain ⟨ρ1, h1, ρ2, S2, h2, h3⟩ := st i h ρ S (by simpa using hI)
    exact ⟨ρ1, h1, ρ2, S2, Or.inl h2, by simpa using h3⟩
  exact ⟨ρ', S', h, he _ _ (by simpa using hI)⟩
end Mp
namespace Mp.K42
open PySem L2
@[simp] theorem atI_0 {α : Type} (a : α) (l : List α) : L2.atI (a :: l) 0 = some a := atI_nat (a :: l) 0
@[simp] theorem atI_1 {α : Type} (a b : α) (l : List α) : L2.atI (a :: b :: l) 1 = some b := atI_nat (a :: b :: l) 1
@[simp] theorem atI_2 {α : Type} (a b c : α) (l : List α) : L2.atI (a :: b :: c :: l) 2 = some c := atI_nat (a :: b :: c :: l) 2
@[simp] theorem atI_3 {α : Type} (a b c d : α) (l : List α) : L2.atI (a :: b :: c :: d :: l) 3 = some d := atI_nat (a :: b :: c :: d :: l) 3
theorem node_end : ¬(("node" : Str) = ("end" : Str)) := by decide +kernel
mutual
def T.nn : T → Nat
  | .leaf _ => 0
  | .node _ ts => nnL ts + 1
def nnL : List T → Nat
  | [] => 0
  | t :: ts => t.nn + nnL ts
end
mutual
def T.nl : T → Nat
  | .leaf _ => 1
  | .node _ ts => nlL ts
def nlL : List T → Nat
  | [] => 0
  | t :: ts => t.nl + nlL ts
end
mutual
theorem scan_nn : ∀ (t : T) n e, (scan t n e).2.1.length = t.nn
  | .leaf _, _, _ => rfl
  | .node s ts, n, e => by simp [scan, T.nn, scanL_nn ts]
theorem scanL_nn : ∀ (ts : List T) n e, (scanL ts n e).2.1.length = nnL ts
  | [], _, _ => rfl
  | t :: ts, n, e => by simp [scanL, nnL, scan_nn t, scanL_nn ts]
end
mutual
theorem scan_nl : ∀ (t : T) n e, (scan t n e).2.2.length = t.nl
  | .leaf _, _, _ => rfl
  | .node s ts, n, e => by simp [scan, T.nl, scanL_nl ts]
theorem scanL_nl : ∀ (ts : List T) n e, (scanL ts n e).2.2.length = nlL ts
  | [], _, _ => rfl
  | t :: ts, n, e => by simp [scanL, nlL, scan_nl t, scanL_nl ts]
end
theorem nnL_take (ts : List T) (i : Nat) (h : i < ts.length) : nnL (ts.take i) + ts[i].nn ≤ nnL ts := by
  induction ts generalizing i with
  | nil => simp at h
  | cons t ts ih => cases i with
    | zero => simp [nnL]
    | succ i => have := ih i (by simpa using h); simp [nnL]; omega
theorem nlL_take (ts : List T) (i : Nat) (h : i < ts.length) : nlL (ts.take i) + ts[i].nl ≤ nlL ts := by
  induction ts generalizing i with
  | nil => simp at h
  | cons t ts ih => cases i with
    | zero => simp [nlL]
    | succ i => have := ih i (by simpa using h); simp [nlL]; omega
theorem one_le (t : T) : 1 ≤ t.nn + t.nl := by cases t <;> simp [T.nn, T.nl]; omega
theorem lenL (ts : List T) : ts.length ≤ nnL ts + nlL ts := by
  induction ts with
  | nil => simp
  | cons t ts ih => have := one_le t; simp [nnL, nlL]; omega
theorem scanL_len (ts : List T) : ∀ n e, (scanL ts n e).1.length = ts.length := by
  induction ts with
  | nil => intro n e; rfl
  | cons t ts ih => intro n e; simp [scanL, ih]
theorem scanL_snoc' (ts : List T) (t : T) (n e : Nat) : scanL (ts ++ [t]) n e =
    ((scanL ts n e).1 ++ [(scan t (n + nnL ts) (e + nlL ts)).1], (scanL ts n e).2.1 ++ (scan t (n + nnL ts) (e + nlL ts)).2.1, (scanL ts n e).2.2 ++ (scan t (n + nnL ts) (e + nlL ts)).2.2) := by
  rw [scanL_snoc]; simp only [scanL_nn, scanL_nl]
/-- what _law_scan promises -/
def ScanOk (S : Sto) (N E : Nat) (nv ev : List D) (c : Ch) (ns : List Nd) (es : List Bool) (r : D) (S' : Sto) : Prop :=
  r = chD c ∧ Fr [N, E] S S' ∧ ∃ nv', S'[N]? = some (.lst (nv ++ nv')) ∧ S'[E]? = some (.lst (ev ++ esD es)) ∧ NRep S' S.length nv' ns
theorem scan_leaf (C : Cf) (o : Bool) (S : Sto) (N E : Nat) (nv ev : List D) (hN : S[N]? = some (.lst nv)) (hE : S[E]? = some (.lst ev)) (hne : N ≠ E) (be : ev.length < 1000000) :
    (evSs C none c__law_scan [some (T.leaf o).d, some (.ref N), some (.ref E), none, none, none] S).Ret (ScanOk S N E nv ev (scan (.leaf o) nv.length ev.length).1 (scan (.leaf o) nv.length ev.length).2.1 (scan (.leaf o) nv.length ev.length).2.2) := by
  have e1 := set_self hE (.lst (ev ++ [.int (sg o)]))
  simp -implicitDefEqProofs [c__law_scan, T.d, ixD_tup, bmOk_app hE, app_ref hE (show ev.length < 16777216 by omega), len_ref e1, scan]
  refine ⟨?_, Fr.set _ _ (by simp), [], ?_, ?_, trivial⟩
  · simp [chD, sg]
  · simpa using set_other hN (.lst (ev ++ [.int (sg o)])) (Ne.symm hne)
  · exact e1
theorem scan_ok : ∀ (k : Nat) (t : T) (S : Sto) (N E : Nat) (nv ev : List D), t.dep ≤ k → S[N]? = some (.lst nv) → S[E]? = some (.lst ev) → N ≠ E →
    nv.length + t.nn < 1000000 → ev.length + t.nl < 1000000 → 
    ((lev M.prg (k + 1)).call "_law_scan" [t.d, .ref N, .ref E] S).Good (ScanOk S N E nv ev (scan t nv.length ev.length).1 (scan t nv.length ev.length).2.1 (scan t nv.length ev.length).2.2) := by
  intro k
  induction k with
  | zero =>
    intro t S N E nv ev hd hN hE hne bn be
    rw [lev_call _ _ _ _ _ _ fn_scan rfl]
    cases t with
    | node s ts => simp [T.dep] at hd
    | leaf o => exact (scan_leaf _ o S N E nv ev hN hE hne (by omega)).good
  | succ k ih =>
    intro t S N E nv ev hd hN hE hne bn be
    rw [lev_call _ _ _ _ _ _ fn_scan rfl]
    cases t with
    | leaf o => exact (scan_leaf _ o S N E nv ev hN hE hne (by omega)).good
    | node s ts =>
      simp only [scan, T.nn, T.nl, T.dep] at hd bn be ⊢
      have lN := lt_at hN
      have lE := lt_at hE
      have hN1 : (S ++ [O.lst []])[N]? = some (.lst nv) := (Fr.app [] S _).at hN (by simp)
      have hN2 : (S ++ [O.lst [], O.lst [.int (sg s), .ref S.length]])[N]? = some (.lst nv) := (Fr.app [] S _).at hN (by simp)
      have bnv : nv.length < 16777216 := by omega
      apply Fl.Ret.good
      simp -implicitDefEqProofs [c__law_scan, T.d, ixD_tup, cut2, node_end, len_ref hN1, bmOk_app hN1, app_ref hN2 bnv]
      apply Fl.Nx.ret
      refine for_nx (fun i ρ S' => ∃ x nv', ρ = [some (.tup (.str "node" :: .int (sg s) :: dL ts)), some (.ref N), some (.ref E), some (.ref S.length), some (.int nv.length), x] ∧ Fr [N, E] S S' ∧ S.length + 2 ≤ S'.length ∧
        S'[N]? = some (.lst (nv ++ .ref (S.length + 1) :: nv')) ∧ S'[E]? = some (.lst (ev ++ esD (scanL (ts.take i) (nv.length + 1) ev.length).2.2)) ∧
        S'[S.length + 1]? = some (.lst [.int (sg s), .ref S.length]) ∧ S'[S.length]? = some (.lst ((scanL (ts.take i) (nv.length + 1) ev.length).1.map chD)) ∧
        NRep S' (S.length + 2) nv' (scanL (ts.take i) (nv.length + 1) ev.length).2.1) ?_ (fun _ _ _ _ => trivial) ?_ ?_
      · refine ⟨none, [], rfl, (Fr.app _ _ _).trans (Fr.set _ _ (by simp)), by simp, set_self hN2 _, ?_, ?_, ?_, trivial⟩
        · exact set_other (by simpa [scanL, esD] using (Fr.app [] S _).at hE (by simp)) _ hne
        · exact set_other (by simp) _ (by omega)
        · exact set_other (by simp [scanL]) _ (by omega)
      · rintro i hi ρ S1 ⟨x, nv', rfl, f1, l1, h1N, h1E, h1r, h1q, rep⟩
        have hi' : i < ts.length := by simpa [dL_map] using hi
        have hget : (dL ts)[i] = ts[i].d := by simp [dL_map]
        refine ⟨_, rfl, ?_⟩
        rw [hget]
        have hlen := rep.len
        rw [scanL_nn] at hlen
        have t1 := nnL_take ts i hi'
        have t2 := nlL_take ts i hi'
        have en : (nv ++ D.ref (S.length + 1) :: nv').length = nv.length + 1 + nnL (ts.take i) := by simp [hlen]; omega
        have ee : (ev ++ esD (scanL (ts.take i) (nv.length + 1) ev.length).2.2).length = ev.length + nlL (ts.take i) := by simp [esD, scanL_nl]
        have hc := ih ts[i] S1 N E _ _ (Nat.le_trans (dep_mem (List.getElem_mem hi')) (by omega)) h1N h1E hne (by omega) (by omega)
        rw [en, ee] at hc
        simp -implicitDefEqProofs [p1__law_scan, bmOk_app h1q]
        apply Fl.Nx.then_
        apply Res.Good.nx
        apply Res.Good.bind
        apply Res.Good.bind
        refine hc.mono ?_
        rintro r S2 ⟨rfl, f2, nv'', h2N, h2E, rep2⟩
        have h2q : S2[S.length]? = _ := f2.at h1q (by simp; omega)
        have h2r : S2[S.length + 1]? = _ := f2.at h1r (by simp; omega)
        have l2 := f2.1
        have bl : ((scanL (ts.take i) (nv.length + 1) ev.length).1.map chD).length < 16777216 := by
          have := lenL ts
          simp [scanL_len]
          omega
        have hsn := scanL_snoc' (ts.take i) ts[i] (nv.length + 1) ev.length
        rw [← List.take_succ_eq_append_getElem hi'] at hsn
        simp -implicitDefEqProofs [app_ref h2q bl]
        rw [hsn]
        have fq : Fr [S.length] S2 (S2.set S.length (.lst ((scanL (ts.take i) (nv.length + 1) ev.length).1.map chD ++ [chD (scan ts[i] (nv.length + 1 + nnL (ts.take i)) (ev.length + nlL (ts.take i))).1]))) := Fr.set _ _ (by simp)
        refine ⟨?_, by omega, nv' ++ nv'', ?_, ?_, ?_, ?_, ?_⟩
        · exact ((((f1.trans f2).mono (V := [N, E, S.length]) (fun n hn => by simp at hn ⊢; rcases hn with h | h <;> simp [h])).trans (fq.mono (by simp)))).fresh (by simp)
        · have := fq.at h2N (by simp; omega)
          simpa using this
        · have := fq.at h2E (by simp; omega)
          simpa [esD] using this
        · exact h2r
        · simpa using set_self h2q _
        · exact ((rep.keep f2 (by simp; omega)).app (rep2.mono l1)).keep fq (by simp)
      · rintro ρ S1 ⟨x, nv', rfl, f1, l1, h1N, h1E, h1r, h1q, rep⟩
        have hl : (dL ts).length = ts.length := by simp [dL_map]
        rw [hl, List.take_length] at h1E h1q rep
        simp -implicitDefEqProofs
        refine ⟨by simp [chD, sg], f1, .ref (S.length + 1) :: nv', h1N, h1E, ⟨_, _, rfl, by omega, by omega, by omega, h1r, h1q⟩, rep.mono (by omega)⟩
end Mp.K42
end
section
set_option Elab.async false
set_option linter.all false
set_option maxHeartbeats 0
/-! K42Grow: the law's drawn tree. -/
namespace Mp.K42
open PySem L2
theorem Stt.keep {W : List Nat} {S S' : Sto} {s n : Nat} (h : Stt S s n) (f : Fr W S S') (hs : s ∉ W) (hn : n ∉ W) : Stt S' s n := by
  obtain ⟨a, xs, p, r, e, en, h⟩ := h
  exact ⟨a, xs, p, r, f.at e hs, f.at en hn, h⟩
theorem Stt.ls {S : Sto} {s n : Nat} (h : Stt S s n) : s < S.length ∧ n < S.length := by
  obtain ⟨a, xs, p, r, e, en, h⟩ := h
  exact ⟨lt_at e, lt_at en⟩
/-- a drawn number -/
theorem pick_good (k : Nat) (S : Sto) (s n : Nat) (m : Nat) (h : Stt S s n) (hm : 0 < m) (hM : m < 1073741824) :
    ((lev M.prg (k + 1)).call "_law_pick" [.ref s, .int m] S).Good fun r S' => ∃ p : Nat, p < m ∧ r = .int p ∧ Fr [s] S S' ∧ Stt S' s n := by
  obtain ⟨p, o, h1, h2, h3, h4⟩ := pick k S s n m h (by omega) (by omega)
  refine ⟨_, _, h1, p.toNat, by omega, ?_, Fr.set _ _ (by simp), h4⟩
  rw [Int.toNat_of_nonneg h2]
mutual
/-- every node has 1 to 12 options -/
def T.wf : T → Prop
  | .leaf _ => True
  | .node _ ts => 1 ≤ ts.length ∧ ts.length ≤ 12 ∧ wfL ts
def wfL : List T → Prop
  | [] => True
  | t :: ts => t.wf ∧ wfL ts
end
theorem wfL_app {a b : List T} : wfL (a ++ b) ↔ wfL a ∧ wfL b := by
  induction a with
  | nil => simp [wfL]
  | cons t a ih => simp [wfL, ih, and_assoc]
theorem nnL_app (a b : List T) : nnL (a ++ b) = nnL a + nnL b := by
  induction a with
  | nil => simp [nnL]
  | cons t a ih => simp [nnL, ih, Nat.add_assoc]
theorem nlL_app (a b : List T) : nlL (a ++ b) = nlL a + nlL b := by
  induction a with
  | nil => simp [nlL]
  | cons t a ih => simp [nlL, ih, Nat.add_assoc]
theorem depL_app (a b : List T) : depL (a ++ b) = max (depL a) (depL b) := by
  induction a with
  | nil => simp [depL]
  | cons t a ih => simp [depL, ih, Nat.max_assoc]
theorem rev_facts (a : List T) : nnL a.reverse = nnL a ∧ nlL a.reverse = nlL a ∧ depL a.reverse = depL a ∧ (wfL a.reverse ↔ wfL a) := by
  induction a with
  | nil => simp
  | cons t a ih =>
    obtain ⟨h1, h2, h3, h4⟩ := ih
    simp [nnL_app, nlL_app, depL_app, wfL_app, h1, h2, h3, h4, nnL, nlL, depL, wfL]
    refine ⟨by omega, by omega, by omega, and_comm⟩
theorem fn_tree : M.prg.fn "_law_tree" = some ⟨3, 7, c__law_tree⟩ := by kernel_rfl
def TreeOk (S : Sto) (s n R lv a b : Nat) (r : D) (S' : Sto) : Prop :=
  ∃ t a' b', r = T.d t ∧ t.dep ≤ lv ∧ t.wf ∧ Fr [s, R] S S' ∧ Stt S' s n ∧ S'[R]? = some (.lst [.int (a' : Nat), .int (b' : Nat)]) ∧ t.nn + a' = a ∧ t.nl + b' = b + 1
theorem sg_pick (p : Nat) (h : p < 2) : ∃ o, ((p : Int)) = sg o := by
  match p, h with
  | 0, _ => exact ⟨false, rfl⟩
  | 1, _ => exact ⟨true, rfl⟩
theorem tree_leaf (k : Nat) (S : Sto) (s n R lv a b : Nat) (hs : Stt S s n) (hR : S[R]? = some (.lst [.int a, .int b])) (hRs : R ≠ s) (h : lv = 0 ∨ a = 0) :
    (evSs (lev M.prg (k + 1)) none c__law_tree [some (.ref s), some (.int lv), some (.ref R), none, none, none, none] S).Ret (TreeOk S s n R lv a b) := by
  by_cases h0 : lv = 0
  case' pos => subst h0; simp -implicitDefEqProofs [c__law_tree]
  case' neg =>
    have h1 : a = 0 := by omega
    subst h1
    simp -implicitDefEqProofs [c__law_tree, h0, ixD_ref hR]
  all_goals
    apply Fl.Ret.then_
    apply Fl.Ret.then_
    apply Res.Good.ret
    repeat apply Res.Good.bind
    refine (pick_good k S s n 2 hs (by omega) (by omega)).mono ?_
    rintro r S1 ⟨p, hp, rfl, f, h1⟩
    obtain ⟨o, ho⟩ := sg_pick p hp
    simp -implicitDefEqProofs
    exact ⟨.leaf o, _, b, by simp [T.d, ho], by simp [T.dep], trivial, f.mono (by simp), h1, f.at hR (by simp [hRs]), by simp [T.nn], by simp [T.nl]; omega⟩
theorem bmOk_rev {S : Sto} {n : Nat} {ds : List D} (h : S[n]? = some (.lst ds)) : bmOk .reverse (.ref n) S = true := by simp [bmOk, h]
theorem rev_ref {S : Sto} {n : Nat} {ds : List D} (h : S[n]? = some (.lst ds)) : bmD .reverse (.ref n) [] S = .ok .non (S.set n (.lst ds.reverse)) := by simp [bmD, h]
theorem tuple_ref {S : Sto} {n : Nat} {ds : List D} (h : S[n]? = some (.lst ds)) : bltD .tuple [.ref n] S = .ok (.tup ds) S := by simp [bltD, itemsD, h]
theorem add_tup2 (x y : D) (b : List D) (S : Sto) (h : b.length + 2 ≤ 16777216) : binD .Add (.tup [x, y]) (.tup b) S = .ok (.tup (x :: y :: b)) S := by
  have : [x, y].length + b.length ≤ PySem.sizeLine := by
    have : PySem.sizeLine = 16777216 := by decide
    simp; omega
  simp only [binD, addD]
  rw [if_pos this]; rfl
def manys : List Nat := [1, 2, 2, 2, 3, 3, 5, 12]
theorem manys_at (p : Nat) (h : p < 8) : ∃ m : Nat, L2.atI [D.int 1, .int 2, .int 2, .int 2, .int 3, .int 3, .int 5, .int 12] (p : Int) = some (.int m) ∧ 1 ≤ m ∧ m ≤ 12 := by
  match p, h with
  | 0, _ => exact ⟨1, rfl, by omega, by omega⟩
  | 1, _ => exact ⟨2, rfl, by omega, by omega⟩
  | 2, _ => exact ⟨2, rfl, by omega, by omega⟩
  | 3, _ => exact ⟨2, rfl, by omega, by omega⟩
  | 4, _ => exact ⟨3, rfl, by omega, by omega⟩
  | 5, _ => exact ⟨3, rfl, by omega, by omega⟩
  | 6, _ => exact ⟨5, rfl, by omega, by omega⟩
  | 7, _ => exact ⟨12, rfl, by omega, by omega⟩
theorem tree_ok : ∀ (k : Nat) (S : Sto) (s n R lv a b : Nat), lv ≤ k → Stt S s n → S[R]? = some (.lst [.int a, .int b]) → R ≠ s → R ≠ n →
    ((lev M.prg (k + 2)).call "_law_tree" [.ref s, .int lv, .ref R] S).Good (TreeOk S s n R lv a b) := by
  intro k
  induction k with
  | zero =>
    intro S s n R lv a b hl hs hR hRs hRn
    rw [lev_call _ _ _ _ _ _ fn_tree rfl]
    exact (tree_leaf 0 S s n R lv a b hs hR hRs (by omega)).good
  | succ k ih =>
    intro S s n R lv a b hl hs hR hRs hRn
    rw [lev_call _ _ _ _ _ _ fn_tree rfl]
    by_cases hz : lv = 0 ∨ a = 0
    · exact (tree_leaf (k + 1) S s n R lv a b hs hR hRs hz).good
    have z1 : ¬(lv = 0) := by omega
    have z2 : ¬(a = 0) := by omega
    apply Fl.Ret.good
    simp -implicitDefEqProofs [c__law_tree, z1, z2, ixD_ref hR]
    apply Fl.Nx.ret
    apply Res.Good.nx
    repeat apply Res.Good.bind
    have hs1 : Stt (S ++ [O.lst [.int 1, .int 2, .int 2, .int 2, .int 3, .int 3, .int 5, .int 12]]) s n := hs.keep (Fr.app [] S _) (by simp) (by simp)
    refine (pick_good (k + 1) _ s n 8 hs1 (by omega) (by omega)).mono ?_
    rintro r S1 ⟨p, hp, rfl, f1, hs2⟩
    obtain ⟨m, hm, m1, m2⟩ := manys_at p hp
    have eL : S1[S.length]? = _ := f1.at (o := O.lst [.int 1, .int 2, .int 2, .int 2, .int 3, .int 3, .int 5, .int 12]) (by simp) (by have := hs.ls; simp; omega)
    have lR := lt_at hR
    have e1 : S1[R]? = _ := f1.at ((Fr.app [] S _).at hR (by simp)) (by simp [hRs])
    obtain ⟨q, hq, q1, q2, q3⟩ : ∃ q : Nat, bltD .min [.int (1 + b), .int m] S1 = .ok (.int q) S1 ∧ 1 ≤ q ∧ q ≤ 12 ∧ q ≤ b + 1 := by
      by_cases h : (m : Int) < 1 + b
      · exact ⟨m, by simp [bltD, h], m1, m2, by omega⟩
      · exact ⟨1 + b, by simp [bltD, h], by omega, by omega, by omega⟩
    have fS : Fr [s, R] S S1 := ((Fr.app [] S _).mono (by simp)).trans (f1.mono (by simp))
    have v0 := set_self e1 (.lst [.int ((a : Int) - 1), .int b])
    have v1 := set_self e1 (.lst [.int ((a : Int) - 1), .int ((b : Int) - (q - 1))])
    have lS : S.length + 1 ≤ S1.length := by simpa using f1.1
    have ls := hs.ls
    simp -implicitDefEqProofs [ixD_ref eL, hm, hq, ixD_ref e1, setD_ref e1, ixD_ref v0, setD_ref v0, L2.ixN, rangeI_one q (by omega)]
    apply Fl.Nx.ret
    refine for_nx (fun i ρ S' => ∃ x y us a' b', ρ = [some (.ref s), some (.int lv), some (.ref R), some (.int q), some (.ref S1.length), x, y] ∧ Fr [s, R] S S' ∧ S1.length < S'.length ∧ Stt S' s n ∧
      S'[R]? = some (.lst [.int (a' : Nat), .int (b' : Nat)]) ∧ S'[S1.length]? = some (.lst (dL us)) ∧ us.length = i ∧ wfL us ∧ depL us ≤ lv - 1 ∧ nnL us + a' + 1 = a ∧ nlL us + b' + q = b + i + 1) ?_ (fun _ _ _ _ => trivial) ?_ ?_
    · refine ⟨none, none, [], a - 1, b + 1 - q, rfl, ?_, by simp, ?_, ?_, by simp [dL], rfl, trivial, by simp [depL], by simp [nnL]; omega, by simp [nlL]; omega⟩
      · exact (fS.trans (Fr.set _ _ (by simp))).trans (Fr.app _ _ _)
      · exact (hs2.keep (Fr.set (W := [R]) S1 _ (by simp)) (by simp; omega) (by simp; omega)).keep (Fr.app [] _ _) (by simp) (by simp)
      · have := (Fr.app [] _ [O.lst []]).at v1 (by simp)
        have ha : ((a - 1 : Nat) : Int) = (a : Int) - 1 := by omega
        have hb : ((b + 1 - q : Nat) : Int) = (b : Int) - (q - 1) := by omega
        rw [ha, hb]; exact this
    · rintro i hi ρ S4 ⟨x, y, us, a', b', rfl, f4, l4, s4, r4, v4, u1, u2, u3, u4, u5⟩
      refine ⟨_, rfl, ?_⟩
      simp -implicitDefEqProofs [p1__law_tree]
      apply Fl.Nx.then_
      apply Res.Good.nx
      repeat apply Res.Good.bind
      refine (pick_good (k + 1) _ s n 4 s4 (by omega) (by omega)).mono ?_
      rintro r S5 ⟨g, hg, rfl, f5, s5⟩
      have nV : ¬(S1.length = s) ∧ ¬(S1.length = R) := by omega
      have v5 : S5[S1.length]? = _ := f5.at v4 (by simp [nV])
      have r5 : S5[R]? = _ := f5.at r4 (by simp [hRs])
      have l5 := f5.1
      have fin : ∀ lw : Nat, lw ≤ lv - 1 → ((lev M.prg (k + 2)).call "_law_tree" [.ref s, .int lw, .ref R] S5).Good fun a_1 S_1 => (bmD .append (.ref S1.length) [a_1] S_1).Good fun _ S' => 
          Fr [s, R] S S' ∧ S1.length < S'.length ∧ Stt S' s n ∧ ∃ us a' b', S'[R]? = some (.lst [.int (a' : Nat), .int (b' : Nat)]) ∧ S'[S1.length]? = some (.lst (dL us)) ∧ us.length = i + 1 ∧ wfL us ∧ depL us ≤ lv - 1 ∧ nnL us + a' + 1 = a ∧ nlL us + b' + q = b + (i + 1) + 1 := by
        intro lw hlw
        refine (ih S5 s n R lw a' b' (by omega) s5 r5 hRs hRn).mono ?_
        rintro r S6 ⟨t, a'', b'', rfl, d6, w6, f6, s6, r6, n6, m6⟩
        have v6 : S6[S1.length]? = _ := f6.at v5 (by simp [nV])
        have hi' : i < q := by simpa using hi
        have bl : (dL us).length < 16777216 := by simp [dL_map, u1]; omega
        have fq : Fr [S1.length] S6 (S6.set S1.length (.lst (dL us ++ [t.d]))) := Fr.set _ _ (by simp)
        have l6 := f6.1
        simp -implicitDefEqProofs [app_ref v6 bl]
        refine ⟨?_, by omega, s6.keep fq (by simp; omega) (by simp; omega), us ++ [t], a'', b'', fq.at r6 (by simp; omega), ?_, by simp [u1], by simp [wfL_app, u2, w6, wfL], by simp [depL_app, depL]; omega, by simp [nnL_app, nnL]; omega, by simp [nlL_app, nlL]; omega⟩
        · exact ((((f4.trans (f5.mono (by simp))).trans f6).mono (V := [s, R, S1.length]) (fun n hn => by simp at hn ⊢; rcases hn with h | h <;> simp [h])).trans (fq.mono (by simp))).fresh (by simp; omega)
        · have := set_self v6 (.lst (dL us ++ [t.d]))
          simpa [dL_map] using this
      by_cases hg0 : g = 0
      · subst hg0
        simp -implicitDefEqProofs [bmOk_app v5]
        apply Fl.Nx.then_
        apply Res.Good.nx
        repeat apply Res.Good.bind
        refine (fin 0 (by omega)).mono ?_
        intro r S6 h6
        simp -implicitDefEqProofs
        exact h6
      · simp -implicitDefEqProofs [hg0, bmOk_app v5]
        apply Fl.Nx.then_
        apply Res.Good.nx
        repeat apply Res.Good.bind
        rw [show (lv : Int) - 1 = ((lv - 1 : Nat) : Int) by omega]
        refine (fin (lv - 1) (by omega)).mono ?_
        intro r S6 h6
        simp -implicitDefEqProofs
        exact h6
    · rintro ρ S4 ⟨x, y, us, a', b', rfl, f4, l4, s4, r4, v4, u1, u2, u3, u4, u5⟩
      simp only [rangeL_len] at u1 u5
      have nV : ¬(S1.length = s) ∧ ¬(S1.length = R) := by omega
      have fin2 : ∀ S6 us', Fr [s, R] S S6 → Stt S6 s n → S6[R]? = some (.lst [.int (a' : Nat), .int (b' : Nat)]) → S6[S1.length]? = some (.lst (dL us')) → us'.length = q → wfL us' → depL us' ≤ lv - 1 → nnL us' + a' + 1 = a → nlL us' + b' + q = b + q + 1 →
          ((lev M.prg (k + 2)).call "_law_pick" [.ref s, .int 2] S6).Good fun r S7 => S7[S1.length]? = some (.lst (dL us')) ∧ ∃ o, r = .int (sg o) ∧ TreeOk S s n R lv a b (.tup (.str "node" :: .int (sg o) :: dL us')) S7 := by
        intro S6 us' g1 g2 g3 g4 g5 g6 g7 g8 g9
        refine (pick_good (k + 1) _ s n 2 g2 (by omega) (by omega)).mono ?_
        rintro r S7 ⟨g, hg, rfl, f7, s7⟩
        obtain ⟨o, ho⟩ := sg_pick g hg
        rw [ho]
        exact ⟨f7.at g4 (by simp [nV]), o, rfl, .node o us', a', b', by simp [T.d], by simp [T.dep]; omega, ⟨by omega, by omega, g6⟩, g1.trans (f7.mono (by simp)), s7, f7.at g3 (by simp [hRs]), by simp [T.nn]; omega, by simp [T.nl]; omega⟩
      apply Fl.Nx.ret
      simp -implicitDefEqProofs
      apply Res.Good.nx
      repeat apply Res.Good.bind
      refine (pick_good (k + 1) _ s n 2 s4 (by omega) (by omega)).mono ?_
      rintro r S5 ⟨g, hg, rfl, f5, s5⟩
      have v5 : S5[S1.length]? = _ := f5.at v4 (by simp [nV])
      have r5 : S5[R]? = _ := f5.at r4 (by simp [hRs])
      have l5 := f5.1
      have bl : ∀ us' : List T, us'.length = q → (dL us').length + 2 ≤ 16777216 := by intro us' h; simp [dL_map, h]; omega
      by_cases hg0 : g = 0
      · subst hg0
        have fq : Fr [S1.length] S5 (S5.set S1.length (.lst (dL us).reverse)) := Fr.set _ _ (by simp)
        have hrev : (dL us).reverse = dL us.reverse := by simp [dL_map]
        obtain ⟨w1, w2, w3, w4⟩ := rev_facts us
        simp -implicitDefEqProofs [bmOk_rev v5, rev_ref v5]
        apply Fl.Ret.then_
        apply Res.Good.ret
        repeat apply Res.Good.bind
        refine (fin2 _ us.reverse ?_ (s5.keep fq (by simp; omega) (by simp; omega)) (fq.at r5 (by simp; omega)) ?_ (by simp [u1]) (w4.2 u2) (by omega) (by omega) (by omega)).mono ?_
        · exact ((((f4.trans (f5.mono (by simp)))).mono (V := [s, R, S1.length]) (fun n hn => by simp at hn ⊢; rcases hn with h | h <;> simp [h])).trans (fq.mono (by simp))).fresh (by simp; omega)
        · rw [← hrev]; exact set_self v5 _
        · rintro r S7 ⟨v7, o, rfl, h7⟩
          simp -implicitDefEqProofs [tuple_ref v7, add_tup2 _ _ _ _ (bl us.reverse (by simp [u1]))]
          exact h7
      · simp -implicitDefEqProofs [hg0]
        apply Fl.Ret.then_
        apply Res.Good.ret
        repeat apply Res.Good.bind
        refine (fin2 _ us (f4.trans (f5.mono (by simp))) s5 r5 v5 u1 u2 u3 u4 u5).mono ?_
        rintro r S7 ⟨v7, o, rfl, h7⟩
        simp -implicitDefEqProofs [tuple_ref v7, add_tup2 _ _ _ _ (bl us u1)]
        exact h7
end Mp.K42
end
section
set_option Elab.async false
set_option linter.all false
set_option maxHeartbeats 0
/-! K42Win: the law's winners. -/
namespace Mp.K42
open PySem L2
/-- a child's winner -/
def val (es ws : List Bool) (c : Ch) : Bool := if c.1 then ws.getD c.2 false else es.getD c.2 false
/-- children stand within the lists, nodes behind at -/
def Beh (n m at' : Nat) (c : Ch) : Prop := if c.1 then at' < c.2 ∧ c.2 < n else c.2 < m
theorem fn_at : M.prg.fn "_law_at" = some ⟨3, 3, c__law_at⟩ := by kernel_rfl
theorem esD_get (es : List Bool) (i : Nat) (h : i < es.length) : L2.atI (esD es) (i : Int) = some (.int (sg (es.getD i false))) := by
  rw [atI_nat]; simp [esD, h, List.getD]
theorem at_ok (k : Nat) (c : Ch) (S : Sto) (W E : Nat) (es ws : List Bool) (hW : S[W]? = some (.lst (esD ws))) (hE : S[E]? = some (.lst (esD es))) (hc : if c.1 then c.2 < ws.length else c.2 < es.length) :
    (lev M.prg (k + 1)).call "_law_at" [chD c, .ref W, .ref E] S = .ok (.int (sg (val es ws c))) S := by
  rw [lev_call _ _ _ _ _ _ fn_at rfl]
  obtain ⟨b, i⟩ := c
  cases b
  · simp only [Bool.false_eq_true, if_false] at hc
    simp -implicitDefEqProofs [c__law_at, chD, ixD_tup, sg, ixD_ref hE, esD_get _ _ hc, val]
  · simp only [if_true] at hc
    simp -implicitDefEqProofs [c__law_at, chD, ixD_tup, sg, ixD_ref hW, esD_get _ _ hc, val]
theorem NRep.get {S : Sto} {L : Nat} : ∀ {vs as}, NRep S L vs as → ∀ i (h : i < as.length), ∃ r q, vs[i]? = some (.ref r) ∧ L ≤ r ∧ L ≤ q ∧ r ≠ q ∧ S[r]? = some (.lst [.int (sg as[i].1), .ref q]) ∧ S[q]? = some (.lst (as[i].2.map chD))
  | [], [], _, i, h => by simp at h
  | v :: vs, a :: as, ⟨⟨r, q, h1, h2⟩, h⟩, 0, _ => ⟨r, q, by simp [h1], h2⟩
  | v :: vs, a :: as, ⟨_, h⟩, i + 1, hi => by simpa using NRep.get h i (by simpa using hi)
  | [], _ :: _, h, _, _ => h.elim
  | _ :: _, [], h, _, _ => h.elim
theorem pyL_es (bs : List Bool) : pyL (esD bs) = some (bs.map fun b => PyData.int (sg b)) := by
  induction bs with
  | nil => rfl
  | cons b bs ih =>
    have : esD (b :: bs) = .int (sg b) :: esD bs := rfl
    rw [this]
    simp [pyL, D.py, ih]
theorem shaped_ints (bs : List Bool) : SeqAt.shaped (.list (bs.map fun b => PyData.int (sg b))) = true := by
  have h1 : PyData.canLayAll0 (bs.map fun b => PyData.int (sg b)) = true := by
    induction bs with
    | nil => rfl
    | cons b bs ih => simp [PyData.canLayAll0, PyData.canLay0, ih]
  have h2 : PyData.depthAll (bs.map fun b => PyData.int (sg b)) = 0 := by
    induction bs with
    | nil => rfl
    | cons b bs ih => simp [PyData.depthAll, PyData.depth, ih (by simpa [PyData.canLayAll0, PyData.canLay0] using h1)]
  simp [SeqAt.shaped, PyData.canLay0, PyData.depth, h1, h2]
theorem eqv_sg (a b : Bool) : PyData.eqv (.int (sg a)) (.int (sg b)) = (a == b) := by cases a <;> cases b <;> rfl
theorem any_es (s : Bool) (bs : List Bool) : ((bs.map fun b => PyData.int (sg b)).any fun z => PyData.eqv z (.int (sg s))) = bs.any (· == s) := by
  induction bs with
  | nil => rfl
  | cons b bs ih => simp [eqv_sg, ih]
theorem in_es (s : Bool) (bs : List Bool) (S : Sto) (B : Nat) (hB : S[B]? = some (.lst (esD bs))) : cmpD .In (.int (sg s)) (.ref B) S = some (bs.any (· == s)) := by
  have h1 : SeqAt.shaped (.int (sg s)) = true := by cases s <;> rfl
  have : inD (.int (sg s)) (.ref B) S = some (bs.any (· == s)) := by
    simp only [inD, itemsD, hB, pyL_es, D.py, h1, shaped_ints, Bool.and_self, if_true, any_es]
  simpa [cmpD] using this
/-- the winners of a list's suffix, right to left -/
def winS (es : List Bool) : List Nd → Nat → List Bool
  | [], _ => []
  | (s, cs) :: ns, off =>
    let ws := winS es ns (off + 1)
    (if cs.any (fun c => (if c.1 then ws.getD (c.2 - (off + 1)) false else es.getD c.2 false) == s) then s else !s) :: ws
theorem winS_len (es : List Bool) (ns : List Nd) : ∀ off, (winS es ns off).length = ns.length := by
  induction ns with
  | nil => intro off; rfl
  | cons a ns ih => intro off; obtain ⟨s, cs⟩ := a; simp [winS, ih]
theorem winS_drop (es : List Bool) (ns : List Nd) : ∀ off i, (winS es ns off).drop i = winS es (ns.drop i) (off + i) := by
  induction ns with
  | nil => intro off i; simp [winS]
  | cons a ns ih =>
    intro off i
    obtain ⟨s, cs⟩ := a
    cases i with
    | zero => simp
    | succ i => simp only [winS, List.drop_succ_cons]; rw [ih]; congr 1; omega
/-- children behind their node, within the lists -/
def Wf (m : Nat) : List Nd → Nat → Nat → Prop
  | [], _, _ => True
  | (_, cs) :: ns, off, n => (∀ c ∈ cs, if c.1 then off < c.2 ∧ c.2 < n else c.2 < m) ∧ Wf m ns (off + 1) n
theorem Wf.get {m : Nat} : ∀ {ns : List Nd} {off n : Nat}, Wf m ns off n → ∀ i (h : i < ns.length), ∀ c ∈ ns[i].2, if c.1 then off + i < c.2 ∧ c.2 < n else c.2 < m
  | [], _, _, _, i, h => by simp at h
  | (s, cs) :: ns, off, n, ⟨h1, _⟩, 0, _ => by simpa using h1
  | (s, cs) :: ns, off, n, ⟨_, h2⟩, i + 1, h => by
    have := Wf.get h2 i (by simpa using h)
    simpa [Nat.add_assoc, Nat.add_comm 1] using this
theorem drop_getD (l : List Bool) (a c : Nat) (h : a ≤ c) : (l.drop a).getD (c - a) false = l.getD c false := by
  simp [List.getD, List.getElem?_drop, Nat.add_sub_cancel' h]
theorem winS_at (es : List Bool) (ns : List Nd) (m : Nat) (wf : Wf m ns 0 ns.length) (i : Nat) (h : i < ns.length) :
    (winS es ns 0).drop i = (if ns[i].2.any (fun c => val es (winS es ns 0) c == ns[i].1) then ns[i].1 else !ns[i].1) :: (winS es ns 0).drop (i + 1) := by
  have e1 : (winS es ns 0).drop (i + 1) = winS es (ns.drop (i + 1)) (i + 1) := by rw [winS_drop]; congr 1; omega
  have e0 : (winS es ns 0).drop i = winS es (ns.drop i) i := by rw [winS_drop]; congr 1; omega
  rw [e0, List.drop_eq_getElem_cons h]
  have hb := wf.get i h
  generalize hw : ns[i] = a at hb ⊢
  obtain ⟨s, cs⟩ := a
  simp only [winS]
  rw [← e1]
  congr 2
  have : cs.any (fun c => (if c.1 then ((winS es ns 0).drop (i + 1)).getD (c.2 - (i + 1)) false else es.getD c.2 false) == s) = cs.any (fun c => val es (winS es ns 0) c == s) := by
    rw [Bool.eq_iff_iff]
    simp only [List.any_eq_true]
    refine ⟨fun ⟨c, hc, h⟩ => ⟨c, hc, ?_⟩, fun ⟨c, hc, h⟩ => ⟨c, hc, ?_⟩⟩
    all_goals
      have hcc := hb c hc
      by_cases h1 : c.1 = true
      · simp only [h1, if_true] at hcc h ⊢
        simp only [val, h1, if_true] at h ⊢
        rw [drop_getD _ _ _ (by omega)] at *
        exact h
      · simp only [val, h1, if_false] at h ⊢
        exact h
  rw [this]
end Mp.K42
end
section
set_option Elab.async false
set_option linter.all false
set_option maxHeartbeats 0
/-! K42Win2: _law_winners. -/
namespace Mp.K42
open PySem L2
theorem _root_.Mp.Fr.trans_fresh {W V : List Nat} {A B E : Sto} (h : Fr V A B) (g : Fr W B E) (hW : ∀ n, n ∈ W → A.length ≤ n) : Fr V A E :=
  ⟨Nat.le_trans h.1 g.1, fun n hn hV => (g.2 n (Nat.lt_of_lt_of_le hn h.1) fun m => absurd (hW n m) (by omega)).trans (h.2 n hn hV)⟩
theorem fn_winners : M.prg.fn "_law_winners" = some ⟨2, 9, c__law_winners⟩ := by kernel_rfl
theorem seqI_ref {S : Sto} {n : Nat} {ds : List D} (h : S[n]? = some (.lst ds)) : seqI (.ref n) S = some ⟨ds, fun S' => S'[n]? = some (.lst ds)⟩ := by simp [seqI, h]
theorem sg_not (b : Bool) : 1 - sg b = sg (!b) := by cases b <;> rfl
theorem esD_len (l : List Bool) : (esD l).length = l.length := by simp [esD]
theorem esD_set (l : List Bool) (i : Nat) (b : Bool) : (esD l).set i (.int (sg b)) = esD (l.set i b) := by simp [esD, List.map_set]
theorem val_eq {es X Y : List Bool} {c : Ch} {a : Nat} (h : X.drop a = Y.drop a) (hc : c.1 = true → a ≤ c.2) : val es X c = val es Y c := by
  by_cases h1 : c.1 = true
  · simp only [val, h1, if_true]
    rw [← drop_getD X a c.2 (hc h1), ← drop_getD Y a c.2 (hc h1), h]
  · simp [val, h1]
theorem winners_ok (k : Nat) (S : Sto) (N E L : Nat) (nv : List D) (ns : List Nd) (es : List Bool) (hN : S[N]? = some (.lst nv)) (hE : S[E]? = some (.lst (esD es))) (rep : NRep S L nv ns) (wf : Wf es.length ns 0 ns.length) (bn : ns.length ≤ 1000000) :
    ((lev M.prg (k + 2)).call "_law_winners" [.ref N, .ref E] S).Good fun r S' => ∃ w, r = .ref w ∧ S.length ≤ w ∧ S'[w]? = some (.lst (esD (winS es ns 0))) ∧ Fr [] S S' := by
  rw [lev_call _ _ _ _ _ _ fn_winners rfl]
  apply Fl.Ret.good
  have hlen := rep.len
  have lN := lt_at hN
  have lE := lt_at hE
  simp -implicitDefEqProofs [c__law_winners, seqI_ref hN]
  apply Fl.Nx.ret
  apply Res.Good.nx
  apply Res.Good.bind
  refine lc_good (List.replicate nv.length (.int 0)) (fun _ S' => S' = S) rfl (fun _ S' h => by rw [h]; exact hN) (by simp) ?_ ?_
  · rintro i hi S' rfl
    simp -implicitDefEqProofs [p3__law_winners]
  rintro S' rfl
  have h0 : List.replicate nv.length (D.int 0) = esD (List.replicate ns.length false) := by simp [esD, sg, hlen]
  have hN1 : (S' ++ [O.lst (List.replicate nv.length (.int 0))])[N]? = some (.lst nv) := (Fr.app [] S' _).at hN (by simp)
  simp -implicitDefEqProofs [len_ref hN1, rangeI_one nv.length (by omega)]
  apply Fl.Nx.ret
  refine for_nx (fun i ρ S1 => ∃ a b c d X, ρ = [some (.ref N), some (.ref E), some (.ref S'.length), a, b, c, d, none, none] ∧ X.length = ns.length ∧ X.drop (ns.length - i) = (winS es ns 0).drop (ns.length - i) ∧
    S1[S'.length]? = some (.lst (esD X)) ∧ Fr [] S' S1) ?_ (fun _ _ _ _ => trivial) ?_ ?_
  · refine ⟨none, none, none, none, List.replicate ns.length false, rfl, by simp, ?_, ?_, Fr.app _ _ _⟩
    · have := winS_len es ns 0
      simp; omega
    · simp [h0]
  · rintro i hi ρ S1 ⟨a, b, c, d, X, rfl, x1, x2, x3, f1⟩
    have hi' : i < ns.length := by simpa [hlen] using hi
    refine ⟨_, rfl, ?_⟩
    have n1 : S1[N]? = _ := f1.at hN (by simp)
    have e1 : S1[E]? = _ := f1.at hE (by simp)
    have rep1 := rep.keep f1 (by simp)
    obtain ⟨at', hat⟩ : ∃ at', at' = ns.length - 1 - i := ⟨_, rfl⟩
    have la : at' < ns.length := by omega
    have hint : ((nv.length : Int) - 1 - (i : Int)) = (at' : Int) := by omega
    obtain ⟨r, q, g1, g2, g3, g4, g5, g6⟩ := rep1.get at' la
    have gg : L2.atI nv (at' : Int) = some (.ref r) := by rw [atI_nat, g1]
    have hb := wf.get at' la
    simp -implicitDefEqProofs [p2__law_winners, len_ref n1, hint, ixD_ref n1, gg, ixD_ref g5, seqI_ref g6]
    apply Fl.Nx.then_
    apply Res.Good.nx
    repeat apply Res.Good.bind
    refine lc_good (esD (ns[at'].2.map (val es X))) (fun _ S2 => S2 = S1) rfl (fun _ S2 h => by rw [h]; exact g6) (by simp [esD]) ?_ ?_
    · rintro j hj S2 rfl
      have hj' : j < ns[at'].2.length := by simpa using hj
      have hcc := hb _ (List.getElem_mem hj')
      simp -implicitDefEqProofs [p1__law_winners]
      rw [at_ok k _ S2 _ _ es X x3 e1 (by
        by_cases h1 : (ns[at'].2[j]).1 = true
        · simp only [h1, if_true] at hcc ⊢; omega
        · simp only [h1, if_false] at hcc ⊢; exact hcc)]
      simp [esD]
    rintro S2 rfl
    have lS := lt_at x3
    have w2 : (S2 ++ [O.lst (esD (ns[at'].2.map (val es X)))])[S'.length]? = some (.lst (esD X)) := (Fr.app [] S2 _).at x3 (by simp)
    have w3 := set_self w2 (.lst (esD (X.set at' !ns[at'].1)))
    have b3 : ((S2 ++ [O.lst (esD (ns[at'].2.map (val es X)))]).set S'.length (.lst (esD (X.set at' !ns[at'].1))))[S2.length]? = some (.lst (esD (ns[at'].2.map (val es X)))) := set_other (by simp) _ (by omega)
    have ix : ∀ Y : List Bool, Y.length = ns.length → L2.ixN (esD Y).length (at' : Int) = some at' := fun Y h => ixN_nat _ _ (by rw [esD_len]; omega)
    have bin := in_es ns[at'].1 _ _ _ b3
    have hX : X.drop (at' + 1) = (winS es ns 0).drop (at' + 1) := by
      have : at' + 1 = ns.length - i := by omega
      rw [this]; exact x2
    have hany : (ns[at'].2.map (val es X)).any (· == ns[at'].1) = ns[at'].2.any (fun c => val es (winS es ns 0) c == ns[at'].1) := by
      rw [List.any_map, Bool.eq_iff_iff]
      simp only [List.any_eq_true]
      refine ⟨fun ⟨c, hc, h⟩ => ⟨c, hc, ?_⟩, fun ⟨c, hc, h⟩ => ⟨c, hc, ?_⟩⟩
      all_goals
        have hcc := hb c hc
        have := val_eq (es := es) hX (c := c) (fun h1 => by simp only [h1, if_true] at hcc; omega)
        simpa [this] using h
    have hW := winS_at es ns es.length wf at' la
    rw [hany] at bin
    simp -implicitDefEqProofs [sg_not, setD_ref w2, ix X x1, esD_set, bin]
    have dset : ∀ b, (X.set at' b).drop at' = b :: X.drop (at' + 1) := by
      intro b
      rw [List.drop_eq_getElem_cons (by simp; omega)]
      simp [List.drop_set_of_lt]
    have han : ns.length - (i + 1) = at' := by omega
    by_cases hc : (ns[at'].2.any fun c => val es (winS es ns 0) c == ns[at'].1) = true
    · rw [if_pos hc] at hW
      simp only [hc, if_true]
      simp -implicitDefEqProofs [setD_ref w3, ix (X.set at' !ns[at'].1) (by simp [x1]), esD_set]
      refine ⟨X.set at' ns[at'].1, by simp [x1], ?_, set_self w2 _, ?_⟩
      · rw [han, dset, hX, hW]
      · exact (f1.trans ((Fr.app [] S2 _))).trans_fresh (Fr.set (W := [S'.length]) _ _ (by simp)) (by simp)
    · rw [if_neg hc] at hW
      simp only [hc, if_false]
      simp -implicitDefEqProofs
      refine ⟨X.set at' !ns[at'].1, by simp [x1], ?_, ?_, ?_⟩
      · rw [han, dset, hX, hW]
      · exact w3
      · exact (f1.trans ((Fr.app [] S2 _))).trans_fresh (Fr.set (W := [S'.length]) _ _ (by simp)) (by simp)
  · rintro ρ S1 ⟨a, b, c, d, X, rfl, x1, x2, x3, f1⟩
    simp -implicitDefEqProofs
    have : (rangeL 0 1 nv.length).length = ns.length := by simp [hlen]
    rw [this] at x2
    simp at x2
    rw [← x2]
    exact ⟨x3, f1⟩
end Mp.K42
end
section
set_option Elab.async false
set_option linter.all false
set_option maxHeartbeats 0
/-! K42Wf: in a scanned tree children stand behind their node. -/
namespace Mp.K42
open PySem L2
theorem Wf.app {m N : Nat} : ∀ {a b : List Nd} {off : Nat}, Wf m a off N → Wf m b (off + a.length) N → Wf m (a ++ b) off N
  | [], b, off, _, h => by simpa using h
  | (s, cs) :: a, b, off, ⟨h1, h2⟩, h => ⟨h1, Wf.app h2 (by simpa [Nat.add_assoc, Nat.add_comm 1] using h)⟩
/-- a child within the lists, not ahead of n -/
def Cin (n N m : Nat) (c : Ch) : Prop := if c.1 then n ≤ c.2 ∧ c.2 < N else c.2 < m
theorem Cin.mono {n n' N m : Nat} {c : Ch} (h : Cin n N m c) (g : n' ≤ n) : Cin n' N m c := by
  unfold Cin at *
  by_cases h1 : c.1 = true
  · simp only [h1, if_true] at h ⊢; omega
  · simp only [h1, if_false] at h ⊢; exact h
mutual
theorem scan_wf : ∀ (t : T) (n e N m : Nat), n + t.nn ≤ N → e + t.nl ≤ m → Wf m (scan t n e).2.1 n N ∧ Cin n N m (scan t n e).1
  | .leaf o, n, e, N, m, h1, h2 => by
    simp only [T.nl] at h2
    exact ⟨trivial, by simp [Cin, scan]; omega⟩
  | .node s ts, n, e, N, m, h1, h2 => by
    simp only [T.nn, T.nl] at h1 h2
    obtain ⟨w1, w2⟩ := scanL_wf ts (n + 1) e N m (by omega) h2
    refine ⟨⟨fun c hc => ?_, w1⟩, by simp [Cin, scan]; omega⟩
    have := w2 c hc
    unfold Cin at this
    by_cases h : c.1 = true
    · simp only [h, if_true] at this ⊢; omega
    · simp only [h, if_false] at this ⊢; exact this
theorem scanL_wf : ∀ (ts : List T) (n e N m : Nat), n + nnL ts ≤ N → e + nlL ts ≤ m → Wf m (scanL ts n e).2.1 n N ∧ ∀ c ∈ (scanL ts n e).1, Cin n N m c
  | [], n, e, N, m, _, _ => ⟨trivial, by simp [scanL]⟩
  | t :: ts, n, e, N, m, h1, h2 => by
    simp only [nnL, nlL] at h1 h2
    obtain ⟨a1, a2⟩ := scan_wf t n e N m (by omega) (by omega)
    obtain ⟨b1, b2⟩ := scanL_wf ts (n + t.nn) (e + t.nl) N m (by omega) (by omega)
    simp only [scanL, scan_nn, scan_nl]
    refine ⟨a1.app (by rw [scan_nn]; exact b1), ?_⟩
    intro c hc
    rcases List.mem_cons.1 hc with rfl | hc
    · exact a2
    · exact (b2 c hc).mono (by omega)
end
/-- the whole tree -/
theorem scan_wf0 (t : T) : Wf (scan t 0 0).2.2.length (scan t 0 0).2.1 0 (scan t 0 0).2.1.length := by
  rw [scan_nn, scan_nl]
  exact (scan_wf t 0 0 _ _ (by omega) (by omega)).1
end Mp.K42
end
section
set_option Elab.async false
set_option linter.all false
set_option maxHeartbeats 0
/-! K42Due: _law_due_plan. -/
namespace Mp.K42
open PySem L2
def plE : Option Nat → D
  | none => .non
  | some i => .int (i : Nat)
/-- the due entry of a node -/
def dueE (es ws : List Bool) (o : Bool) (a : Nd) : Option Nat :=
  if a.1 = o then some (if (a.2.map (val es ws)).any (· == o) = true then (a.2.map (val es ws)).findIdx (· == o) else 0) else none
def due (es ws : List Bool) (o : Bool) (ns : List Nd) : List (Option Nat) := ns.map (dueE es ws o)
theorem firstAt_es (s : Bool) (bs : List Bool) : ∀ j, firstAt (.int (sg s)) (bs.map fun b => PyData.int (sg b)) j = if bs.any (· == s) = true then some (j + bs.findIdx (· == s)) else none := by
  induction bs with
  | nil => intro j; rfl
  | cons b bs ih =>
    intro j
    simp only [List.map_cons, firstAt, eqv_sg, ih, List.any_cons, List.findIdx_cons]
    cases hb : (b == s)
    · simp only [Bool.false_or, Bool.false_eq_true, if_false, cond_false]
      by_cases h : bs.any (· == s) = true
      · rw [if_pos h, if_pos h]; congr 1; omega
      · rw [if_neg h, if_neg h]
    · simp only [Bool.true_or, if_true, cond_true, Nat.add_zero]
theorem index_es (s : Bool) (bs : List Bool) (S : Sto) (B : Nat) (hB : S[B]? = some (.lst (esD bs))) (h : bs.any (· == s) = true) : bmD .index (.ref B) [.int (sg s)] S = .ok (.int ((bs.findIdx (· == s) : Nat))) S := by
  have h1 : SeqAt.shaped (.int (sg s)) = true := by cases s <;> rfl
  simp only [bmD, hB, pyL_es, D.py, h1, shaped_ints, Bool.and_self, if_true, firstAt_es, h]
  simp
theorem bmOk_index {S : Sto} {n : Nat} {ds : List D} (h : S[n]? = some (.lst ds)) : bmOk .index (.ref n) S = true := by simp [bmOk, h]
theorem add_tup1 (x : D) (a : List D) (S : Sto) (h : a.length + 1 ≤ 16777216) : binD .Add (.tup a) (.tup [x]) S = .ok (.tup (a ++ [x])) S := by
  have : a.length + [x].length ≤ PySem.sizeLine := by
    have : PySem.sizeLine = 16777216 := by decide
    simp; omega
  simp only [binD, addD]
  rw [if_pos this]
theorem sg_inj (a b : Bool) : (sg a = sg b) = (a = b) := by cases a <;> cases b <;> simp [sg]
theorem fn_due : M.prg.fn "_law_due_plan" = some ⟨4, 9, c__law_due_plan⟩ := by kernel_rfl
theorem due_ok (k : Nat) (S : Sto) (N E W L : Nat) (nv : List D) (ns : List Nd) (es ws : List Bool) (o : Bool) (hN : S[N]? = some (.lst nv)) (hE : S[E]? = some (.lst (esD es))) (hW : S[W]? = some (.lst (esD ws))) (hw : ws.length = ns.length)
    (rep : NRep S L nv ns) (wf : Wf es.length ns 0 ns.length) (bn : ns.length ≤ 1000000) :
    ((lev M.prg (k + 2)).call "_law_due_plan" [.ref N, .ref E, .ref W, .int (sg o)] S).Good fun r S' => r = .tup ((due es ws o ns).map plE) ∧ Fr [] S S' := by
  rw [lev_call _ _ _ _ _ _ fn_due rfl]
  apply Fl.Ret.good
  have hlen := rep.len
  obtain ⟨DP, hDP⟩ : ∃ DP, DP = (due es ws o ns).map plE := ⟨_, rfl⟩
  have hDl : DP.length = ns.length := by simp [hDP, due]
  rw [← hDP]
  simp -implicitDefEqProofs [c__law_due_plan, seqI_ref hN]
  apply Fl.Nx.ret
  refine for_nx (fun i ρ S1 => ∃ a b c, ρ = [some (.ref N), some (.ref E), some (.ref W), some (.int (sg o)), some (.tup (DP.take i)), a, b, c, none] ∧ Fr [] S S1) ?_ (fun _ ρ S1 ⟨_, _, _, _, f⟩ => f.at hN (by simp)) ?_ ?_
  · exact ⟨none, none, none, by simp, Fr.refl _ _⟩
  · rintro i hi ρ S1 ⟨a, b, c, rfl, f1⟩
    have hi' : i < ns.length := by omega
    refine ⟨_, rfl, ?_⟩
    have n1 : S1[N]? = _ := f1.at hN (by simp)
    have e1 : S1[E]? = _ := f1.at hE (by simp)
    have w1 : S1[W]? = _ := f1.at hW (by simp)
    have rep1 := rep.keep f1 (by simp)
    obtain ⟨r, q, g1, g2, g3, g4, g5, g6⟩ := rep1.get i hi'
    have gg : nv[i] = .ref r := by
      have := List.getElem?_eq_getElem hi
      rw [g1] at this; exact (Option.some.inj this).symm
    rw [gg]
    have hb := wf.get i hi'
    simp -implicitDefEqProofs [p2__law_due_plan, ixD_ref g5, seqI_ref g6]
    apply Fl.Nx.then_
    apply Res.Good.nx
    repeat apply Res.Good.bind
    refine lc_good (esD (ns[i].2.map (val es ws))) (fun _ S2 => S2 = S1) rfl (fun _ S2 h => by rw [h]; exact g6) (by simp [esD]) ?_ ?_
    · rintro j hj S2 rfl
      have hj' : j < ns[i].2.length := by simpa using hj
      have hcc := hb _ (List.getElem_mem hj')
      simp -implicitDefEqProofs [p1__law_due_plan]
      rw [at_ok k _ S2 _ _ es ws w1 e1 (by
        by_cases h1 : (ns[i].2[j]).1 = true
        · simp only [h1, if_true] at hcc ⊢; omega
        · simp only [h1, if_false] at hcc ⊢; exact hcc)]
      simp [esD]
    rintro S2 rfl
    have g5' : (S2 ++ [O.lst (esD (ns[i].2.map (val es ws)))])[r]? = _ := (Fr.app [] S2 _).at g5 (by simp)
    have b3 : (S2 ++ [O.lst (esD (ns[i].2.map (val es ws)))])[S2.length]? = some (.lst (esD (ns[i].2.map (val es ws)))) := by simp
    have bin := in_es o _ _ _ b3
    have bl : (DP.take i).length + 1 ≤ 16777216 := by simp; omega
    have tk : DP.take (i + 1) = DP.take i ++ [plE (dueE es ws o ns[i])] := by
      rw [List.take_succ_eq_append_getElem (by omega)]; simp [hDP, due]
    by_cases h1 : ns[i].1 = o
    · by_cases h2 : (ns[i].2.map (val es ws)).any (· == o) = true
      · have ii := index_es o _ _ _ b3 h2
        have de : dueE es ws o ns[i] = some ((ns[i].2.map (val es ws)).findIdx (· == o)) := by simp only [dueE, h1, h2, if_true]
        rw [h2] at bin
        simp -implicitDefEqProofs [ixD_ref g5', h1, bin, bmOk_index b3, ii, add_tup1 _ _ _ bl, tk, de, plE]
        exact f1.trans (Fr.app _ _ _)
      · have de : dueE es ws o ns[i] = some 0 := by simp only [dueE, h1, h2, if_true, if_false]; rfl
        rw [Bool.not_eq_true] at h2
        rw [h2] at bin
        simp -implicitDefEqProofs [ixD_ref g5', h1, bin, add_tup1 _ _ _ bl, tk, de, plE]
        exact f1.trans (Fr.app _ _ _)
    · have de : dueE es ws o ns[i] = none := by simp only [dueE, h1, if_false]
      simp -implicitDefEqProofs [ixD_ref g5', sg_inj, h1, add_tup1 _ _ _ bl, tk, de, plE]
      exact f1.trans (Fr.app _ _ _)
  · rintro ρ S1 ⟨a, b, c, rfl, f1⟩
    simp -implicitDefEqProofs
    refine ⟨?_, f1⟩
    rw [hlen, List.take_of_length_le (by omega)]
end Mp.K42
end
section
set_option Elab.async false
set_option linter.all false
set_option maxHeartbeats 0
/-! K42Exch: _law_exchanged. -/
namespace Mp.K42
open PySem L2
mutual
/-- all sides and outcomes the other way -/
def T.flip : T → T
  | .leaf o => .leaf (!o)
  | .node s ts => .node (!s) (flipL ts)
def flipL : List T → List T
  | [] => []
  | t :: ts => t.flip :: flipL ts
end
theorem flipL_map (ts : List T) : flipL ts = ts.map T.flip := by induction ts with
  | nil => rfl
  | cons t ts ih => simp [flipL, ih]
theorem fn_exch : M.prg.fn "_law_exchanged" = some ⟨1, 2, c__law_exchanged⟩ := by kernel_rfl
theorem tuple_new (ds : List D) (S : Sto) : bltD .tuple [.ref S.length] (S ++ [.lst ds]) = .ok (.tup ds) (S ++ [.lst ds]) := tuple_ref (by simp)
theorem exch_ok : ∀ (k : Nat) (t : T) (S : Sto), t.dep ≤ k → t.nn + t.nl < 1000000 → ((lev M.prg (k + 1)).call "_law_exchanged" [t.d] S).Good fun r S' => r = t.flip.d ∧ Fr [] S S' := by
  intro k
  induction k with
  | zero =>
    intro t S hd hb
    rw [lev_call _ _ _ _ _ _ fn_exch rfl]
    cases t with
    | node s ts => simp [T.dep] at hd
    | leaf o =>
      apply Fl.Ret.good
      simp -implicitDefEqProofs [c__law_exchanged, T.d, ixD_tup, T.flip, sg_not]
      exact Fr.refl _ _
  | succ k ih =>
    intro t S hd hb
    rw [lev_call _ _ _ _ _ _ fn_exch rfl]
    cases t with
    | leaf o =>
      apply Fl.Ret.good
      simp -implicitDefEqProofs [c__law_exchanged, T.d, ixD_tup, T.flip, sg_not]
      exact Fr.refl _ _
    | node s ts =>
      simp only [T.dep, T.nn, T.nl] at hd hb
      apply Fl.Ret.good
      simp -implicitDefEqProofs [c__law_exchanged, T.d, ixD_tup, node_end, cut2, T.flip, sg_not]
      apply Fl.Ret.then_
      apply Res.Good.ret
      repeat apply Res.Good.bind
      refine lc_good (dL (flipL ts)) (fun _ S' => Fr [] S S') (Fr.refl _ _) (fun _ _ _ => trivial) (by simp [dL_map, flipL_map]) ?_ ?_
      · intro i hi S1 h1
        have hi' : i < ts.length := by simpa [dL_map] using hi
        have hget : (dL ts)[i] = ts[i].d := by simp [dL_map]
        have t1 := nnL_take ts i hi'
        have t2 := nlL_take ts i hi'
        rw [hget]
        simp -implicitDefEqProofs [p1__law_exchanged]
        apply Res.Good.bind
        refine (ih ts[i] S1 (Nat.le_trans (dep_mem (List.getElem_mem hi')) (by omega)) (by omega)).mono ?_
        rintro r S2 ⟨rfl, h2⟩
        simp [dL_map, flipL_map]
        exact h1.trans h2
      · intro S1 h1
        have := lenL ts
        simp -implicitDefEqProofs [tuple_new, add_tup2 _ _ (dL (flipL ts)) _ (show (dL (flipL ts)).length + 2 ≤ 16777216 by simp [dL_map, flipL_map]; omega)]
        exact h1.trans (Fr.app _ _ _)
end Mp.K42
end
section
set_option Elab.async false
set_option linter.all false
set_option maxHeartbeats 0
/-! K42Swap: swapped_tree. -/
namespace Mp.K42
open PySem L2
theorem fn_swap : M.prg.fn "swapped_tree" = some ⟨1, 2, c_swapped_tree⟩ := by kernel_rfl
/-- a tree's tuple: its word, its number, its options -/
def T.w : T → Str
  | .leaf _ => "end"
  | .node _ _ => "node"
def T.s : T → Bool
  | .leaf o => o
  | .node s _ => s
def T.ts : T → List T
  | .leaf _ => []
  | .node _ ts => ts
theorem T.d_eq (t : T) : t.d = .tup (.str t.w :: .int (sg t.s) :: dL t.ts) := by cases t <;> simp [T.d, T.w, T.s, T.ts, dL]
theorem T.flip_eq (t : T) : t.flip.d = .tup (.str t.w :: .int (sg !t.s) :: dL (flipL t.ts)) := by cases t <;> simp [T.d, T.w, T.s, T.ts, dL, T.flip, flipL]
theorem T.dep_ts (t : T) (u : T) (h : u ∈ t.ts) : u.dep < t.dep := by
  cases t with
  | leaf o => simp [T.ts] at h
  | node s ts => have := dep_mem (show u ∈ ts from h); simp only [T.dep]; omega
theorem T.nn_ts (t : T) : nnL t.ts ≤ t.nn := by cases t <;> simp [T.ts, T.nn, nnL]
theorem T.nl_ts (t : T) : nlL t.ts ≤ t.nl := by cases t <;> simp [T.ts, T.nl, nlL]
theorem swap_ok : ∀ (k : Nat) (t : T) (S : Sto), t.dep ≤ k → t.nn + t.nl < 1000000 → ((lev M.prg (k + 1)).call "swapped_tree" [t.d] S).Good fun r S' => r = t.flip.d ∧ Fr [] S S' := by
  intro k
  induction k with
  | zero =>
    intro t S hd hb
    cases t with
    | node s ts => simp [T.dep] at hd
    | leaf o =>
      rw [lev_call _ _ _ _ _ _ fn_swap rfl]
      apply Fl.Ret.good
      simp -implicitDefEqProofs [c_swapped_tree, T.d, ixD_tup, T.flip, sg_not, cut2]
      apply Fl.Ret.then_
      apply Res.Good.ret
      repeat apply Res.Good.bind
      refine lc_good [] (fun _ S' => Fr [] S S') (Fr.refl _ _) (fun _ _ _ => trivial) (by simp) (by intro i hi; simp at hi) ?_
      intro S1 h1
      simp -implicitDefEqProofs [tuple_new, add_tup2 _ _ [] _ (show ([] : List D).length + 2 ≤ 16777216 by simp)]
      exact h1.trans (Fr.app _ _ _)
  | succ k ih =>
    intro t S hd hb
    rw [lev_call _ _ _ _ _ _ fn_swap rfl, t.flip_eq, t.d_eq]
    have h1 := t.nn_ts
    have h2 := t.nl_ts
    apply Fl.Ret.good
    simp -implicitDefEqProofs [c_swapped_tree, ixD_tup, sg_not, cut2]
    apply Fl.Ret.then_
    apply Res.Good.ret
    repeat apply Res.Good.bind
    refine lc_good (dL (flipL t.ts)) (fun _ S' => Fr [] S S') (Fr.refl _ _) (fun _ _ _ => trivial) (by simp [dL_map, flipL_map]) ?_ ?_
    · intro i hi S1 h1
      have hi' : i < t.ts.length := by simpa [dL_map] using hi
      have hget : (dL t.ts)[i] = t.ts[i].d := by simp [dL_map]
      have t1 := nnL_take t.ts i hi'
      have t2 := nlL_take t.ts i hi'
      have t3 := t.dep_ts _ (List.getElem_mem hi')
      rw [hget]
      simp -implicitDefEqProofs [p1_swapped_tree]
      apply Res.Good.bind
      refine (ih t.ts[i] S1 (by omega) (by omega)).mono ?_
      rintro r S2 ⟨rfl, h2⟩
      simp [dL_map, flipL_map]
      exact h1.trans h2
    · intro S1 h1
      have := lenL t.ts
      simp -implicitDefEqProofs [tuple_new, add_tup2 _ _ (dL (flipL t.ts)) _ (show (dL (flipL t.ts)).length + 2 ≤ 16777216 by simp [dL_map, flipL_map]; omega)]
      exact h1.trans (Fr.app _ _ _)
end Mp.K42
end
section
set_option Elab.async false
set_option linter.all false
set_option maxHeartbeats 0
/-! K42Repl: _law_replaced. -/
namespace Mp.K42
open PySem L2
mutual
/-- the outcomes of es from c on at the leaves -/
def T.put (es : List Bool) : T → Nat → T
  | .leaf _, c => .leaf (es.getD c false)
  | .node s ts, c => .node s (putL es ts c)
def putL (es : List Bool) : List T → Nat → List T
  | [], _ => []
  | t :: ts, c => t.put es c :: putL es ts (c + t.nl)
end
theorem putL_len (es : List Bool) (ts : List T) : ∀ c, (putL es ts c).length = ts.length := by
  induction ts with
  | nil => intro c; rfl
  | cons t ts ih => intro c; simp [putL, ih]
theorem putL_get (es : List Bool) (ts : List T) : ∀ c i (h : i < ts.length), (putL es ts c)[i]? = some (ts[i].put es (c + nlL (ts.take i))) := by
  induction ts with
  | nil => intro c i h; simp at h
  | cons t ts ih =>
    intro c i h
    cases i with
    | zero => simp [putL, nlL]
    | succ i => simp [putL, nlL]; rw [ih _ i (by simpa using h)]; simp [Nat.add_assoc]
theorem nlL_succ (ts : List T) (i : Nat) (h : i < ts.length) : nlL (ts.take (i + 1)) = nlL (ts.take i) + ts[i].nl := by
  rw [List.take_succ_eq_append_getElem h, nlL_app]; simp [nlL]
theorem fn_repl : M.prg.fn "_law_replaced" = some ⟨3, 4, c__law_replaced⟩ := by kernel_rfl
theorem repl_leaf (C0 : Cf) (o : Bool) (S : Sto) (es : List Bool) (C c : Nat) (hC : S[C]? = some (.lst [.int c])) (hc : c < es.length) :
    (evSs C0 none c__law_replaced [some (T.leaf o).d, some (.tup (esD es)), some (.ref C), none] S).Ret fun r S' => r = ((T.leaf o).put es c).d ∧ Fr [C] S S' ∧ S'[C]? = some (.lst [.int ((c + 1 : Nat) : Int)]) := by
  have v := set_self hC (.lst [.int ((c : Int) + 1)])
  have hx := esD_get es c hc
  have he : (c : Int) + 1 - 1 = (c : Int) := by omega
  simp -implicitDefEqProofs [c__law_replaced, T.d, ixD_tup, ixD_ref hC, setD_ref hC, L2.ixN, ixD_ref v, he, hx, T.put]
  exact ⟨Fr.set _ _ (by simp), v⟩
theorem cutto2 (a b : D) (l : List D) : cutD (a :: b :: l) none (some 2) = [a, b] := by
  have : min 2 (l.length + 1 + 1) = 2 := by omega
  simp [cutD, HT.sIx, this]
theorem repl_ok (es : List Bool) : ∀ (k : Nat) (t : T) (S : Sto) (C c : Nat), t.dep ≤ k → t.nn + t.nl < 1000000 → S[C]? = some (.lst [.int c]) → c + t.nl ≤ es.length →
    ((lev M.prg (k + 1)).call "_law_replaced" [t.d, .tup (esD es), .ref C] S).Good fun r S' => r = (t.put es c).d ∧ Fr [C] S S' ∧ S'[C]? = some (.lst [.int ((c + t.nl : Nat) : Int)]) := by
  intro k
  induction k with
  | zero =>
    intro t S C c hd hb hC hc
    rw [lev_call _ _ _ _ _ _ fn_repl rfl]
    cases t with
    | node s ts => simp [T.dep] at hd
    | leaf o => exact (repl_leaf _ o S es C c hC (by simp only [T.nl] at hc; omega)).good
  | succ k ih =>
    intro t S C c hd hb hC hc
    rw [lev_call _ _ _ _ _ _ fn_repl rfl]
    cases t with
    | leaf o => exact (repl_leaf _ o S es C c hC (by simp only [T.nl] at hc; omega)).good
    | node s ts =>
      simp only [T.dep, T.nn, T.nl] at hd hb hc ⊢
      apply Fl.Ret.good
      simp -implicitDefEqProofs [c__law_replaced, T.d, ixD_tup, node_end, cut2, cutto2, T.put]
      apply Fl.Ret.then_
      apply Res.Good.ret
      repeat apply Res.Good.bind
      refine lc_good (dL (putL es ts c)) (fun i S' => Fr [C] S S' ∧ S'[C]? = some (.lst [.int ((c + nlL (ts.take i) : Nat) : Int)])) ⟨Fr.refl _ _, by simpa [nlL] using hC⟩ (fun _ _ _ => trivial) (by simp [dL_map, putL_len]) ?_ ?_
      · rintro i hi S1 ⟨h1, hC1⟩
        have hi' : i < ts.length := by simpa [dL_map] using hi
        have hget : (dL ts)[i] = ts[i].d := by simp [dL_map]
        have t1 := nnL_take ts i hi'
        have t2 := nlL_take ts i hi'
        rw [hget]
        simp -implicitDefEqProofs [p1__law_replaced]
        apply Res.Good.bind
        refine (ih ts[i] S1 C _ (Nat.le_trans (dep_mem (List.getElem_mem hi')) (by omega)) (by omega) hC1 (by omega)).mono ?_
        rintro r S2 ⟨rfl, h2, hC2⟩
        have hp := putL_get es ts c i hi'
        rw [List.getElem?_eq_getElem (by rw [putL_len]; exact hi')] at hp
        have hp' := Option.some.inj hp
        rw [nlL_succ ts i hi']
        simp [dL_map, hp']
        exact ⟨h1.trans h2, by simpa [Nat.add_assoc] using hC2⟩
      · rintro S1 ⟨h1, hC1⟩
        have := lenL ts
        have hl : (dL ts).length = ts.length := by simp [dL_map]
        rw [hl, List.take_length] at hC1
        simp -implicitDefEqProofs [tuple_new, add_tup2 _ _ (dL (putL es ts c)) _ (show (dL (putL es ts c)).length + 2 ≤ 16777216 by simp [dL_map, putL_len]; omega)]
        refine ⟨h1.trans (Fr.app _ _ _), ?_⟩
        have := (Fr.app [] S1 [O.lst (dL (putL es ts c))]).at hC1 (by simp)
        simpa using this
end Mp.K42
end
section
set_option Elab.async false
set_option linter.all false
set_option maxHeartbeats 0
/-! K42With: tree_with_ends. -/
namespace Mp.K42
open PySem L2
theorem fn_twe : M.prg.fn "tree_with_ends" = some ⟨3, 7, c_tree_with_ends⟩ := by kernel_rfl
theorem twe_leaf (C0 : Cf) (o : Bool) (S : Sto) (es : List Bool) (c : Nat) (hc : c < es.length) :
    (evSs C0 none c_tree_with_ends [some (T.leaf o).d, some (.tup (esD es)), some (.int c), none, none, none, none] S).Ret fun r S' => r = .tup [((T.leaf o).put es c).d, .int ((c + 1 : Nat) : Int)] ∧ Fr [] S S' := by
  have hx := esD_get es c hc
  simp -implicitDefEqProofs [c_tree_with_ends, T.d, ixD_tup, hx, T.put]
  exact Fr.refl _ _
theorem twe_ok (es : List Bool) : ∀ (k : Nat) (t : T) (S : Sto) (c : Nat), t.dep ≤ k → t.nn + t.nl < 1000000 → c + t.nl ≤ es.length →
    ((lev M.prg (k + 1)).call "tree_with_ends" [t.d, .tup (esD es), .int c] S).Good fun r S' => r = .tup [(t.put es c).d, .int ((c + t.nl : Nat) : Int)] ∧ Fr [] S S' := by
  intro k
  induction k with
  | zero =>
    intro t S c hd hb hc
    rw [lev_call _ _ _ _ _ _ fn_twe rfl]
    cases t with
    | node s ts => simp [T.dep] at hd
    | leaf o => exact (twe_leaf _ o S es c (by simp only [T.nl] at hc; omega)).good
  | succ k ih =>
    intro t S c hd hb hc
    rw [lev_call _ _ _ _ _ _ fn_twe rfl]
    cases t with
    | leaf o => exact (twe_leaf _ o S es c (by simp only [T.nl] at hc; omega)).good
    | node s ts =>
      simp only [T.dep, T.nn, T.nl] at hd hb hc ⊢
      have hl : (dL ts).length = ts.length := by simp [dL_map]
      have hlen := lenL ts
      apply Fl.Ret.good
      simp -implicitDefEqProofs [c_tree_with_ends, T.d, ixD_tup, node_end, cut2, T.put]
      apply Fl.Nx.ret
      refine for_nx (fun i ρ S1 => ∃ a b, ρ = [some (.tup (.str "node" :: .int (sg s) :: dL ts)), some (.tup (esD es)), some (.int c), some (.ref S.length), some (.int ((c + nlL (ts.take i) : Nat) : Int)), a, b] ∧
        S.length < S1.length ∧ Fr [] S S1 ∧ S1[S.length]? = some (.lst ((dL (putL es ts c)).take i))) ?_ (fun _ _ _ _ => trivial) ?_ ?_
      · exact ⟨none, none, by simp [nlL], by simp, Fr.app _ _ _, by simp⟩
      · rintro i hi ρ S1 ⟨a, b, rfl, l1, f1, v1⟩
        have hi' : i < ts.length := by omega
        have hget : (dL ts)[i] = ts[i].d := by simp [dL_map]
        have t1 := nnL_take ts i hi'
        have t2 := nlL_take ts i hi'
        refine ⟨_, rfl, ?_⟩
        rw [hget]
        simp -implicitDefEqProofs only [p1_tree_with_ends, s_evSs_cons, s_evSs_nil, s_evS_asg, s_evE_call, s_evEs_cons, s_evEs_nil, s_evE_var]
        simp -implicitDefEqProofs
        apply Fl.Nx.then_
        apply Res.Good.nx
        refine (ih ts[i] S1 (c + nlL (ts.take i)) (Nat.le_trans (dep_mem (List.getElem_mem hi')) (by omega)) (by omega) (by omega)).mono ?_
        rintro r S2 ⟨rfl, h2⟩
        have v2 := h2.at v1 (by simp)
        have bl : ((dL (putL es ts c)).take i).length < 16777216 := by simp; omega
        have fq : Fr [S.length] S2 (S2.set S.length (.lst ((dL (putL es ts c)).take i ++ [(ts[i].put es (c + nlL (ts.take i))).d]))) := Fr.set _ _ (by simp)
        have hp := putL_get es ts c i hi'
        rw [List.getElem?_eq_getElem (by rw [putL_len]; exact hi')] at hp
        have hp' := Option.some.inj hp
        have l2 := h2.1
        have tk : (dL (putL es ts c)).take (i + 1) = (dL (putL es ts c)).take i ++ [(ts[i].put es (c + nlL (ts.take i))).d] := by
          rw [List.take_succ_eq_append_getElem (by simp [dL_map, putL_len]; exact hi')]; simp [dL_map, hp']
        simp -implicitDefEqProofs [asgT, asgN, bmOk_app v2, app_ref v2 bl]
        rw [nlL_succ ts i hi', tk]
        refine ⟨by simp [Nat.add_assoc]; omega, by omega, (f1.trans h2).trans_fresh fq (by simp), set_self v2 _⟩
      · rintro ρ S1 ⟨a, b, rfl, l1, f1, v1⟩
        rw [hl, List.take_length]
        rw [hl, List.take_of_length_le (by simp [dL_map, putL_len])] at v1
        simp -implicitDefEqProofs [cutto2, tuple_ref v1, add_tup2 _ _ (dL (putL es ts c)) _ (show (dL (putL es ts c)).length + 2 ≤ 16777216 by simp [dL_map, putL_len]; omega)]
        exact f1
end Mp.K42
end
section
set_option Elab.async false
set_option linter.all false
set_option maxHeartbeats 0
/-! K42Ent: entry_of. -/
namespace Mp.K42
open PySem L2
/-- the program's child -/
def chP (c : Ch) : D := .tup [.str (if c.1 = true then "node" else "leaf"), .int (c.2 : Nat)]
theorem node_leaf : ¬(("node" : Str) = ("leaf" : Str)) := by decide +kernel
theorem fn_ent : M.prg.fn "entry_of" = some ⟨3, 5, c_entry_of⟩ := by kernel_rfl
/-- the winners found so far: None ahead -/
theorem ent_ok (k : Nat) (c : Ch) (S : Sto) (W : Nat) (es : List Bool) (wv : List D) (v : Bool) (hW : S[W]? = some (.lst wv)) (hc : if c.1 then wv[c.2]? = some (.int (sg v)) else es[c.2]? = some v) :
    (lev M.prg (k + 1)).call "entry_of" [chP c, .ref W, .tup (esD es)] S = .ok (.int (sg v)) S := by
  rw [lev_call _ _ _ _ _ _ fn_ent rfl]
  obtain ⟨b, i⟩ := c
  cases b
  · simp only [Bool.false_eq_true, if_false] at hc
    have hx : L2.atI (esD es) (i : Int) = some (.int (sg v)) := by rw [atI_nat]; simp [esD, hc]
    simp -implicitDefEqProofs [c_entry_of, chP, asgT, asgN, ixD_tup, hx]
  · simp only [if_true] at hc
    have hx : L2.atI wv (i : Int) = some (.int (sg v)) := by rw [atI_nat]; exact hc
    simp -implicitDefEqProofs [c_entry_of, chP, asgT, asgN, node_leaf, ixD_ref hW, hx]
theorem notin_es (bs : List Bool) (S : Sto) (B : Nat) (hB : S[B]? = some (.lst (esD bs))) : cmpD .NotIn .non (.ref B) S = some true := by
  have h0 : ((bs.map fun b => PyData.int (sg b)).any fun z => PyData.eqv z .none) = false := by
    induction bs with
    | nil => rfl
    | cons b bs ih => simp [PyData.eqv]
  have h1 : SeqAt.shaped .none = true := by rfl
  have : inD .non (.ref B) S = some false := by
    simp only [inD, itemsD, hB, pyL_es, D.py, h1, shaped_ints, Bool.and_self, if_true, h0]
  simp [cmpD, this]
end Mp.K42
end
section
set_option Elab.async false
set_option linter.all false
set_option maxHeartbeats 0
/-! K42Chk: is_outcome, check_tree of a right tree. -/
namespace Mp.K42
open PySem L2
theorem lev_con (P : Prg) (k : Nat) : (lev P k).con = P.con := by cases k <;> rw [lev]
theorem lev_ccon (P : Prg) (k : Nat) : (lev P k).ccon = P.ccon := by cases k <;> rw [lev]
theorem con_trees : M.prg.con "MOST_TREES" = some (.int 12) := by kernel_rfl
theorem con_levels : M.prg.ccon "Duel" "MOST_LEVELS" = some (.int 20) := by kernel_rfl
theorem fn_out : M.prg.fn "is_outcome" = some ⟨1, 1, c_is_outcome⟩ := by kernel_rfl
theorem fn_check : M.prg.fn "check_tree" = some ⟨3, 3, c_check_tree⟩ := by kernel_rfl
@[simp] theorem le_int (i j : Int) (S : Sto) : cmpD .LtE (.int i) (.int j) S = some (decide (i ≤ j)) := rfl
@[simp] theorem ne_str (i j : Str) (S : Sto) : cmpD .NotEq (.str i) (.str j) S = some (!decide (i = j)) := rfl
theorem out_ok (k : Nat) (b : Bool) (S : Sto) : (lev M.prg (k + 1)).call "is_outcome" [.int (sg b)] S = .ok (.bl true) S := by
  rw [lev_call _ _ _ _ _ _ fn_out rfl]
  cases b <;> simp -implicitDefEqProofs [c_is_outcome, sg]
theorem kinds : inD (.str "end") (.tup [.str "end", .str "node"]) [] = some true ∧ inD (.str "node") (.tup [.str "end", .str "node"]) [] = some true := by
  constructor <;> kernel_rfl
theorem notin_end (S : Sto) : cmpD .NotIn (.str "end") (.tup [.str "end", .str "node"]) S = some false := by
  have : inD (.str "end") (.tup [.str "end", .str "node"]) S = some true := kinds.1
  simp [cmpD, this]
theorem notin_node (S : Sto) : cmpD .NotIn (.str "node") (.tup [.str "end", .str "node"]) S = some false := by
  have : inD (.str "node") (.tup [.str "end", .str "node"]) S = some true := kinds.2
  simp [cmpD, this]
theorem end_node : ¬(("end" : Str) = ("node" : Str)) := by decide +kernel
theorem check_leaf (k : Nat) (o : Bool) (S : Sto) (p : D) (lv : Int) : (lev M.prg (k + 2)).call "check_tree" [(T.leaf o).d, p, .int lv] S = .ok .non S := by
  rw [lev_call _ _ _ _ _ _ fn_check rfl]
  simp -implicitDefEqProofs [c_check_tree, T.d, ixD_tup, notin_end, end_node, out_ok]
theorem check_node (k : Nat) (s : Bool) (ts : List T) (S : Sto) (p : D) (lv : Int) (h1 : 1 ≤ ts.length) (h2 : ts.length ≤ 12) (hl : lv < 20) : (lev M.prg (k + 2)).call "check_tree" [(T.node s ts).d, p, .int lv] S = .ok .non S := by
  rw [lev_call _ _ _ _ _ _ fn_check rfl]
  have hd : (dL ts).length = ts.length := by simp [dL_map]
  have a1 : (3 : Int) ≤ ((ts.length : Int) + 1 + 1) := by omega
  have a2 : ((ts.length : Int) + 1 + 1) ≤ 14 := by omega
  have a0 : ¬((ts.length : Int) + 1 + 1 = 0) := by omega
  have a3 : ¬((20 : Int) ≤ lv) := by omega
  simp -implicitDefEqProofs [c_check_tree, T.d, ixD_tup, notin_node, node_end, out_ok, lev_con, lev_ccon, con_trees, con_levels, hd, a0, a1, a2, a3]
end Mp.K42
end
section
set_option Elab.async false
set_option linter.all false
set_option maxHeartbeats 0
/-! K42Scn: scan_tree of a right tree. -/
namespace Mp.K42
open PySem L2
theorem fn_scn : M.prg.fn "scan_tree" = some ⟨4, 10, c_scan_tree⟩ := by kernel_rfl
def sdD (ns : List Nd) : List D := ns.map fun a => .int (sg a.1)
def chsD (ns : List Nd) : List D := ns.map fun a => .tup (a.2.map chP)
def ScnOk (S : Sto) (A B E : Nat) (av bv ev : List D) (c : Ch) (ns : List Nd) (es : List Bool) (r : D) (S' : Sto) : Prop :=
  r = chP c ∧ Fr [A, B, E] S S' ∧ S'[A]? = some (.lst (av ++ sdD ns)) ∧ S'[B]? = some (.lst (bv ++ chsD ns)) ∧ S'[E]? = some (.lst (ev ++ esD es))
theorem rangeI_two (n : Nat) (h : n ≤ 100000) : rangeI [.int 2, .int ((n : Int) + 1 + 1)] = some ⟨rangeL 2 1 n, fun _ => True⟩ := by
  have h1 : (bnd 2 ∧ bnd ((n : Int) + 1 + 1)) ∧ ((n : Int) + 1 + 1) - 2 ≤ 1000000 := ⟨⟨⟨by omega, by omega⟩, ⟨by omega, by omega⟩⟩, by omega⟩
  have h2 : (((n : Int) + 1 + 1) - 2).toNat = n := by omega
  simp only [rangeI, if_pos h1, h2]
theorem scn_leaf (k : Nat) (o : Bool) (S : Sto) (A B E : Nat) (pp av bv ev : List D) (lv : Int) (hE : S[E]? = some (.lst ev)) (hA : S[A]? = some (.lst av)) (hB : S[B]? = some (.lst bv)) (hAE : A ≠ E) (hBE : B ≠ E) (be : ev.length < 1000000) :
    (evSs (lev M.prg (k + 2)) none c_scan_tree [some (T.leaf o).d, some (.tup pp), some (.int lv), some (.tup [.ref A, .ref B, .ref E]), none, none, none, none, none, none] S).Ret (ScnOk S A B E av bv ev (scan (.leaf o) av.length ev.length).1 (scan (.leaf o) av.length ev.length).2.1 (scan (.leaf o) av.length ev.length).2.2) := by
  have e1 := set_self hE (.lst (ev ++ [.int (sg o)]))
  have hck := check_leaf k o S (.tup pp) lv
  have hd : (T.leaf o).d = .tup [.str "end", .int (sg o)] := by simp [T.d]
  rw [hd] at hck ⊢
  simp -implicitDefEqProofs [c_scan_tree, hck, asgT, asgN, ixD_tup, bmOk_app hE, app_ref hE (show ev.length < 16777216 by omega), len_ref e1, scan]
  refine ⟨by simp [chP], Fr.set _ _ (by simp), ?_, ?_, e1⟩
  · simpa [sdD] using set_other hA (.lst (ev ++ [.int (sg o)])) (Ne.symm hAE)
  · simpa [chsD] using set_other hB (.lst (ev ++ [.int (sg o)])) (Ne.symm hBE)
end Mp.K42
end
section
set_option Elab.async false
set_option linter.all false
set_option maxHeartbeats 0
/-! K42Scn2: scan_tree, whole. -/
namespace Mp.K42
open PySem L2
theorem sdD_app (a b : List Nd) : sdD (a ++ b) = sdD a ++ sdD b := by simp [sdD]
theorem chsD_app (a b : List Nd) : chsD (a ++ b) = chsD a ++ chsD b := by simp [chsD]
theorem wfL_mem {ts : List T} {t : T} (h : t ∈ ts) (w : wfL ts) : t.wf := by
  induction ts with
  | nil => cases h
  | cons u us ih =>
    rcases List.mem_cons.1 h with rfl | h
    · exact w.1
    · exact ih h w.2
theorem scanL_get (ts : List T) : ∀ n e i (h : i < ts.length), (scanL ts n e).1[i]? = some (scan ts[i] (n + nnL (ts.take i)) (e + nlL (ts.take i))).1 := by
  induction ts with
  | nil => intro n e i h; simp at h
  | cons t ts ih =>
    intro n e i h
    cases i with
    | zero => simp [scanL, nnL, nlL]
    | succ i => simp only [scanL, scan_nn, scan_nl, List.getElem?_cons_succ, List.take_succ_cons, nnL, nlL, List.getElem_cons_succ]; rw [ih _ _ i (by simpa using h)]; simp [Nat.add_assoc]
theorem scn_ok : ∀ (k : Nat) (t : T) (S : Sto) (A B E : Nat) (pp av bv ev : List D) (lv : Nat), t.dep ≤ k → t.wf → lv + t.dep ≤ 20 → pp.length + t.dep ≤ 1000 → S[A]? = some (.lst av) → S[B]? = some (.lst bv) → S[E]? = some (.lst ev) → A ≠ B → A ≠ E → B ≠ E → bv.length = av.length →
    av.length + t.nn < 100000 → ev.length + t.nl < 100000 →
    ((lev M.prg (k + 3)).call "scan_tree" [t.d, .tup pp, .int lv, .tup [.ref A, .ref B, .ref E]] S).Good (ScnOk S A B E av bv ev (scan t av.length ev.length).1 (scan t av.length ev.length).2.1 (scan t av.length ev.length).2.2) := by
  intro k
  induction k with
  | zero =>
    intro t S A B E pp av bv ev lv hd hw hl hp hA hB hE hAB hAE hBE hab bn be
    rw [lev_call _ _ _ _ _ _ fn_scn rfl]
    cases t with
    | node s ts => simp [T.dep] at hd
    | leaf o => exact (scn_leaf _ o S A B E pp av bv ev lv hE hA hB hAE hBE (by omega)).good
  | succ k ih =>
    intro t S A B E pp av bv ev lv hd hw hl hp hA hB hE hAB hAE hBE hab bn be
    rw [lev_call _ _ _ _ _ _ fn_scn rfl]
    cases t with
    | leaf o => exact (scn_leaf _ o S A B E pp av bv ev lv hE hA hB hAE hBE (by omega)).good
    | node s ts =>
      simp only [T.dep, T.nn, T.nl, T.wf] at hd bn be hl hp hw
      simp only [scan]
      have hck := check_node (k + 1) s ts S (.tup pp) lv hw.1 hw.2.1 (by omega)
      have hdd : (T.node s ts).d = .tup (.str "node" :: .int (sg s) :: dL ts) := by simp [T.d]
      rw [hdd] at hck ⊢
      have dl : (dL ts).length = ts.length := by simp [dL_map]
      have hB1 := set_other hB (.lst (av ++ [.int (sg s)])) hAB
      have hA1 := set_self hA (.lst (av ++ [.int (sg s)]))
      have hE1 := set_other hE (.lst (av ++ [.int (sg s)])) hAE
      have hB2 := set_self hB1 (.lst (bv ++ [.tup []]))
      have hA2 := set_other hA1 (.lst (bv ++ [.tup []])) (Ne.symm hAB)
      have hE2 := set_other hE1 (.lst (bv ++ [.tup []])) hBE
      apply Fl.Ret.good
      simp -implicitDefEqProofs [c_scan_tree, hck, asgT, asgN, ixD_tup, node_end, len_ref hA, bmOk_app hA, app_ref hA (show av.length < 16777216 by omega), bmOk_app hB1, app_ref hB1 (show bv.length < 16777216 by omega), dl, rangeI_two ts.length (by omega)]
      apply Fl.Nx.ret
      apply Res.Good.nx
      apply Res.Good.bind
      have f2 : Fr [A, B, E] S ((S.set A (.lst (av ++ [.int (sg s)]))).set B (.lst (bv ++ [.tup []]))) := (Fr.set _ _ (by simp)).trans (Fr.set _ _ (by simp))
      refine lc_good ((scanL ts (av.length + 1) ev.length).1.map chP) (fun i S' => Fr [A, B, E] S S' ∧
        S'[A]? = some (.lst (av ++ .int (sg s) :: sdD (scanL (ts.take i) (av.length + 1) ev.length).2.1)) ∧
        S'[B]? = some (.lst (bv ++ .tup [] :: chsD (scanL (ts.take i) (av.length + 1) ev.length).2.1)) ∧
        S'[E]? = some (.lst (ev ++ esD (scanL (ts.take i) (av.length + 1) ev.length).2.2))) ⟨f2, by simpa [scanL, sdD] using hA2, by simpa [scanL, chsD] using hB2, by simpa [scanL, esD] using hE2⟩ (fun _ _ _ => trivial) (by simp [scanL_len]) ?_ ?_
      · rintro i hi S1 ⟨f1, a1, b1, e1⟩
        have hi' : i < ts.length := by simpa using hi
        have t1 := nnL_take ts i hi'
        have t2 := nlL_take ts i hi'
        have hx : L2.atI (D.str "node" :: .int (sg s) :: dL ts) (2 + (i : Int)) = some ts[i].d := by
          have : (2 + (i : Int)) = ((i + 2 : Nat) : Int) := by omega
          rw [this, atI_nat]; simp [dL_map, hi']
        have td := dep_mem (List.getElem_mem hi')
        have hl2 : ((lv : Int) + 1) = ((lv + 1 : Nat) : Int) := by omega
        simp -implicitDefEqProofs [p1_scan_tree, ixD_tup, hx, add_tup1 _ pp _ (show pp.length + 1 ≤ 16777216 by omega)]
        apply Res.Good.bind
        rw [hl2]
        have la : (av ++ .int (sg s) :: sdD (scanL (ts.take i) (av.length + 1) ev.length).2.1).length = av.length + 1 + nnL (ts.take i) := by simp [sdD, scanL_nn]; omega
        have le : (ev ++ esD (scanL (ts.take i) (av.length + 1) ev.length).2.2).length = ev.length + nlL (ts.take i) := by simp [esD, scanL_nl]
        have hc := ih ts[i] S1 A B E (pp ++ [.int (2 + (i : Int))]) _ _ _ (lv + 1) (by omega) (wfL_mem (List.getElem_mem hi') hw.2.2) (by omega) (by simp; omega) a1 b1 e1 hAB hAE hBE (by simp [sdD, chsD, hab]) (by omega) (by omega)
        rw [la, le] at hc
        refine hc.mono ?_
        rintro r S2 ⟨rfl, f3, a3, b3, e3⟩
        have hsn := scanL_snoc' (ts.take i) ts[i] (av.length + 1) ev.length
        rw [← List.take_succ_eq_append_getElem hi'] at hsn
        have hg := scanL_get ts (av.length + 1) ev.length i hi'
        rw [List.getElem?_eq_getElem (by rw [scanL_len]; exact hi')] at hg
        have hg' := Option.some.inj hg
        simp -implicitDefEqProofs [hg']
        rw [hsn]
        refine ⟨f1.trans f3, ?_, ?_, ?_⟩
        · simpa [sdD] using a3
        · simpa [chsD] using b3
        · simpa [esD] using e3
      · rintro S1 ⟨f1, a1, b1, e1⟩
        rw [rangeL_len, List.take_length] at a1 b1 e1
        have b2 : (S1 ++ [O.lst ((scanL ts (av.length + 1) ev.length).1.map chP)])[B]? = _ := (Fr.app [] S1 _).at b1 (by simp)
        have a2 : (S1 ++ [O.lst ((scanL ts (av.length + 1) ev.length).1.map chP)])[A]? = _ := (Fr.app [] S1 _).at a1 (by simp)
        have e2 : (S1 ++ [O.lst ((scanL ts (av.length + 1) ev.length).1.map chP)])[E]? = _ := (Fr.app [] S1 _).at e1 (by simp)
        have ix : L2.ixN (bv ++ .tup [] :: chsD (scanL ts (av.length + 1) ev.length).2.1).length (av.length : Int) = some bv.length := by
          rw [← hab]; exact ixN_nat _ _ (by simp)
        have hset : setD (.ref B) (.int av.length) (.tup ((scanL ts (av.length + 1) ev.length).1.map chP)) (S1 ++ [O.lst ((scanL ts (av.length + 1) ev.length).1.map chP)]) = some ((S1 ++ [O.lst ((scanL ts (av.length + 1) ev.length).1.map chP)]).set B (.lst (bv ++ .tup ((scanL ts (av.length + 1) ev.length).1.map chP) :: chsD (scanL ts (av.length + 1) ev.length).2.1))) := by
          rw [setD_ref b2, ix]
          simp [List.set_append_right]
        simp -implicitDefEqProofs [tuple_new, hset]
        refine ⟨by simp [chP], ?_, ?_, ?_, ?_⟩
        · exact (f1.trans (Fr.app _ _ _)).trans (Fr.set _ _ (by simp))
        · simpa [sdD] using set_other a2 _ (Ne.symm hAB)
        · simpa [chsD] using set_self b2 _
        · exact set_other e2 _ hBE
end Mp.K42
end
section
set_option Elab.async false
set_option linter.all false
set_option maxHeartbeats 0
/-! K42Init: Duel.__init__ of a right tree. -/
namespace Mp.K42
open PySem L2
theorem fn_init : M.prg.fn (mkey "Duel" "__init__") = some ⟨2, 5, c_Duel_init⟩ := by kernel_rfl
theorem lev_fok (P : Prg) (k : Nat) : (lev P k).fok = P.fok := by cases k <;> rw [lev]
theorem fok_root : M.prg.fok "Duel" "root" = true := by kernel_rfl
theorem fok_tree : M.prg.fok "Duel" "tree" = true := by kernel_rfl
theorem fok_ends : M.prg.fok "Duel" "ends" = true := by kernel_rfl
theorem fok_sides : M.prg.fok "Duel" "sides" = true := by kernel_rfl
theorem fok_children : M.prg.fok "Duel" "children" = true := by kernel_rfl
theorem con_nodes : M.prg.ccon "Duel" "MOST_NODES" = some (.int 200) := by kernel_rfl
theorem con_leaves : M.prg.ccon "Duel" "MOST_LEAVES" = some (.int 200) := by kernel_rfl
@[simp] theorem gt_int (i j : Int) (S : Sto) : cmpD .Gt (.int i) (.int j) S = some (decide (j < i)) := rfl
theorem setF_ins {ok : Str → Str → Bool} {S : Sto} {n : Nat} {c : Str} {fs : List (Str × D)} (h : S[n]? = some (.ins c fs)) (f : Str) (d : D) (hok : ok c f = true) (hl : fs.length < 1000) : setF ok (.ref n) f d S = some (S.set n (.ins c (Mp.putL f d fs))) := by
  simp [setF, h, hok, hl]
def duelF (t : T) : List (Str × D) := [("root", chP (scan t 0 0).1), ("tree", t.d), ("ends", .tup (esD (scan t 0 0).2.2)), ("sides", .tup (sdD (scan t 0 0).2.1)), ("children", .tup (chsD (scan t 0 0).2.1))]
theorem put1 (a b : D) : Mp.putL "tree" b [(("root" : Str), a)] = [(("root" : Str), a), (("tree" : Str), b)] := by kernel_rfl
theorem put2 (a b c : D) : Mp.putL "ends" c [(("root" : Str), a), (("tree" : Str), b)] = [(("root" : Str), a), (("tree" : Str), b), (("ends" : Str), c)] := by kernel_rfl
theorem put3 (a b c d : D) : Mp.putL "sides" d [(("root" : Str), a), (("tree" : Str), b), (("ends" : Str), c)] = [(("root" : Str), a), (("tree" : Str), b), (("ends" : Str), c), (("sides" : Str), d)] := by kernel_rfl
theorem put4 (a b c d e : D) : Mp.putL "children" e [(("root" : Str), a), (("tree" : Str), b), (("ends" : Str), c), (("sides" : Str), d)] = [(("root" : Str), a), (("tree" : Str), b), (("ends" : Str), c), (("sides" : Str), d), (("children" : Str), e)] := by kernel_rfl
theorem init_ok (k : Nat) (t : T) (S : Sto) (o : Nat) (hS : S[o]? = some (.ins "Duel" [])) (hd : t.dep ≤ k) (h20 : t.dep ≤ 20) (hw : t.wf) (hn : t.nn ≤ 200) (hl : t.nl ≤ 200) :
    ((lev M.prg (k + 4)).call (mkey "Duel" "__init__") [.ref o, t.d] S).Good fun r S' => r = .non ∧ Fr [o] S S' ∧ S'[o]? = some (.ins "Duel" (duelF t)) := by
  rw [lev_call _ _ _ _ _ _ fn_init rfl]
  have lo := lt_at hS
  have hc := scn_ok k t (S ++ [O.lst [], O.lst [], O.lst []]) S.length (S.length + 1) (S.length + 2) [] [] [] [] 0 hd hw (by omega) (by simp; omega) (by simp) (by simp) (by simp) (by omega) (by omega) (by omega) rfl (by simp; omega) (by simp; omega)
  suffices h : ((evSs (lev M.prg (k + 3)) none c_Duel_init [some (.ref o), some t.d, none, none, none] S).Nx fun _ S' => Fr [o] S S' ∧ S'[o]? = some (.ins "Duel" (duelF t))) by
    obtain ⟨ρ, S', h, q⟩ := h
    exact ⟨.non, S', by show (evSs _ _ _ _ _).res = _; rw [show (List.map some [D.ref o, t.d] ++ List.replicate (5 - 2) none : Env) = [some (.ref o), some t.d, none, none, none] from rfl, h]; rfl, rfl, q⟩
  simp -implicitDefEqProofs [c_Duel_init]
  apply Fl.Nx.then_
  apply Res.Good.nx
  refine hc.mono ?_
  rintro r S1 ⟨rfl, f1, a1, b1, e1⟩
  have o1 : S1[o]? = _ := f1.at ((Fr.app [] S _).at hS (by simp)) (by simp; omega)
  have ss : S.length + 1 + 1 = S.length + 2 := rfl
  have sA : ∀ x : O, (S1.set o x)[S.length]? = some (.lst (sdD (scan t 0 0).2.1)) := fun x => by simpa using set_other a1 x (by omega)
  have sB : ∀ x : O, (S1.set o x)[S.length + 1]? = some (.lst (chsD (scan t 0 0).2.1)) := fun x => by simpa using set_other b1 x (by omega)
  have sE : ∀ x : O, (S1.set o x)[S.length + 2]? = some (.lst (esD (scan t 0 0).2.2)) := fun x => by simpa using set_other e1 x (by omega)
  have z1 := setF_ins o1 "root" (chP (scan t 0 0).1) (ok := (lev M.prg (k + 3)).fok) (by rw [lev_fok]; exact fok_root) (by simp)
  rw [show Mp.putL "root" (chP (scan t 0 0).1) [] = [(("root" : Str), chP (scan t 0 0).1)] from rfl] at z1
  have z2 := setF_ins (set_self o1 (.ins "Duel" [(("root" : Str), chP (scan t 0 0).1)])) "tree" t.d (ok := (lev M.prg (k + 3)).fok) (by rw [lev_fok]; exact fok_tree) (by simp)
  rw [put1, List.set_set] at z2
  have z3 := setF_ins (set_self o1 (.ins "Duel" [(("root" : Str), chP (scan t 0 0).1), (("tree" : Str), t.d)])) "ends" (.tup (esD (scan t 0 0).2.2)) (ok := (lev M.prg (k + 3)).fok) (by rw [lev_fok]; exact fok_ends) (by simp)
  rw [put2, List.set_set] at z3
  have z4 := setF_ins (set_self o1 (.ins "Duel" [(("root" : Str), chP (scan t 0 0).1), (("tree" : Str), t.d), (("ends" : Str), .tup (esD (scan t 0 0).2.2))])) "sides" (.tup (sdD (scan t 0 0).2.1)) (ok := (lev M.prg (k + 3)).fok) (by rw [lev_fok]; exact fok_sides) (by simp)
  rw [put3, List.set_set] at z4
  have z5 := setF_ins (set_self o1 (.ins "Duel" [(("root" : Str), chP (scan t 0 0).1), (("tree" : Str), t.d), (("ends" : Str), .tup (esD (scan t 0 0).2.2)), (("sides" : Str), .tup (sdD (scan t 0 0).2.1))])) "children" (.tup (chsD (scan t 0 0).2.1)) (ok := (lev M.prg (k + 3)).fok) (by rw [lev_fok]; exact fok_children) (by simp)
  rw [put4, List.set_set] at z5
  have c1 : ¬((200 : Int) < (t.nn : Int)) := by omega
  have c2 : ¬((200 : Int) < (t.nl : Int)) := by omega
  have l1 : (sdD (scan t 0 0).2.1).length = t.nn := by simp [sdD, scan_nn]
  have l2 : (esD (scan t 0 0).2.2).length = t.nl := by simp [esD, scan_nl]
  simp -implicitDefEqProofs [z1, ss, z2, z3, z4, z5, len_ref (sA _), len_ref (sE _), l1, l2, lev_ccon, con_nodes, con_leaves, c1, c2, tuple_ref (sA _), tuple_ref (sB _), tuple_ref (sE _)]
  refine ⟨(((Fr.app [] S _).trans_fresh f1 (by simp)).mono (by simp)).trans (Fr.set _ _ (by simp)), ?_⟩
  exact set_self o1 _
end Mp.K42
end
section
set_option Elab.async false
set_option linter.all false
set_option maxHeartbeats 0
/-! K42Fld: a duel's fields; descending ranges. -/
namespace Mp.K42
open PySem L2
theorem fld_of {S : Sto} {o : Nat} {t : T} (h : S[o]? = some (.ins "Duel" (duelF t))) (k : Nat) (f : Str) (d : D) (hok : M.prg.fok "Duel" f = true) (hf : (duelF t).lookup f = some d) : fldD (lev M.prg k).fok (.ref o) f S = some d := by
  rw [lev_fok]; simp [fldD, h, hok, hf]
theorem fld_root {S : Sto} {o : Nat} {t : T} (h : S[o]? = some (.ins "Duel" (duelF t))) (k : Nat) : fldD (lev M.prg k).fok (.ref o) "root" S = some (chP (scan t 0 0).1) := fld_of h k _ _ fok_root (by rfl)
theorem fld_tree {S : Sto} {o : Nat} {t : T} (h : S[o]? = some (.ins "Duel" (duelF t))) (k : Nat) : fldD (lev M.prg k).fok (.ref o) "tree" S = some t.d := fld_of h k _ _ fok_tree (by rfl)
theorem fld_ends {S : Sto} {o : Nat} {t : T} (h : S[o]? = some (.ins "Duel" (duelF t))) (k : Nat) : fldD (lev M.prg k).fok (.ref o) "ends" S = some (.tup (esD (scan t 0 0).2.2)) := fld_of h k _ _ fok_ends (by rfl)
theorem fld_sides {S : Sto} {o : Nat} {t : T} (h : S[o]? = some (.ins "Duel" (duelF t))) (k : Nat) : fldD (lev M.prg k).fok (.ref o) "sides" S = some (.tup (sdD (scan t 0 0).2.1)) := fld_of h k _ _ fok_sides (by rfl)
theorem fld_children {S : Sto} {o : Nat} {t : T} (h : S[o]? = some (.ins "Duel" (duelF t))) (k : Nat) : fldD (lev M.prg k).fok (.ref o) "children" S = some (.tup (chsD (scan t 0 0).2.1)) := fld_of h k _ _ fok_children (by rfl)
/-- range(n - 1, -1, -1) -/
theorem rangeI_down (n : Nat) (h : n ≤ 100000) : rangeI [.int ((n : Int) - 1), .int (-1), .int (-1)] = some ⟨rangeL ((n : Int) - 1) (-1) n, fun _ => True⟩ := by
  have h1 : (bnd ((n : Int) - 1) ∧ bnd (-1)) ∧ (-1 : Int) = -1 ∧ ((n : Int) - 1) - (-1) ≤ 1000000 := ⟨⟨⟨by omega, by omega⟩, ⟨by omega, by omega⟩⟩, rfl, by omega⟩
  have h2 : (((n : Int) - 1) - (-1)).toNat = n := by omega
  show (if (bnd ((n : Int) - 1) ∧ bnd (-1)) ∧ (-1 : Int) = -1 ∧ ((n : Int) - 1) - (-1) ≤ 1000000 then some (Its.mk (rangeL ((n : Int) - 1) (-1) (((n : Int) - 1) - (-1)).toNat) fun _ => True) else none) = _
  rw [if_pos h1, h2]
end Mp.K42
end
section
set_option Elab.async false
set_option linter.all false
set_option maxHeartbeats 0
/-! K42Pw: winners_with, winner, node_winners. -/
namespace Mp.K42
open PySem L2
theorem sdD_get (ns : List Nd) (i : Nat) (h : i < ns.length) : L2.atI (sdD ns) (i : Int) = some (.int (sg ns[i].1)) := by
  rw [atI_nat]; simp [sdD, h]
theorem chsD_get (ns : List Nd) (i : Nat) (h : i < ns.length) : L2.atI (chsD ns) (i : Int) = some (.tup (ns[i].2.map chP)) := by
  rw [atI_nat]; simp [chsD, h]
theorem ent_val (k : Nat) (c : Ch) (S : Sto) (W : Nat) (es ws : List Bool) (hW : S[W]? = some (.lst (esD ws))) (hc : if c.1 then c.2 < ws.length else c.2 < es.length) :
    (lev M.prg (k + 1)).call "entry_of" [chP c, .ref W, .tup (esD es)] S = .ok (.int (sg (val es ws c))) S := by
  refine ent_ok k c S W es (esD ws) _ hW ?_
  by_cases h1 : c.1 = true
  · simp only [h1, if_true] at hc ⊢
    simp [esD, val, h1, List.getD, hc]
  · rw [if_neg h1] at hc ⊢
    simp [val, h1, List.getD, hc]
theorem fn_pwin : M.prg.fn "winners_with" = some ⟨2, 8, c_winners_with⟩ := by kernel_rfl
theorem down_at (n i : Nat) (h : i < n) : (rangeL ((n : Int) - 1) (-1) n)[i]'(by simpa using h) = .int ((n - 1 - i : Nat) : Int) := by
  rw [rangeL_get]
  congr 1
  omega
theorem pwin_ok (k : Nat) (S : Sto) (o : Nat) (t : T) (hS : S[o]? = some (.ins "Duel" (duelF t))) (bn : t.nn ≤ 100000) :
    ((lev M.prg (k + 2)).call "winners_with" [.ref o, .tup (esD (scan t 0 0).2.2)] S).Good fun r S' => ∃ w, r = .ref w ∧ S.length ≤ w ∧ S'[w]? = some (.lst (esD (winS (scan t 0 0).2.2 (scan t 0 0).2.1 0))) ∧ Fr [] S S' := by
  rw [lev_call _ _ _ _ _ _ fn_pwin rfl]
  apply Fl.Ret.good
  have fs : ∀ S', Fr [] S S' → fldD (lev M.prg (k + 1)).fok (.ref o) "sides" S' = some (.tup (sdD (scan t 0 0).2.1)) := fun S' f => fld_sides (f.at hS (by simp)) _
  have fc : ∀ S', Fr [] S S' → fldD (lev M.prg (k + 1)).fok (.ref o) "children" S' = some (.tup (chsD (scan t 0 0).2.1)) := fun S' f => fld_children (f.at hS (by simp)) _
  have wf := scan_wf0 t
  have bn' : (scan t 0 0).2.1.length ≤ 100000 := by rw [scan_nn]; exact bn
  generalize (scan t 0 0).2.1 = ns at *
  generalize (scan t 0 0).2.2 = es at *
  have sl : (sdD ns).length = ns.length := by simp [sdD]
  simp -implicitDefEqProofs [c_winners_with, fs S (Fr.refl _ _)]
  apply Fl.Nx.ret
  apply Res.Good.nx
  apply Res.Good.bind
  refine lc_good (List.replicate ns.length .non) (fun _ S' => S' = S) rfl (fun _ _ _ => trivial) (by simp [sl]) ?_ ?_
  · rintro i hi S' rfl
    simp -implicitDefEqProofs [p3_winners_with]
  rintro S' rfl
  have f0 : Fr [] S' (S' ++ [O.lst (List.replicate ns.length .non)]) := Fr.app _ _ _
  simp -implicitDefEqProofs [fs _ f0, sl, rangeI_down ns.length bn']
  apply Fl.Nx.ret
  refine for_nx (fun i ρ S1 => ∃ a b c d e X, ρ = [some (.ref o), some (.tup (esD es)), some (.ref S'.length), a, b, c, d, e] ∧ X.length = ns.length ∧ X.drop (ns.length - i) = (esD (winS es ns 0)).drop (ns.length - i) ∧
    S1[S'.length]? = some (.lst X) ∧ Fr [] S' S1) ?_ (fun _ _ _ _ => trivial) ?_ ?_
  · refine ⟨none, none, none, none, none, List.replicate ns.length .non, rfl, by simp, ?_, by simp, f0⟩
    have := winS_len es ns 0
    simp [esD]; omega
  · rintro i hi ρ S1 ⟨a, b, c, d, e, X, rfl, x1, x2, x3, f1⟩
    have hi' : i < ns.length := by simpa using hi
    refine ⟨_, rfl, ?_⟩
    rw [down_at _ _ hi']
    obtain ⟨at', hat⟩ : ∃ at', at' = ns.length - 1 - i := ⟨_, rfl⟩
    rw [← hat]
    have la : at' < ns.length := by omega
    have hb := wf.get at' la
    have hX : X.drop (at' + 1) = (esD (winS es ns 0)).drop (at' + 1) := by
      have : at' + 1 = ns.length - i := by omega
      rw [this]; exact x2
    simp -implicitDefEqProofs [p2_winners_with, fs _ f1, fc _ f1, ixD_tup, sdD_get _ _ la, chsD_get _ _ la]
    apply Fl.Nx.then_
    apply Res.Good.nx
    apply Res.Good.bind
    refine lc_good (esD (ns[at'].2.map (val es (winS es ns 0)))) (fun _ S2 => S2 = S1) rfl (fun _ _ _ => trivial) (by simp [esD]) ?_ ?_
    · rintro j hj S2 rfl
      have hj' : j < ns[at'].2.length := by simpa using hj
      have hcc := hb _ (List.getElem_mem hj')
      simp -implicitDefEqProofs [p1_winners_with]
      rw [ent_ok k (ns[at'].2[j]) S2 _ es X (val es (winS es ns 0) ns[at'].2[j]) x3 (by
        by_cases h1 : (ns[at'].2[j]).1 = true
        · simp only [h1, if_true] at hcc ⊢
          have hd : ∀ (Y : List D) (m q : Nat), m ≤ q → (Y.drop m)[q - m]? = Y[q]? := by intro Y m q h; rw [List.getElem?_drop]; congr 1; omega
          rw [← hd X (at' + 1) _ (by omega), hX, hd _ _ _ (by omega)]
          have := winS_len es ns 0
          have h2 : (ns[at'].2[j]).2 < (winS es ns 0).length := by omega
          simp [esD, val, h1, List.getD, h2]
        · rw [if_neg h1] at hcc ⊢
          simp [val, h1, List.getD, hcc])]
      simp [esD]
    rintro S2 rfl
    have lS := lt_at x3
    have w2 : (S2 ++ [O.lst (esD (ns[at'].2.map (val es (winS es ns 0))))])[S'.length]? = some (.lst X) := (Fr.app [] S2 _).at x3 (by simp)
    have b3 : (S2 ++ [O.lst (esD (ns[at'].2.map (val es (winS es ns 0))))])[S2.length]? = some (.lst (esD (ns[at'].2.map (val es (winS es ns 0))))) := by simp
    have ix : L2.ixN X.length (at' : Int) = some at' := ixN_nat _ _ (by omega)
    have bin := in_es ns[at'].1 _ _ _ b3
    have bno := notin_es _ _ _ b3
    have hW := winS_at es ns es.length wf at' la
    have hany : (ns[at'].2.map (val es (winS es ns 0))).any (· == ns[at'].1) = ns[at'].2.any (fun c => val es (winS es ns 0) c == ns[at'].1) := by
      rw [List.any_map]; rfl
    rw [hany] at bin
    have hWd : (esD (winS es ns 0)).drop at' = .int (sg (if ns[at'].2.any (fun c => val es (winS es ns 0) c == ns[at'].1) then ns[at'].1 else !ns[at'].1)) :: (esD (winS es ns 0)).drop (at' + 1) := by
      have : ∀ m, (esD (winS es ns 0)).drop m = esD ((winS es ns 0).drop m) := by intro m; simp [esD]
      rw [this, this, hW]; rfl
    have dset : ∀ b, (X.set at' b).drop at' = b :: X.drop (at' + 1) := by
      intro b
      rw [List.drop_eq_getElem_cons (by simp; omega)]
      simp [List.drop_set_of_lt]
    have han : ns.length - (i + 1) = at' := by omega
    have ff : ∀ Y, Fr [] S' ((S2 ++ [O.lst (esD (ns[at'].2.map (val es (winS es ns 0))))]).set S'.length Y) := fun Y => (f1.trans ((Fr.app [] S2 _))).trans_fresh (Fr.set (W := [S'.length]) _ _ (by simp)) (by simp)
    simp -implicitDefEqProofs [bin]
    by_cases hc : (ns[at'].2.any fun c => val es (winS es ns 0) c == ns[at'].1) = true
    · rw [if_pos hc] at hWd
      simp only [hc, if_true]
      simp -implicitDefEqProofs [setD_ref w2, ix]
      refine ⟨X.set at' (.int (sg ns[at'].1)), by simp [x1], ?_, set_self w2 _, ff _⟩
      rw [han, dset, hX, hWd]
    · rw [if_neg hc] at hWd
      simp only [hc, if_false]
      simp -implicitDefEqProofs [bno, setD_ref w2, ix, sg_not]
      refine ⟨X.set at' (.int (sg !ns[at'].1)), by simp [x1], ?_, set_self w2 _, ff _⟩
      rw [han, dset, hX, hWd]
  · rintro ρ S1 ⟨a, b, c, d, e, X, rfl, x1, x2, x3, f1⟩
    simp -implicitDefEqProofs
    rw [rangeL_len] at x2
    simp at x2
    rw [← x2]
    exact ⟨x3, f1⟩
theorem root_in (t : T) (ws : List Bool) (hw : ws.length = t.nn) : if (scan t 0 0).1.1 then (scan t 0 0).1.2 < ws.length else (scan t 0 0).1.2 < (scan t 0 0).2.2.length := by
  have := (scan_wf t 0 0 t.nn t.nl (by omega) (by omega)).2
  rw [scan_nl, hw]
  unfold Cin at this
  by_cases h : (scan t 0 0).1.1 = true
  · simp only [h, if_true] at this ⊢; omega
  · simp only [h, if_false] at this ⊢; exact this
/-- the winners at the nodes, and of the whole -/
def T.ns (t : T) : List Nd := (scan t 0 0).2.1
def T.es (t : T) : List Bool := (scan t 0 0).2.2
def T.rt (t : T) : Ch := (scan t 0 0).1
def T.win (t : T) : List Bool := winS t.es t.ns 0
def T.out (t : T) : Bool := val t.es t.win t.rt
theorem T.win_len (t : T) : t.win.length = t.nn := by rw [T.win, winS_len, T.ns, scan_nn]
theorem fn_winner : M.prg.fn "winner" = some ⟨1, 1, c_winner⟩ := by kernel_rfl
theorem fn_nwin : M.prg.fn "node_winners" = some ⟨1, 1, c_node_winners⟩ := by kernel_rfl
theorem winner_ok (k : Nat) (S : Sto) (o : Nat) (t : T) (hS : S[o]? = some (.ins "Duel" (duelF t))) (bn : t.nn ≤ 100000) :
    ((lev M.prg (k + 3)).call "winner" [.ref o] S).Good fun r S' => r = .int (sg t.out) ∧ Fr [] S S' := by
  rw [lev_call _ _ _ _ _ _ fn_winner rfl]
  apply Fl.Ret.good
  simp -implicitDefEqProofs [c_winner, fld_root hS, fld_ends hS]
  apply Fl.Ret.then_
  apply Res.Good.ret
  apply Res.Good.bind
  apply Res.Good.bind
  apply Res.Good.bind
  refine (pwin_ok k S o t hS bn).mono ?_
  rintro r S1 ⟨w, rfl, h1, h2, f⟩
  have hS1 := f.at hS (by simp)
  simp -implicitDefEqProofs [fld_ends hS1]
  rw [ent_val (k + 1) _ S1 w _ _ h2 (root_in t _ t.win_len)]
  simp
  exact ⟨rfl, f⟩
theorem nwin_ok (k : Nat) (S : Sto) (o : Nat) (t : T) (hS : S[o]? = some (.ins "Duel" (duelF t))) (bn : t.nn ≤ 100000) :
    ((lev M.prg (k + 3)).call "node_winners" [.ref o] S).Good fun r S' => r = .tup (esD t.win) ∧ Fr [] S S' := by
  rw [lev_call _ _ _ _ _ _ fn_nwin rfl]
  apply Fl.Ret.good
  simp -implicitDefEqProofs [c_node_winners, fld_ends hS]
  apply Fl.Ret.then_
  apply Res.Good.ret
  apply Res.Good.bind
  apply Res.Good.bind
  refine (pwin_ok k S o t hS bn).mono ?_
  rintro r S1 ⟨w, rfl, h1, h2, f⟩
  simp -implicitDefEqProofs [tuple_ref h2]
  exact ⟨rfl, f⟩
end Mp.K42
end
section
set_option Elab.async false
set_option linter.all false
set_option maxHeartbeats 0
/-! K42Plan: winning_plan. -/
namespace Mp.K42
open PySem L2
theorem fn_wplan : M.prg.fn "winning_plan" = some ⟨1, 8, c_winning_plan⟩ := by kernel_rfl
theorem zipI_tup (a b : List D) (h : a.length ≤ 16777216) : zipI (.tup a) (.tup b) = some ⟨(a.zip b).map fun p => .tup [p.1, p.2], fun _ => True⟩ := by
  have : (a.zip b).length ≤ PySem.sizeLine := by
    have : PySem.sizeLine = 16777216 := by decide
    simp; omega
  simp only [zipI]
  rw [if_pos this]
def T.plan (t : T) : List (Option Nat) := due t.es t.win t.out t.ns
theorem wplan_ok (k : Nat) (S : Sto) (o : Nat) (t : T) (hS : S[o]? = some (.ins "Duel" (duelF t))) (bn : t.nn ≤ 100000) :
    ((lev M.prg (k + 3)).call "winning_plan" [.ref o] S).Good fun r S' => r = .tup (t.plan.map plE) ∧ Fr [] S S' := by
  rw [lev_call _ _ _ _ _ _ fn_wplan rfl]
  apply Fl.Ret.good
  have bn' : t.ns.length ≤ 100000 := by rw [T.ns, scan_nn]; exact bn
  have wf : Wf t.es.length t.ns 0 t.ns.length := scan_wf0 t
  have sl : (sdD t.ns).length = t.ns.length := by simp [sdD]
  have cl : (chsD t.ns).length = t.ns.length := by simp [chsD]
  obtain ⟨DP, hDP⟩ : ∃ DP, DP = t.plan.map plE := ⟨_, rfl⟩
  have hDl : DP.length = t.ns.length := by simp [hDP, T.plan, due]
  rw [← hDP]
  have fs : ∀ S', Fr [] S S' → fldD (lev M.prg (k + 2)).fok (.ref o) "sides" S' = some (.tup (sdD t.ns)) := fun S' f => fld_sides (f.at hS (by simp)) _
  have fc : ∀ S', Fr [] S S' → fldD (lev M.prg (k + 2)).fok (.ref o) "children" S' = some (.tup (chsD t.ns)) := fun S' f => fld_children (f.at hS (by simp)) _
  have fe : ∀ S', Fr [] S S' → fldD (lev M.prg (k + 2)).fok (.ref o) "ends" S' = some (.tup (esD t.es)) := fun S' f => fld_ends (f.at hS (by simp)) _
  have fr : ∀ S', Fr [] S S' → fldD (lev M.prg (k + 2)).fok (.ref o) "root" S' = some (chP t.rt) := fun S' f => fld_root (f.at hS (by simp)) _
  simp -implicitDefEqProofs [c_winning_plan, fe S (Fr.refl _ _)]
  apply Fl.Nx.ret
  apply Res.Good.nx
  refine (pwin_ok (k) S o t hS bn).mono ?_
  rintro r S1 ⟨w, rfl, h1, h2, f1⟩
  have h2' : S1[w]? = some (.lst (esD t.win)) := h2
  have hent := ent_val (k + 1) t.rt S1 w t.es t.win h2' (root_in t _ t.win_len)
  have lw := lt_at h2
  simp -implicitDefEqProofs [fe S1 f1, fr S1 f1, hent]
  have f2 : Fr [] S (S1 ++ [O.lst []]) := f1.trans (Fr.app _ _ _)
  have ezip := zipI_tup (sdD t.ns) (chsD t.ns) (by omega)
  simp -implicitDefEqProofs [fs _ f2, fc _ f2, ezip]
  apply Fl.Nx.ret
  refine for_nx (fun i ρ S2 => ∃ a b c d, ρ = [some (.ref o), some (.ref w), some (.int (sg t.out)), some (.ref S1.length), a, b, c, d] ∧ S1.length < S2.length ∧ Fr [] S1 S2 ∧ S2[S1.length]? = some (.lst (DP.take i))) ?_ (fun _ _ _ _ => trivial) ?_ ?_
  · exact ⟨none, none, none, none, by simp [T.out], by simp, Fr.app _ _ _, by simp⟩
  · rintro i hi ρ S2 ⟨a, b, c, d, rfl, l2, f3, v2⟩
    have hi' : i < t.ns.length := by simpa [sl, cl] using hi
    have fS2 := f1.trans f3
    have w2 := f3.at h2' (by simp)
    have hb := wf.get i hi'
    refine ⟨[some (.ref o), some (.ref w), some (.int (sg t.out)), some (.ref S1.length), some (.int (sg t.ns[i].1)), some (.tup (t.ns[i].2.map chP)), c, d], by simp [asgT, asgN, sdD, chsD], ?_⟩
    simp -implicitDefEqProofs [p2_winning_plan]
    apply Fl.Nx.then_
    apply Res.Good.nx
    apply Res.Good.bind
    refine lc_good (esD (t.ns[i].2.map (val t.es t.win))) (fun _ S3 => S3 = S2) rfl (fun _ _ _ => trivial) (by simp [esD]) ?_ ?_
    · rintro j hj S3 rfl
      have hj' : j < t.ns[i].2.length := by simpa using hj
      have hcc := hb _ (List.getElem_mem hj')
      simp -implicitDefEqProofs [p1_winning_plan, fe S3 fS2]
      rw [ent_val (k + 1) (t.ns[i].2[j]) S3 w t.es t.win w2 (by
        have := t.win_len
        have e : t.ns.length = t.nn := by rw [T.ns, scan_nn]
        by_cases h1 : (t.ns[i].2[j]).1 = true
        · simp only [h1, if_true] at hcc ⊢; omega
        · simp only [h1, if_false] at hcc ⊢; exact hcc)]
      simp [esD]
    rintro S3 rfl
    have b3 : (S3 ++ [O.lst (esD (t.ns[i].2.map (val t.es t.win)))])[S3.length]? = some (.lst (esD (t.ns[i].2.map (val t.es t.win)))) := by simp
    have v3 : (S3 ++ [O.lst (esD (t.ns[i].2.map (val t.es t.win)))])[S1.length]? = some (.lst (DP.take i)) := (Fr.app [] S3 _).at v2 (by simp)
    have bin := in_es t.out _ _ _ b3
    have bl : (DP.take i).length < 16777216 := by simp; omega
    have tk : DP.take (i + 1) = DP.take i ++ [plE (dueE t.es t.win t.out t.ns[i])] := by
      rw [List.take_succ_eq_append_getElem (by omega)]; simp [hDP, T.plan, due]
    have fin : ∀ d, d = plE (dueE t.es t.win t.out t.ns[i]) → S1.length < ((S3 ++ [O.lst (esD (t.ns[i].2.map (val t.es t.win)))]).set S1.length (.lst (DP.take i ++ [d]))).length ∧ Fr [] S1 ((S3 ++ [O.lst (esD (t.ns[i].2.map (val t.es t.win)))]).set S1.length (.lst (DP.take i ++ [d]))) ∧
        ((S3 ++ [O.lst (esD (t.ns[i].2.map (val t.es t.win)))]).set S1.length (.lst (DP.take i ++ [d])))[S1.length]? = some (.lst (DP.take (i + 1))) := by
      rintro d rfl
      refine ⟨by simp; omega, (f3.trans (Fr.app _ _ _)).trans_fresh (Fr.set (W := [S1.length]) _ _ (by simp)) (by simp), ?_⟩
      rw [tk]; exact set_self v3 _
    by_cases h1 : t.ns[i].1 = t.out
    · by_cases h2 : (t.ns[i].2.map (val t.es t.win)).any (· == t.out) = true
      · have ii := index_es t.out _ _ _ b3 h2
        have de : dueE t.es t.win t.out t.ns[i] = some ((t.ns[i].2.map (val t.es t.win)).findIdx (· == t.out)) := by simp only [dueE, h1, h2, if_true]
        rw [h2] at bin
        simp -implicitDefEqProofs [h1, bin, bmOk_index b3, ii, bmOk_app v3, app_ref v3 bl]
        simpa [plE] using fin _ (congrArg plE de.symm)
      · have de : dueE t.es t.win t.out t.ns[i] = some 0 := by simp only [dueE, h1, h2, if_true, if_false]; rfl
        rw [Bool.not_eq_true] at h2
        rw [h2] at bin
        simp -implicitDefEqProofs [h1, bin, bmOk_app v3, app_ref v3 bl]
        simpa [plE] using fin _ (congrArg plE de.symm)
    · have de : dueE t.es t.win t.out t.ns[i] = none := by simp only [dueE, h1, if_false]
      simp -implicitDefEqProofs [sg_inj, h1, bmOk_app v3, app_ref v3 bl]
      simpa [plE] using fin _ (congrArg plE de.symm)
  · rintro ρ S2 ⟨a, b, c, d, rfl, l2, f3, v2⟩
    have hll : ((sdD t.ns).zip (chsD t.ns)).length = DP.length := by simp [sl, cl, hDl]
    rw [List.length_map, hll, List.take_length] at v2
    simp -implicitDefEqProofs [tuple_ref v2]
    exact f1.trans f3
end Mp.K42
end
section
set_option Elab.async false
set_option linter.all false
set_option maxHeartbeats 0
/-! K42Exn: answers by an exception; loops and comprehensions that end so. -/
namespace Mp
def Res.Exn {α : Type} (r : Res α) (Q : Ex → Sto → Prop) : Prop := ∃ x S, r = .exn x S ∧ Q x S
def Fl.Exn (r : Fl) (Q : Ex → Sto → Prop) : Prop := ∃ x ρ S, r = .exn x ρ S ∧ Q x S
@[simp] theorem Res.exn_exn {α : Type} (x : Ex) (S : Sto) (Q : Ex → Sto → Prop) : (Res.exn (α := α) x S).Exn Q ↔ Q x S :=
  ⟨fun ⟨_, _, h, q⟩ => by injection h with h1 h2; rw [h1, h2]; exact q, fun q => ⟨x, S, rfl, q⟩⟩
@[simp] theorem Fl.exn_exn (x : Ex) (ρ : Env) (S : Sto) (Q : Ex → Sto → Prop) : (Fl.exn x ρ S).Exn Q ↔ Q x S :=
  ⟨fun ⟨_, _, _, h, q⟩ => by injection h with h1 h2 h3; rw [h1, h3]; exact q, fun q => ⟨x, ρ, S, rfl, q⟩⟩
theorem Res.Exn.mono {α : Type} {r : Res α} {Q R : Ex → Sto → Prop} (h : r.Exn Q) (g : ∀ a S, Q a S → R a S) : r.Exn R := by
  obtain ⟨a, S, h, q⟩ := h
  exact ⟨a, S, h, g a S q⟩
theorem Res.Exn.bind {α β : Type} {r : Res α} {f : α → Sto → Res β} {Q : Ex → Sto → Prop} (h : r.Exn Q) : (r.bind f).Exn Q := by
  obtain ⟨a, S, h, q⟩ := h
  rw [h]; exact ⟨a, S, rfl, q⟩
theorem Res.Good.bindE {α β : Type} {r : Res α} {f : α → Sto → Res β} {Q : Ex → Sto → Prop} (h : r.Good fun a S => (f a S).Exn Q) : (r.bind f).Exn Q := by
  obtain ⟨a, S, h, q⟩ := h
  rw [h]; exact q
theorem Res.Exn.fl {α : Type} {r : Res α} {ρ : Env} {f : α → Sto → Fl} {Q : Ex → Sto → Prop} (h : r.Exn Q) : (r.fl ρ f).Exn Q := by
  obtain ⟨a, S, h, q⟩ := h
  rw [h]; exact ⟨a, ρ, S, rfl, q⟩
theorem Res.Good.flE {α : Type} {r : Res α} {ρ : Env} {f : α → Sto → Fl} {Q : Ex → Sto → Prop} (h : r.Good fun a S => (f a S).Exn Q) : (r.fl ρ f).Exn Q := by
  obtain ⟨a, S, h, q⟩ := h
  rw [h]; exact q
theorem Fl.Exn.then_ {r : Fl} {f : Env → Sto → Fl} {Q : Ex → Sto → Prop} (h : r.Exn Q) : (r.then_ f).Exn Q := by
  obtain ⟨a, ρ, S, h, q⟩ := h
  rw [h]; exact ⟨a, ρ, S, rfl, q⟩
theorem Fl.Nx.thenE {r : Fl} {f : Env → Sto → Fl} {Q : Ex → Sto → Prop} (h : r.Nx fun ρ S => (f ρ S).Exn Q) : (r.then_ f).Exn Q := by
  obtain ⟨ρ, S, h, q⟩ := h
  rw [h]; exact q
theorem Fl.Exn.res {r : Fl} {Q : Ex → Sto → Prop} (h : r.Exn Q) : r.res.Exn Q := by
  obtain ⟨a, ρ, S, h, q⟩ := h
  rw [h]; exact ⟨a, S, rfl, q⟩
/-- a statement of a try that raises -/
theorem Res.Exn.catch_ {α : Type} {r : Res α} {ρ : Env} {f : α → Sto → Fl} {h : Env → Sto → Fl} {g : Ex → Env → Sto → Fl} {Q : D → Sto → Prop} (hr : r.Exn fun x S => (g x ρ S).Ret Q) : (((r.fl ρ f).then_ h).catch_ g).Ret Q := by
  obtain ⟨a, S, hr, q⟩ := hr
  rw [hr]; exact q
theorem Res.Exn.catch1 {α : Type} {r : Res α} {ρ : Env} {f : α → Sto → Fl} {g : Ex → Env → Sto → Fl} {Q : D → Sto → Prop} (hr : r.Exn fun x S => (g x ρ S).Ret Q) : ((r.fl ρ f).catch_ g).Ret Q := by
  obtain ⟨a, S, hr, q⟩ := hr
  rw [hr]; exact q
theorem Fl.Ret.catch_ {r : Fl} {g : Ex → Env → Sto → Fl} {Q : D → Sto → Prop} (h : r.Ret Q) : (r.catch_ g).Ret Q := by
  obtain ⟨a, S, h, q⟩ := h
  rw [h]; exact ⟨a, S, rfl, q⟩
theorem Fl.Nx.catch_ {r : Fl} {g : Ex → Env → Sto → Fl} {Q : Env → Sto → Prop} (h : r.Nx Q) : (r.catch_ g).Nx Q := by
  obtain ⟨a, S, h, q⟩ := h
  rw [h]; exact ⟨a, S, rfl, q⟩
theorem forL_exn {ck : Sto → Prop} {tg : Tg} {body : Env → Sto → Fl} {Q : Ex → Sto → Prop} (I : Nat → Env → Sto → Prop) (hck : ∀ i ρ S, I i ρ S → ck S) :
    ∀ (m : Nat) (ds : List D) (hm : m < ds.length) (j : Nat) (ρ : Env) (S : Sto), I j ρ S →
    (∀ i (h : i < m) ρ S, I (j + i) ρ S → ∃ ρ1, asgT tg (ds[i]'(by omega)) ρ = some ρ1 ∧ (body ρ1 S).Nx (I (j + i + 1))) →
    (∀ ρ S, I (j + m) ρ S → ∃ ρ1, asgT tg (ds[m]) ρ = some ρ1 ∧ (body ρ1 S).Exn Q) → (forL ck tg body ds ρ S).Exn Q
  | _, [], hm, _, _, _, _, _, _ => absurd hm (by simp)
  | 0, d :: ds, hm, j, ρ, S, h0, _, he => by
    obtain ⟨ρ1, h1, x, ρ2, S2, h2, q⟩ := he ρ S (by simpa using h0)
    unfold forL
    simp at h1
    rw [if_pos (hck _ _ _ h0), h1]
    simp only [enter]
    rw [h2]
    exact ⟨x, ρ2, S2, rfl, q⟩
  | m + 1, d :: ds, hm, j, ρ, S, h0, st, he => by
    obtain ⟨ρ1, h1, ρ2, S2, h2, h3⟩ := st 0 (by omega) ρ S (by simpa using h0)
    have := forL_exn I hck m ds (by simpa using hm) (j + 1) ρ2 S2 (by simpa using h3) (fun i hi ρ S h => by
      have := st (i + 1) (by omega) ρ S (by simpa [Nat.add_assoc, Nat.add_comm 1 i] using h)
      simpa [Nat.add_assoc, Nat.add_comm 1 i] using this) (fun ρ S h => by
      have := he ρ S (by simpa [Nat.add_assoc, Nat.add_comm 1 m] using h)
      simpa using this)
    unfold forL
    simp at h1
    rw [if_pos (hck _ _ _ h0), h1]
    simp only [enter]
    rw [h2]
    exact this
theorem for_exn {ck : Sto → Prop} {tg : Tg} {body : Env → Sto → Fl} {ds : List D} {ρ : Env} {S : Sto} {Q : Ex → Sto → Prop} (m : Nat) (hm : m < ds.length)
    (I : Nat → Env → Sto → Prop) (h0 : I 0 ρ S) (hck : ∀ i ρ S, I i ρ S → ck S)
    (st : ∀ i (h : i < m) ρ S, I i ρ S → ∃ ρ1, asgT tg (ds[i]'(by omega)) ρ = some ρ1 ∧ (body ρ1 S).Nx (I (i + 1)))
    (he : ∀ ρ S, I m ρ S → ∃ ρ1, asgT tg (ds[m]) ρ = some ρ1 ∧ (body ρ1 S).Exn Q) : (forL ck tg body ds ρ S).Exn Q :=
  forL_exn I hck m ds hm 0 ρ S h0 (by simpa using st) (by simpa using he)
theorem lcL_exn {ck : Sto → Prop} {f : D → Sto → Res (Option D)} {Q : Ex → Sto → Prop} (I : Nat → Sto → Prop) (hck : ∀ i S, I i S → ck S) :
    ∀ (m : Nat) (ds : List D) (hm : m < ds.length) (j : Nat) (S : Sto), I j S →
    (∀ i (h : i < m) S, I (j + i) S → (f (ds[i]'(by omega)) S).Good fun _ S' => I (j + i + 1) S') →
    (∀ S, I (j + m) S → (f ds[m] S).Exn Q) → (lcL ck f ds S).Exn Q
  | _, [], hm, _, _, _, _, _ => absurd hm (by simp)
  | 0, d :: ds, hm, j, S, h0, _, he => by
    have := he S (by simpa using h0)
    unfold lcL
    rw [if_pos (hck _ _ h0)]
    exact this.bind
  | m + 1, d :: ds, hm, j, S, h0, st, he => by
    have h2 := st 0 (by omega) S (by simpa using h0)
    unfold lcL
    rw [if_pos (hck _ _ h0)]
    apply Res.Good.bindE
    refine h2.mono fun r S2 h3 => ?_
    refine Res.Exn.bind ?_
    exact lcL_exn I hck m ds (by simpa using hm) (j + 1) S2 (by simpa using h3) (fun i hi S h => by
      have := st (i + 1) (by omega) S (by simpa [Nat.add_assoc, Nat.add_comm 1 i] using h)
      simpa [Nat.add_assoc, Nat.add_comm 1 i] using this) (fun S h => by
      have := he S (by simpa [Nat.add_assoc, Nat.add_comm 1 m] using h)
      simpa using this)
theorem lc_exn {ck : Sto → Prop} {f : D → Sto → Res (Option D)} {ds : List D} {S : Sto} {Q : Ex → Sto → Prop} (m : Nat) (hm : m < ds.length) (I : Nat → Sto → Prop) (h0 : I 0 S) (hck : ∀ i S, I i S → ck S)
    (st : ∀ i (h : i < m) S, I i S → (f (ds[i]'(by omega)) S).Good fun _ S' => I (i + 1) S') (he : ∀ S, I m S → (f ds[m] S).Exn Q) : (lcL ck f ds S).Exn Q :=
  lcL_exn I hck m ds hm 0 S h0 (by simpa using st) (by simpa using he)
end Mp
end
section
set_option Elab.async false
set_option linter.all false
set_option maxHeartbeats 0
/-! K42Keep: what plays that keep a plan come to, plain. -/
namespace Mp.K42
open PySem L2
/-- values at the nodes from right to left -/
def sfx (g : Nat → (Ch → Bool) → Bool) (R : List Bool) : Nat → Nat → List Bool
  | 0, _ => []
  | n + 1, off => g off (fun c => if c.1 then (sfx g R n (off + 1)).getD (c.2 - (off + 1)) false else R.getD c.2 false) :: sfx g R n (off + 1)
theorem sfx_len (g : Nat → (Ch → Bool) → Bool) (R : List Bool) : ∀ n off, (sfx g R n off).length = n := by
  intro n
  induction n with
  | zero => intro off; rfl
  | succ n ih => intro off; simp [sfx, ih]
theorem sfx_drop (g : Nat → (Ch → Bool) → Bool) (R : List Bool) : ∀ n off i, (sfx g R n off).drop i = sfx g R (n - i) (off + i) := by
  intro n
  induction n with
  | zero => intro off i; simp [sfx]
  | succ n ih =>
    intro off i
    cases i with
    | zero => simp
    | succ i => simp only [sfx, List.drop_succ_cons]; rw [ih]; congr 1 <;> omega
theorem sfx_at (g : Nat → (Ch → Bool) → Bool) (R : List Bool) (n i : Nat) (h : i < n) (hg : ∀ φ ψ : Ch → Bool, (∀ c, (c.1 = true → i < c.2) → φ c = ψ c) → g i φ = g i ψ) :
    (sfx g R n 0).drop i = g i (val R (sfx g R n 0)) :: (sfx g R n 0).drop (i + 1) := by
  have e1 : (sfx g R n 0).drop (i + 1) = sfx g R (n - (i + 1)) (i + 1) := by rw [sfx_drop]; congr 1; omega
  have e0 : (sfx g R n 0).drop i = sfx g R (n - i) i := by rw [sfx_drop]; congr 1; omega
  obtain ⟨m, hm⟩ : ∃ m, n - i = m + 1 := ⟨n - i - 1, by omega⟩
  rw [e0, hm]
  simp only [sfx]
  have hm' : m = n - (i + 1) := by omega
  rw [hm', ← e1]
  congr 1
  apply hg
  intro c hc
  by_cases h1 : c.1 = true
  · simp only [val, h1, if_true]
    exact drop_getD _ _ _ (by have := hc h1; omega)
  · simp [val, h1]
def keepF (φ : Ch → Bool) (p : Option Nat) (cs : List Ch) : Bool := match p with
  | none => cs.all φ
  | some j => φ (cs.getD j (false, 0))
def kp (R : List Bool) (ns : List Nd) (pl : List (Option Nat)) : List Bool := sfx (fun i φ => keepF φ (pl.getD i none) (ns.getD i (false, [])).2) R ns.length 0
/-- a plan that fits -/
def Vpl (ns : List Nd) (pl : List (Option Nat)) : Prop := pl.length = ns.length ∧ ∀ i (h : i < ns.length) j, pl[i]? = some (some j) → j < ns[i].2.length
theorem kp_len (R : List Bool) (ns : List Nd) (pl : List (Option Nat)) : (kp R ns pl).length = ns.length := sfx_len _ _ _ _
theorem kp_at (R : List Bool) (ns : List Nd) (pl : List (Option Nat)) (m : Nat) (wf : Wf m ns 0 ns.length) (hv : Vpl ns pl) (i : Nat) (h : i < ns.length) :
    (kp R ns pl).drop i = keepF (val R (kp R ns pl)) (pl.getD i none) ns[i].2 :: (kp R ns pl).drop (i + 1) := by
  have hg : ∀ φ ψ : Ch → Bool, (∀ c, (c.1 = true → i < c.2) → φ c = ψ c) → keepF φ (pl.getD i none) (ns.getD i (false, [])).2 = keepF ψ (pl.getD i none) (ns.getD i (false, [])).2 := by
    intro φ ψ hq
    have hb := wf.get i h
    have hn : ns.getD i (false, []) = ns[i] := by simp [List.getD, h]
    rw [hn]
    have hc : ∀ c ∈ ns[i].2, φ c = ψ c := fun c hc => hq c fun h1 => by have := hb c hc; simp only [h1, if_true] at this; omega
    cases hp : pl.getD i none with
    | none =>
      simp only [keepF]
      rw [Bool.eq_iff_iff]
      simp only [List.all_eq_true]
      exact ⟨fun h c hcc => by rw [← hc c hcc]; exact h c hcc, fun h c hcc => by rw [hc c hcc]; exact h c hcc⟩
    | some j =>
      simp only [keepF]
      apply hc
      have hp' : pl[i]? = some (some j) := by
        have : i < pl.length := by rw [hv.1]; exact h
        simp [List.getD, this] at hp ⊢; exact hp
      have := hv.2 i h j hp'
      simp [List.getD, this]
  have := sfx_at (fun i φ => keepF φ (pl.getD i none) (ns.getD i (false, [])).2) R ns.length i h hg
  have hn : ns.getD i (false, []) = ns[i] := by simp [List.getD, h]
  rw [hn] at this
  exact this
theorem getD_of_drop {l : List Bool} {i : Nat} {b : Bool} {r : List Bool} (h : l.drop i = b :: r) : l.getD i false = b := by
  have := congrArg (fun l => l[0]?) h
  simp at this
  simp [List.getD, this]
theorem kp_get (R : List Bool) (ns : List Nd) (pl : List (Option Nat)) (m : Nat) (wf : Wf m ns 0 ns.length) (hv : Vpl ns pl) (i : Nat) (h : i < ns.length) :
    (kp R ns pl).getD i false = keepF (val R (kp R ns pl)) (pl.getD i none) ns[i].2 := getD_of_drop (kp_at R ns pl m wf hv i h)
theorem win_get (es : List Bool) (ns : List Nd) (wf : Wf es.length ns 0 ns.length) (i : Nat) (h : i < ns.length) :
    (winS es ns 0).getD i false = if ns[i].2.any (fun c => val es (winS es ns 0) c == ns[i].1) then ns[i].1 else !ns[i].1 := getD_of_drop (winS_at es ns es.length wf i h)
theorem due_get (es ws : List Bool) (o : Bool) (ns : List Nd) (i : Nat) (h : i < ns.length) : (due es ws o ns).getD i none = dueE es ws o ns[i] := by simp [due, List.getD, h]
theorem due_v (es ws : List Bool) (o : Bool) (ns : List Nd) (hne : ∀ i (h : i < ns.length), ns[i].2 ≠ []) : Vpl ns (due es ws o ns) := by
  refine ⟨by simp [due], fun i h j hj => ?_⟩
  have : dueE es ws o ns[i] = some j := by simpa [due, h] using hj
  unfold dueE at this
  split at this
  · injection this with this
    split at this
    case isTrue hany =>
      rw [← this]
      have := List.findIdx_lt_length_of_exists (p := (· == o)) (xs := ns[i].2.map (val es ws)) (by simpa using hany)
      simpa using this
    case isFalse =>
      rw [← this]
      exact List.length_pos_iff.2 (hne i h)
  · exact absurd this (by simp)
/-- the due plan wins -/
theorem due_wins (es : List Bool) (ns : List Nd) (o : Bool) (wf : Wf es.length ns 0 ns.length) (hne : ∀ i (h : i < ns.length), ns[i].2 ≠ []) :
    ∀ d i, ns.length - i ≤ d → i < ns.length → (winS es ns 0).getD i false = o → (kp (es.map fun b => decide (b = o)) ns (due es (winS es ns 0) o ns)).getD i false = true := by
  intro d
  induction d with
  | zero => intro i h1 h2; omega
  | succ d ih =>
    intro i h1 h2 hw
    have hv := due_v es (winS es ns 0) o ns hne
    rw [kp_get _ _ _ _ wf hv i h2, due_get _ _ _ _ _ h2]
    have hb := wf.get i h2
    have hch : ∀ c ∈ ns[i].2, val es (winS es ns 0) c = o → val (es.map fun b => decide (b = o)) (kp (es.map fun b => decide (b = o)) ns (due es (winS es ns 0) o ns)) c = true := by
      intro c hc hvc
      have hcc := hb c hc
      by_cases h3 : c.1 = true
      · simp only [h3, if_true] at hcc
        simp only [val, h3, if_true] at hvc ⊢
        exact ih c.2 (by omega) hcc.2 hvc
      · simp only [h3, if_false] at hcc
        simp only [val, h3, if_false] at hvc ⊢
        have h4 : c.2 < es.length := by simpa using hcc
        simp [List.getD, h4] at hvc ⊢
        exact hvc
    have hwi := win_get es ns wf i h2
    rw [hw] at hwi
    unfold dueE
    by_cases hs : ns[i].1 = o
    · rw [if_pos hs]
      simp only [keepF]
      have hany : (ns[i].2.map (val es (winS es ns 0))).any (· == o) = true := by
        by_cases hq : ns[i].2.any (fun c => val es (winS es ns 0) c == ns[i].1) = true
        · rw [hs] at hq
          rw [List.any_map]; exact hq
        · rw [if_neg hq, hs] at hwi
          cases o <;> simp at hwi
      rw [if_pos hany]
      have hlt := List.findIdx_lt_length_of_exists (p := (· == o)) (xs := ns[i].2.map (val es (winS es ns 0))) (by simpa using hany)
      have hsat := List.findIdx_getElem (p := (· == o)) (xs := ns[i].2.map (val es (winS es ns 0))) (w := hlt)
      have hlt' : (ns[i].2.map (val es (winS es ns 0))).findIdx (· == o) < ns[i].2.length := by simpa using hlt
      have hgd : ns[i].2.getD ((ns[i].2.map (val es (winS es ns 0))).findIdx (· == o)) (false, 0) = ns[i].2[(ns[i].2.map (val es (winS es ns 0))).findIdx (· == o)] := by
        rw [List.getD_eq_getElem?_getD, List.getElem?_eq_getElem hlt']; rfl
      rw [hgd]
      refine hch _ (List.getElem_mem hlt') ?_
      have h5 : (ns[i].2.map (val es (winS es ns 0)))[(ns[i].2.map (val es (winS es ns 0))).findIdx (· == o)] = o := by simpa using hsat
      rw [List.getElem_map] at h5
      exact h5
    · rw [if_neg hs]
      simp only [keepF, List.all_eq_true]
      intro c hc
      apply hch c hc
      by_cases hq : ns[i].2.any (fun c => val es (winS es ns 0) c == ns[i].1) = true
      · rw [if_pos hq] at hwi; exact absurd hwi.symm hs
      · simp only [Bool.not_eq_true, List.any_eq_false] at hq
        have := hq c hc
        cases h6 : val es (winS es ns 0) c <;> cases h7 : ns[i].1 <;> cases h8 : o <;> simp_all
/-- every leaf that plays come to, by the law's own walk -/
def reach (ns : List Nd) (pl : List (Option Nat)) : Nat → Ch → List Nat
  | 0, _ => []
  | f + 1, c => if c.1 then ((List.range (ns.getD c.2 (false, [])).2.length).flatMap fun k => if pl.getD c.2 none = none ∨ pl.getD c.2 none = some k then reach ns pl f ((ns.getD c.2 (false, [])).2.getD k (false, 0)) else []) else [c.2]
theorem reach_all (es : List Bool) (g : Bool) (ns : List Nd) (pl : List (Option Nat)) (wf : Wf es.length ns 0 ns.length) (hv : Vpl ns pl) :
    ∀ f c, (if c.1 then ns.length < f + c.2 ∧ c.2 < ns.length else 0 < f ∧ c.2 < es.length) → ((reach ns pl f c).all fun l => decide (es.getD l false = g)) = val (es.map fun b => decide (b = g)) (kp (es.map fun b => decide (b = g)) ns pl) c := by
  intro f
  induction f with
  | zero =>
    intro c hc
    by_cases h1 : c.1 = true
    · simp only [h1, if_true] at hc; omega
    · simp only [h1, if_false] at hc; exact absurd hc.1 (by omega)
  | succ f ih =>
    intro c hc
    by_cases h1 : c.1 = true
    · simp only [h1, if_true] at hc
      have h2 := hc.2
      have hn : ns.getD c.2 (false, []) = ns[c.2] := by simp [List.getD, h2]
      simp only [reach, h1, if_true, hn, val]
      rw [kp_get _ _ _ _ wf hv c.2 h2]
      have hb := wf.get c.2 h2
      have hcl : ∀ k (hk : k < ns[c.2].2.length), ((reach ns pl f (ns[c.2].2.getD k (false, 0))).all fun l => decide (es.getD l false = g)) = val (es.map fun b => decide (b = g)) (kp (es.map fun b => decide (b = g)) ns pl) ns[c.2].2[k] := by
        intro k hk
        have hgd : ns[c.2].2.getD k (false, 0) = ns[c.2].2[k] := by simp [List.getD, hk]
        rw [hgd]
        apply ih
        have hcc := hb _ (List.getElem_mem hk)
        by_cases h3 : (ns[c.2].2[k]).1 = true
        · simp only [h3, if_true] at hcc ⊢; omega
        · simp only [h3, if_false] at hcc ⊢
          refine ⟨by omega, by simpa using hcc⟩
      rw [List.all_flatMap]
      cases hp : pl.getD c.2 none with
      | none =>
        simp only [keepF, true_or, if_true]
        rw [Bool.eq_iff_iff]
        simp only [List.all_eq_true (l := List.range _), List.mem_range, List.all_eq_true (l := ns[c.2].2)]
        refine ⟨fun h x hx => ?_, fun h k hk => ?_⟩
        · obtain ⟨k, hk, rfl⟩ := List.getElem_of_mem hx
          rw [← hcl k hk]; exact h k hk
        · rw [hcl k hk]; exact h _ (List.getElem_mem hk)
      | some j =>
        have hp' : pl[c.2]? = some (some j) := by
          have : c.2 < pl.length := by rw [hv.1]; exact h2
          simp [List.getD, this] at hp ⊢; exact hp
        have hj := hv.2 c.2 h2 j hp'
        have hgd : ns[c.2].2.getD j (false, 0) = ns[c.2].2[j] := by simp [List.getD, hj]
        simp only [keepF, hgd]
        rw [← hcl j hj, Bool.eq_iff_iff]
        simp only [List.all_eq_true (l := List.range _), List.mem_range]
        refine ⟨fun h => by simpa using h j hj, fun h k hk => ?_⟩
        by_cases hkj : j = k
        · subst hkj; simpa using h
        · simp [hkj]
    · simp only [h1, if_false] at hc
      simp [reach, h1, val, List.getD, hc.2]
end Mp.K42
end
section
set_option Elab.async false
set_option linter.all false
set_option maxHeartbeats 0
/-! K42Isw: require_plan, is_winning. -/
namespace Mp.K42
open PySem L2
theorem exc_lev (P : Prg) (k : Nat) (c : Str) (ds : List D) : (lev P (k + 2)).exc c ds = P.exc c ds := by rw [lev]; simp
theorem init_lev (P : Prg) (k : Nat) (c : Str) (ds : List D) (S : Sto) : (lev P (k + 1)).init c ds S = (lev P k).call (mkey c "__init__") ds S := by rw [lev]
theorem fn_req : M.prg.fn "require_plan" = some ⟨2, 4, c_require_plan⟩ := by kernel_rfl
theorem fn_isw : M.prg.fn "is_winning" = some ⟨3, 10, c_is_winning⟩ := by kernel_rfl
theorem exc_plan (m : Int) : M.prg.exc "InvalidPlan" [.int m] = some [(("index" : Str), .int m)] := by kernel_rfl
theorem exc_range (x : Str) : M.prg.exc "OutOfRange" [.str x] = some [] := by kernel_rfl
/-- an entry that fits -/
def okEn (n : Nat) (d : D) : Prop := d = .non ∨ ∃ j : Nat, d = .int j ∧ j < n
/-- the number of the entries that are looked at -/
def looks (a b : Nat) : Nat := if (b : Int) > a then b else a
theorem max_int (i j : Int) (S : Sto) : bltD .max [.int i, .int j] S = .ok (.int (if j > i then j else i)) S := rfl
theorem max_nat (a b : Nat) (S : Sto) : bltD .max [.int a, .int b] S = .ok (.int ((looks a b : Nat) : Int)) S := by
  rw [max_int]
  unfold looks
  split <;> rfl
@[simp] theorem isnot_non (S : Sto) : cmpD .IsNot .non .non S = some false := rfl
@[simp] theorem isnot_int (i : Int) (S : Sto) : cmpD .IsNot (.int i) .non S = some true := rfl
theorem req_turn (C : Cf) (S : Sto) (o : Nat) (t : T) (pv : List D) (m : Nat) (x : Option D) (fs : fldD C.fok (.ref o) "sides" S = some (.tup (sdD t.ns))) (fc : fldD C.fok (.ref o) "children" S = some (.tup (chsD t.ns)))
    (h1 : m < pv.length) (h2 : m < t.ns.length) (h3 : okEn t.ns[m].2.length pv[m]) :
    (evSs C none p1_require_plan [some (.ref o), some (.tup pv), some (.int (m : Nat)), x] S).Nx fun ρ S' => S' = S ∧ ∃ y, ρ = [some (.ref o), some (.tup pv), some (.int (m : Nat)), y] := by
  have sl : (sdD t.ns).length = t.ns.length := by simp [sdD]
  have g1 : ¬(pv.length ≤ m) := by omega
  have g2 : ¬(t.ns.length ≤ m) := by omega
  have hp : L2.atI pv (m : Int) = some pv[m] := by rw [atI_nat]; simp [h1]
  rcases h3 with h3 | ⟨j, h3, hj⟩
  · simp -implicitDefEqProofs [p1_require_plan, fs, fc, sl, g1, g2, ixD_tup, hp, h3]
  · simp -implicitDefEqProofs [p1_require_plan, fs, fc, sl, g1, g2, ixD_tup, hp, h3, chsD_get _ _ h2, hj]
theorem req_ok (k : Nat) (S : Sto) (o : Nat) (t : T) (pv : List D) (hS : S[o]? = some (.ins "Duel" (duelF t))) (hl : pv.length = t.ns.length) (bn : t.nn ≤ 100000) (hv : ∀ i (h : i < pv.length) (h' : i < t.ns.length), okEn t.ns[i].2.length pv[i]) :
    ((lev M.prg (k + 1)).call "require_plan" [.ref o, .tup pv] S).Good fun r S' => r = .non ∧ S' = S := by
  rw [lev_call _ _ _ _ _ _ fn_req rfl]
  have fs : fldD (lev M.prg k).fok (.ref o) "sides" S = some (.tup (sdD t.ns)) := fld_sides hS _
  have fc : fldD (lev M.prg k).fok (.ref o) "children" S = some (.tup (chsD t.ns)) := fld_children hS _
  have sl : (sdD t.ns).length = t.ns.length := by simp [sdD]
  have nl : t.ns.length = t.nn := by rw [T.ns, scan_nn]
  have hlk : looks pv.length t.ns.length = t.ns.length := by unfold looks; split <;> omega
  suffices h : ((evSs (lev M.prg k) none c_require_plan [some (.ref o), some (.tup pv), none, none] S).Nx fun _ S' => S' = S) by
    obtain ⟨ρ, S', h, q⟩ := h
    exact ⟨.non, S', by show (evSs _ _ _ _ _).res = _; rw [show (List.map some [D.ref o, .tup pv] ++ List.replicate (4 - 2) none : Env) = [some (.ref o), some (.tup pv), none, none] from rfl, h]; rfl, rfl, q⟩
  simp -implicitDefEqProofs [c_require_plan, fs, sl, max_nat, hlk, rangeI_one t.ns.length (by omega)]
  apply Fl.Nx.then_
  refine for_nx (fun i ρ S1 => S1 = S ∧ ∃ x y, ρ = [some (.ref o), some (.tup pv), x, y]) ⟨rfl, none, none, rfl⟩ (fun _ _ _ _ => trivial) ?_ ?_
  · rintro i hi ρ S1 ⟨rfl, x, y, rfl⟩
    have hi' : i < t.ns.length := by simpa using hi
    refine ⟨[some (.ref o), some (.tup pv), some (.int (i : Nat)), y], by simp, ?_⟩
    obtain ⟨ρ', S', h1, rfl, z, rfl⟩ := req_turn (lev M.prg k) S1 o t pv i y fs fc (by omega) hi' (hv i (by omega) hi')
    exact ⟨_, _, h1, rfl, _, _, rfl⟩
  · rintro ρ S1 ⟨rfl, x, y, rfl⟩
    simp
/-- a wrong entry -/
def badEn (ns : List Nd) (pv : List D) (m : Nat) : Prop := pv.length ≤ m ∨ ns.length ≤ m ∨ ∃ (h : m < pv.length) (h' : m < ns.length) (z : Int), pv[m] = .int z ∧ ¬(0 ≤ z ∧ z < ns[m].2.length)
theorem req_bad (k : Nat) (S : Sto) (o : Nat) (t : T) (pv : List D) (m : Nat) (hS : S[o]? = some (.ins "Duel" (duelF t))) (bn : t.nn ≤ 100000) (bp : pv.length ≤ 100000) (hm : m < pv.length ∨ m < t.ns.length)
    (hv : ∀ i (g : i < m), ∃ (h : i < pv.length) (h' : i < t.ns.length), okEn t.ns[i].2.length pv[i]) (hb : badEn t.ns pv m) :
    ((lev M.prg (k + 3)).call "require_plan" [.ref o, .tup pv] S).Exn fun x S' => x = ⟨"InvalidPlan", [(("index" : Str), .int m)]⟩ ∧ S' = S := by
  rw [lev_call _ _ _ _ _ _ fn_req rfl]
  apply Fl.Exn.res
  have fs : fldD (lev M.prg (k + 2)).fok (.ref o) "sides" S = some (.tup (sdD t.ns)) := fld_sides hS _
  have fc : fldD (lev M.prg (k + 2)).fok (.ref o) "children" S = some (.tup (chsD t.ns)) := fld_children hS _
  have sl : (sdD t.ns).length = t.ns.length := by simp [sdD]
  have nl : t.ns.length = t.nn := by rw [T.ns, scan_nn]
  have hlk : looks pv.length t.ns.length ≤ 1000000 := by unfold looks; split <;> omega
  have hmk : m < looks pv.length t.ns.length := by unfold looks; split <;> omega
  simp -implicitDefEqProofs [c_require_plan, fs, sl, max_nat, rangeI_one _ hlk]
  apply Fl.Exn.then_
  refine for_exn m (by simpa using hmk) (fun i ρ S1 => S1 = S ∧ ∃ x y, ρ = [some (.ref o), some (.tup pv), x, y]) ⟨rfl, none, none, rfl⟩ (fun _ _ _ _ => trivial) ?_ ?_
  · rintro i hi ρ S1 ⟨rfl, x, y, rfl⟩
    obtain ⟨g1, g2, g3⟩ := hv i hi
    refine ⟨[some (.ref o), some (.tup pv), some (.int (i : Nat)), y], by simp, ?_⟩
    obtain ⟨ρ', S', h1, rfl, z, rfl⟩ := req_turn (lev M.prg (k + 2)) S1 o t pv i y fs fc g1 g2 g3
    exact ⟨_, _, h1, rfl, _, _, rfl⟩
  · rintro ρ S1 ⟨rfl, x, y, rfl⟩
    refine ⟨[some (.ref o), some (.tup pv), some (.int (m : Nat)), y], by simp, ?_⟩
    by_cases g1 : pv.length ≤ m
    · simp -implicitDefEqProofs [p1_require_plan, fs, fc, sl, g1, exc_lev, exc_plan, exnO]
    by_cases g2 : t.ns.length ≤ m
    · simp -implicitDefEqProofs [p1_require_plan, fs, fc, sl, g1, g2, exc_lev, exc_plan, exnO]
    rcases hb with hb | hb | ⟨h, h', z, hz, hnz⟩
    · exact absurd hb g1
    · exact absurd hb g2
    have hp : L2.atI pv (m : Int) = some pv[m] := by rw [atI_nat]; simp [h]
    by_cases z0 : 0 ≤ z
    · have z1 : ¬(z < t.ns[m].2.length) := fun q => hnz ⟨z0, q⟩
      simp -implicitDefEqProofs [p1_require_plan, fs, fc, sl, g1, g2, ixD_tup, hp, hz, chsD_get _ _ h', z0, z1, exc_lev, exc_plan, exnO]
    · simp -implicitDefEqProofs [p1_require_plan, fs, fc, sl, g1, g2, ixD_tup, hp, hz, chsD_get _ _ h', z0, exc_lev, exc_plan, exnO]
theorem plE_ok {ns : List Nd} {pl : List (Option Nat)} (hv : Vpl ns pl) (i : Nat) (h : i < (pl.map plE).length) (h' : i < ns.length) : okEn ns[i].2.length (pl.map plE)[i] := by
  have hl : i < pl.length := by rw [hv.1]; exact h'
  rw [List.getElem_map]
  cases hp : pl[i] with
  | none => exact Or.inl rfl
  | some j => exact Or.inr ⟨j, rfl, hv.2 i h' j (by rw [List.getElem?_eq_getElem hl, hp])⟩
/-! ### is_winning -/
def blD (l : List Bool) : List D := l.map .bl
theorem blsOf_bl (l : List Bool) : blsOf (blD l) = some l := by
  induction l with
  | nil => rfl
  | cons b l ih =>
    show (blsOf (blD l)).map (b :: ·) = _
    rw [ih]; rfl
theorem blD_len (l : List Bool) : (blD l).length = l.length := by simp [blD]
theorem blD_get (es : List Bool) (i : Nat) (h : i < es.length) : L2.atI (blD es) (i : Int) = some (.bl (es.getD i false)) := by
  rw [atI_nat]; simp [blD, h, List.getD]
theorem ent_gen (k : Nat) (c : Ch) (A B v : D) (S : Sto) (hc : if c.1 then ixD A (c.2 : Nat) S = some v else ixD B (c.2 : Nat) S = some v) :
    (lev M.prg (k + 1)).call "entry_of" [chP c, A, B] S = .ok v S := by
  rw [lev_call _ _ _ _ _ _ fn_ent rfl]
  obtain ⟨b, i⟩ := c
  cases b
  · simp only [Bool.false_eq_true, if_false] at hc
    simp -implicitDefEqProofs [c_entry_of, chP, asgT, asgN, hc]
  · simp only [if_true] at hc
    simp -implicitDefEqProofs [c_entry_of, chP, asgT, asgN, node_leaf, hc]
def T.rch (t : T) (g : Bool) : List Bool := t.es.map fun b => decide (b = g)
def T.kp (t : T) (g : Bool) (pl : List (Option Nat)) : List Bool := Mp.K42.kp (t.rch g) t.ns pl
theorem isw_ok (k : Nat) (S : Sto) (o : Nat) (t : T) (pl : List (Option Nat)) (g : Bool) (hS : S[o]? = some (.ins "Duel" (duelF t))) (bn : t.nn ≤ 100000) (hv : Vpl t.ns pl) :
    ((lev M.prg (k + 3)).call "is_winning" [.ref o, .tup (pl.map plE), .int (sg g)] S).Good fun r S' => r = .bl (val (t.rch g) (t.kp g pl) t.rt) ∧ Fr [] S S' := by
  rw [lev_call _ _ _ _ _ _ fn_isw rfl]
  apply Fl.Ret.good
  have bn' : t.ns.length ≤ 100000 := by rw [T.ns, scan_nn]; exact bn
  have wf : Wf t.es.length t.ns 0 t.ns.length := scan_wf0 t
  have sl : (sdD t.ns).length = t.ns.length := by simp [sdD]
  have rl : (t.rch g).length = t.es.length := by simp [T.rch]
  have fs : ∀ S', Fr [] S S' → fldD (lev M.prg (k + 2)).fok (.ref o) "sides" S' = some (.tup (sdD t.ns)) := fun S' f => fld_sides (f.at hS (by simp)) _
  have fc : ∀ S', Fr [] S S' → fldD (lev M.prg (k + 2)).fok (.ref o) "children" S' = some (.tup (chsD t.ns)) := fun S' f => fld_children (f.at hS (by simp)) _
  have fe : ∀ S', Fr [] S S' → fldD (lev M.prg (k + 2)).fok (.ref o) "ends" S' = some (.tup (esD t.es)) := fun S' f => fld_ends (f.at hS (by simp)) _
  have fr : ∀ S', Fr [] S S' → fldD (lev M.prg (k + 2)).fok (.ref o) "root" S' = some (chP t.rt) := fun S' f => fld_root (f.at hS (by simp)) _
  obtain ⟨r0, S0, q1, rfl, rfl⟩ := req_ok (k + 1) S o t (pl.map plE) hS (by simp [hv.1]) bn (plE_ok hv)
  have q2 := out_ok (k + 1) g S0
  simp -implicitDefEqProofs [c_is_winning, q1, q2, fe S0 (Fr.refl _ _)]
  apply Fl.Nx.ret
  apply Res.Good.nx
  apply Res.Good.bind
  refine lc_good (blD (t.rch g)) (fun _ S' => S' = S0) rfl (fun _ _ _ => trivial) (by simp [blD_len, rl, esD_len]) ?_ ?_
  · rintro i hi S' rfl
    have hi' : i < t.es.length := by simpa [esD] using hi
    simp -implicitDefEqProofs [p4_is_winning, esD, blD, T.rch, sg_inj]
  rintro S' rfl
  have f1 : Fr [] S' (S' ++ [O.lst (blD (t.rch g))]) := Fr.app _ _ _
  simp -implicitDefEqProofs [fs _ f1]
  apply Fl.Nx.ret
  apply Res.Good.nx
  apply Res.Good.bind
  refine lc_good (blD (List.replicate t.ns.length false)) (fun _ S1 => S1 = S' ++ [O.lst (blD (t.rch g))]) rfl (fun _ _ _ => trivial) (by simp [sl, blD]) ?_ ?_
  · rintro i hi S1 rfl
    simp -implicitDefEqProofs [p3_is_winning, blD]
  rintro S1 rfl
  have f2 : Fr [] S' (S' ++ [O.lst (blD (t.rch g)), O.lst (blD (List.replicate t.ns.length false))]) := Fr.app _ _ _
  simp -implicitDefEqProofs [fs _ f2, sl, rangeI_down t.ns.length bn']
  apply Fl.Nx.ret
  refine for_nx (fun i ρ S1 => ∃ a b c d e X, ρ = [some (.ref o), some (.tup (pl.map plE)), some (.int (sg g)), some (.ref S'.length), some (.ref (S'.length + 1)), a, b, c, d, e] ∧ X.length = t.ns.length ∧ X.drop (t.ns.length - i) = (t.kp g pl).drop (t.ns.length - i) ∧
    S1[S'.length + 1]? = some (.lst (blD X)) ∧ S1[S'.length]? = some (.lst (blD (t.rch g))) ∧ Fr [] S' S1) ?_ (fun _ _ _ _ => trivial) ?_ ?_
  · refine ⟨none, none, none, none, none, List.replicate t.ns.length false, rfl, by simp, ?_, by simp, by simp, f2⟩
    have : (t.kp g pl).length = t.ns.length := kp_len _ _ _
    simp; omega
  · rintro i hi ρ S1 ⟨a, b, c, d, e, X, rfl, x1, x2, x3, x4, f3⟩
    have hi' : i < t.ns.length := by simpa using hi
    refine ⟨_, rfl, ?_⟩
    rw [down_at _ _ hi']
    obtain ⟨at', hat⟩ : ∃ at', at' = t.ns.length - 1 - i := ⟨_, rfl⟩
    rw [← hat]
    have la : at' < t.ns.length := by omega
    have hb := wf.get at' la
    have hX : X.drop (at' + 1) = (t.kp g pl).drop (at' + 1) := by
      have : at' + 1 = t.ns.length - i := by omega
      rw [this]; exact x2
    have hpl : at' < pl.length := by rw [hv.1]; exact la
    have hp : L2.atI (pl.map plE) (at' : Int) = some (plE pl[at']) := by rw [atI_nat]; simp [hpl]
    have hvals : ∀ c ∈ t.ns[at'].2, val (t.rch g) X c = val (t.rch g) (t.kp g pl) c := fun c hc => val_eq hX fun h1 => by
      have hcc := hb c hc; simp only [h1, if_true] at hcc; omega
    simp -implicitDefEqProofs [p2_is_winning, fs _ f3, fc _ f3, ixD_tup, chsD_get _ _ la]
    apply Fl.Nx.then_
    apply Res.Good.nx
    apply Res.Good.bind
    refine lc_good (blD (t.ns[at'].2.map (val (t.rch g) (t.kp g pl)))) (fun _ S2 => S2 = S1) rfl (fun _ _ _ => trivial) (by simp [blD]) ?_ ?_
    · rintro j hj S2 rfl
      have hj' : j < t.ns[at'].2.length := by simpa using hj
      have hcc := hb _ (List.getElem_mem hj')
      simp -implicitDefEqProofs [p1_is_winning]
      rw [ent_gen (k + 1) (t.ns[at'].2[j]) _ _ (.bl (val (t.rch g) X t.ns[at'].2[j])) S2 (by
        by_cases h1 : (t.ns[at'].2[j]).1 = true
        · simp only [h1, if_true] at hcc ⊢
          rw [ixD_ref x3, blD_get _ _ (by omega)]; simp [val, h1]
        · simp only [h1, if_false] at hcc ⊢
          have h5 : (t.ns[at'].2[j]).2 < (t.rch g).length := by rw [rl]; simpa using hcc
          simp only [Bool.false_eq_true, if_false]
          rw [ixD_ref x4, blD_get _ _ h5]; simp [val, h1])]
      simp [blD, hvals _ (List.getElem_mem hj')]
    rintro S2 rfl
    have lS := lt_at x3
    have w2 : (S2 ++ [O.lst (blD (t.ns[at'].2.map (val (t.rch g) (t.kp g pl))))])[S'.length + 1]? = some (.lst (blD X)) := (Fr.app [] S2 _).at x3 (by simp)
    have w4 : (S2 ++ [O.lst (blD (t.ns[at'].2.map (val (t.rch g) (t.kp g pl))))])[S'.length]? = some (.lst (blD (t.rch g))) := (Fr.app [] S2 _).at x4 (by simp)
    have b3 : (S2 ++ [O.lst (blD (t.ns[at'].2.map (val (t.rch g) (t.kp g pl))))])[S2.length]? = some (.lst (blD (t.ns[at'].2.map (val (t.rch g) (t.kp g pl))))) := by simp
    have ix : L2.ixN (blD X).length (at' : Int) = some at' := ixN_nat _ _ (by rw [blD_len]; omega)
    have hK : (t.kp g pl).drop at' = keepF (val (t.rch g) (t.kp g pl)) (pl.getD at' none) t.ns[at'].2 :: (t.kp g pl).drop (at' + 1) := kp_at _ _ _ _ wf hv at' la
    have hgd : pl.getD at' none = pl[at'] := by simp [List.getD, hpl]
    rw [hgd] at hK
    have bset : ∀ b, (blD X).set at' (.bl b) = blD (X.set at' b) := fun b => by simp [blD, List.map_set]
    have dset : ∀ b, (X.set at' b).drop at' = b :: X.drop (at' + 1) := by
      intro b
      rw [List.drop_eq_getElem_cons (by simp; omega)]
      simp [List.drop_set_of_lt]
    have han : t.ns.length - (i + 1) = at' := by omega
    have fin : ∀ b, b = keepF (val (t.rch g) (t.kp g pl)) pl[at'] t.ns[at'].2 → ∃ Y : List Bool, (blD X).set at' (.bl b) = blD Y ∧ Y.length = t.ns.length ∧ Y.drop (t.ns.length - (i + 1)) = (t.kp g pl).drop (t.ns.length - (i + 1)) := by
      rintro b rfl
      exact ⟨_, bset _, by simp [x1], by rw [han, dset, hX, hK]⟩
    have ff : ∀ Y, Fr [] S' ((S2 ++ [O.lst (blD (t.ns[at'].2.map (val (t.rch g) (t.kp g pl))))]).set (S'.length + 1) Y) := fun Y => (f3.trans ((Fr.app [] S2 _))).trans_fresh (Fr.set (W := [S'.length + 1]) _ _ (by simp)) (by simp)
    cases hpe : pl[at'] with
    | none =>
      rw [hpe] at fin hp
      obtain ⟨Y, y1, y2, y3⟩ := fin _ rfl
      simp only [keepF] at y1
      have hal := all_new (blD (t.ns[at'].2.map (val (t.rch g) (t.kp g pl)))) _ S2 (blsOf_bl _)
      rw [List.all_map] at hal
      simp only [plE] at hp
      simp -implicitDefEqProofs [ixD_tup, hp, hal, setD_ref w2, ix]
      exact ⟨Y, y2, y3, by rw [y1]; exact set_self w2 _, w4, ff _⟩
    | some j =>
      rw [hpe] at fin hp
      obtain ⟨Y, y1, y2, y3⟩ := fin _ rfl
      have hj := hv.2 at' la j (by rw [List.getElem?_eq_getElem hpl, hpe])
      have hcd : t.ns[at'].2.getD j (false, 0) = t.ns[at'].2[j] := by simp [List.getD, hj]
      simp only [keepF, hcd] at y1
      have hbj := blD_get (t.ns[at'].2.map (val (t.rch g) (t.kp g pl))) j (by simpa using hj)
      have hgj : (t.ns[at'].2.map (val (t.rch g) (t.kp g pl))).getD j false = val (t.rch g) (t.kp g pl) t.ns[at'].2[j] := by simp [List.getD, hj]
      rw [hgj] at hbj
      simp only [plE] at hp
      simp -implicitDefEqProofs [ixD_tup, hp, ixD_ref b3, hbj, setD_ref w2, ix]
      exact ⟨Y, y2, y3, by rw [y1]; exact set_self w2 _, w4, ff _⟩
  · rintro ρ S1 ⟨a, b, c, d, e, X, rfl, x1, x2, x3, x4, f3⟩
    rw [rangeL_len] at x2
    simp at x2
    rw [x2] at x3
    have hri := root_in t (t.kp g pl) (by rw [T.kp, kp_len, T.ns, scan_nn])
    have he := ent_gen (k + 1) t.rt (.ref (S'.length + 1)) (.ref S'.length) (.bl (val (t.rch g) (t.kp g pl) t.rt)) S1 (by
      by_cases h1 : t.rt.1 = true
      · rw [T.rt] at h1
        simp only [h1, if_true] at hri ⊢
        rw [T.rt]
        simp only [h1, if_true]
        rw [ixD_ref x3, blD_get _ _ hri]; simp [val, h1]
      · rw [T.rt] at h1
        simp only [h1, if_false] at hri
        rw [T.rt]
        simp only [h1, if_false]
        have h5 : (scan t 0 0).1.2 < (t.rch g).length := by rw [rl]; simpa [T.es] using hri
        simp only [Bool.false_eq_true, if_false]
        rw [ixD_ref x4, blD_get _ _ h5]; simp [val, h1])
    simp -implicitDefEqProofs [fr _ f3, he]
    exact f3
end Mp.K42
end
section
set_option Elab.async false
set_option linter.all false
set_option maxHeartbeats 0
/-! K42Tells: _law_tells. -/
namespace Mp.K42
open PySem L2
theorem Pl.mono {i j : Nat} {d : D} (h : Pl i d) (g : i ≤ j) : Pl j d := by
  induction h generalizing j with
  | non => exact .non
  | bl b => exact .bl b
  | int i => exact .int i
  | str x => exact .str x
  | @tup i ds hl h ih =>
    obtain ⟨m, rfl⟩ : ∃ m, j = m + 1 := ⟨j - 1, by omega⟩
    exact .tup hl fun d hd => ih d hd (by omega)
mutual
theorem pl_T : ∀ (t : T), t.wf → Pl (t.dep + 1) t.d
  | .leaf o, _ => by
    refine .tup (by simp) ?_
    intro d hd
    simp at hd
    rcases hd with rfl | rfl
    · exact .str _
    · exact .int _
  | .node s ts, h => by
    simp only [T.d, T.dep]
    refine .tup (by simp [dL_map]; have := h.2.1; omega) ?_
    intro d hd
    simp at hd
    rcases hd with rfl | rfl | hd
    · exact .str _
    · exact .int _
    · exact pl_dL ts h.2.2 d hd
theorem pl_dL : ∀ (ts : List T), wfL ts → ∀ d ∈ dL ts, Pl (depL ts + 1) d
  | [], _, d, hd => by simp [dL] at hd
  | t :: ts, h, d, hd => by
    simp [dL] at hd
    simp only [depL]
    rcases hd with rfl | hd
    · exact (pl_T t h.1).mono (by omega)
    · exact (pl_dL ts h.2 d hd).mono (by omega)
end
theorem pl_es (bs : List Bool) (h : bs.length ≤ 1000000) : Pl 1 (.tup (esD bs)) := by
  refine .tup (by simpa [esD] using h) ?_
  intro d hd
  obtain ⟨b, _, rfl⟩ := List.mem_map.1 hd
  exact .int _
theorem pl_sd (ns : List Nd) (h : ns.length ≤ 1000000) : Pl 1 (.tup (sdD ns)) := by
  refine .tup (by simpa [sdD] using h) ?_
  intro d hd
  obtain ⟨b, _, rfl⟩ := List.mem_map.1 hd
  exact .int _
theorem pl_pl (pl : List (Option Nat)) (h : pl.length ≤ 1000000) : Pl 1 (.tup (pl.map plE)) := by
  refine .tup (by simpa using h) ?_
  intro d hd
  simp at hd
  obtain ⟨p, _, rfl⟩ := hd
  cases p with
  | none => exact .non
  | some j => exact .int _
theorem fn_tells : M.prg.fn "_law_tells" = some ⟨2, 9, c__law_tells⟩ := by kernel_rfl
mutual
theorem ne_T : ∀ (t : T) n e, t.wf → ∀ a ∈ (scan t n e).2.1, a.2 ≠ []
  | .leaf o, n, e, _ => by simp [scan]
  | .node s ts, n, e, h => by
    intro a ha
    simp [scan] at ha
    rcases ha with rfl | ha
    · have := scanL_len ts (n + 1) e
      have h1 := h.1
      intro h0
      simp only at h0
      rw [h0] at this
      simp at this
      omega
    · exact ne_L ts (n + 1) e h.2.2 a ha
theorem ne_L : ∀ (ts : List T) n e, wfL ts → ∀ a ∈ (scanL ts n e).2.1, a.2 ≠ []
  | [], n, e, _ => by simp [scanL]
  | t :: ts, n, e, h => by
    intro a ha
    simp [scanL] at ha
    rcases ha with ha | ha
    · exact ne_T t n e h.1 a ha
    · exact ne_L ts _ _ h.2 a ha
end
theorem T.ns_ne (t : T) (h : t.wf) : ∀ i (g : i < t.ns.length), t.ns[i].2 ≠ [] := fun i g => ne_T t 0 0 h _ (List.getElem_mem g)
theorem T.wf0 (t : T) : Wf t.es.length t.ns 0 t.ns.length := scan_wf0 t
theorem T.plan_v (t : T) (h : t.wf) : Vpl t.ns t.plan := due_v _ _ _ _ (t.ns_ne h)
/-- the winner's plan wins -/
theorem T.plan_wins (t : T) (h : t.wf) : val (t.rch t.out) (t.kp t.out t.plan) t.rt = true := by
  have hr := root_in t t.win t.win_len
  by_cases h1 : t.rt.1 = true
  · have h1' := h1
    rw [T.rt] at h1'
    rw [if_pos h1', t.win_len] at hr
    have h2 : t.rt.2 < t.ns.length := by rw [T.ns, scan_nn]; exact hr
    have := due_wins t.es t.ns t.out t.wf0 (t.ns_ne h) t.ns.length t.rt.2 (by omega) h2 (by
      have : val t.es t.win t.rt = t.out := rfl
      simpa [val, h1, T.win] using this)
    simp only [val, h1, if_true]
    exact this
  · have h1' := h1
    rw [T.rt] at h1'
    rw [if_neg h1'] at hr
    have h2 : t.rt.2 < t.es.length := hr
    have : val t.es t.win t.rt = t.out := rfl
    simp only [val, h1] at this ⊢
    simp [T.rch, List.getD, h2] at this ⊢
    exact this
theorem tells_ok (k : Nat) (S : Sto) (o : Nat) (t : T) (hS : S[o]? = some (.ins "Duel" (duelF t))) (hd : t.dep ≤ 20) (hw : t.wf) (bn : t.nn ≤ 200) (bl : t.nl ≤ 200) :
    ((lev M.prg (k + 24)).call "_law_tells" [.ref o, t.d] S).Good fun r S' => r = .bl true ∧ Fr [] S S' := by
  rw [lev_call _ _ _ _ _ _ fn_tells rfl]
  apply Fl.Ret.good
  have nl : t.ns.length = t.nn := by rw [T.ns, scan_nn]
  have el : t.es.length = t.nl := by rw [T.es, scan_nl]
  have pT := (pl_T t hw).mono (show t.dep + 1 ≤ 21 by omega)
  simp -implicitDefEqProofs [c__law_tells]
  apply Fl.Nx.ret
  apply Res.Good.nx
  have hsc : _root_.Mp.Res.Good _ (ScanOk (S ++ [O.lst [], O.lst []]) S.length (S.length + 1) [] [] t.rt t.ns t.es) := scan_ok (k + 22) t (S ++ [O.lst [], O.lst []]) S.length (S.length + 1) [] [] (by omega) (by simp) (by simp) (by omega) (by simp; omega) (by simp; omega)
  refine hsc.mono ?_
  rintro r S1 ⟨rfl, f1, nv, v1, e1, rep⟩
  have F1 : Fr [] S S1 := (Fr.app [] S _).trans_fresh f1 (by simp)
  have rep : NRep S1 (S.length + 2) nv t.ns := by simpa using rep
  simp at v1 e1
  have hl := rep.len
  have fs : ∀ S', Fr [] S S' → fldD (lev M.prg (k + 23)).fok (.ref o) "sides" S' = some (.tup (sdD t.ns)) := fun S' f => fld_sides (f.at hS (by simp)) _
  have ft : ∀ S', Fr [] S S' → fldD (lev M.prg (k + 23)).fok (.ref o) "tree" S' = some t.d := fun S' f => fld_tree (f.at hS (by simp)) _
  have fe : ∀ S', Fr [] S S' → fldD (lev M.prg (k + 23)).fok (.ref o) "ends" S' = some (.tup (esD t.es)) := fun S' f => fld_ends (f.at hS (by simp)) _
  simp -implicitDefEqProofs [ft S1 F1]
  apply Fl.Nx.ret
  apply Res.Good.nx
  repeat apply Res.Good.bind
  refine (same_self 21 t.d pT (k + 22) S1 (by omega)).mono ?_
  rintro r S2 ⟨rfl, f2⟩
  have F2 := F1.trans f2
  have e2 := f2.at e1 (by simp)
  have v2 := f2.at v1 (by simp)
  simp -implicitDefEqProofs [fe S2 F2, tuple_ref e2]
  repeat apply Res.Good.bind
  refine (same_self 1 (.tup (esD t.es)) (pl_es _ (by omega)) (k + 22) S2 (by omega)).mono ?_
  rintro r S3 ⟨rfl, f3⟩
  have F3 := F2.trans f3
  have e3 := f3.at e2 (by simp)
  have v3 := f3.at v2 (by simp)
  have rep3 := (rep.keep f2 (by simp)).keep f3 (by simp)
  simp -implicitDefEqProofs [fs S3 F3, seqI_ref v3]
  apply Fl.Nx.ret
  apply Res.Good.nx
  repeat apply Res.Good.bind
  refine lc_good (sdD t.ns) (fun _ S' => S' = S3) rfl (fun _ S' h => by rw [h]; exact v3) (by simp [sdD, hl]) ?_ ?_
  · rintro i hi S' rfl
    have hi' : i < t.ns.length := by omega
    obtain ⟨r, q, g1, g2, g3, g4, g5, g6⟩ := rep3.get i hi'
    have gg : nv[i] = .ref r := by
      have := List.getElem?_eq_getElem hi
      rw [g1] at this; exact (Option.some.inj this).symm
    rw [gg]
    simp -implicitDefEqProofs [p1__law_tells, ixD_ref g5, sdD]
  rintro S' rfl
  simp -implicitDefEqProofs [tuple_new]
  refine (same_self 1 (.tup (sdD t.ns)) (pl_sd _ (by omega)) (k + 22) _ (by omega)).mono ?_
  rintro r S4 ⟨rfl, f4⟩
  have g4 := (Fr.app [] S' [O.lst (sdD t.ns)]).trans f4
  have F4 := F3.trans g4
  have e4 := g4.at e3 (by simp)
  have v4 := g4.at v3 (by simp)
  have rep4 := rep3.keep g4 (by simp)
  simp -implicitDefEqProofs
  apply Fl.Nx.ret
  apply Res.Good.nx
  refine (winners_ok (k + 21) S4 S.length (S.length + 1) (S.length + 2) nv t.ns t.es v4 e4 rep4 t.wf0 (by omega)).mono ?_
  rintro r S5 ⟨w, rfl, hw5, w5, f5⟩
  have w5 : S5[w]? = some (.lst (esD t.win)) := w5
  have F5 := F4.trans f5
  have e5 := f5.at e4 (by simp)
  have v5 := f5.at v4 (by simp)
  have rep5 := rep4.keep f5 (by simp)
  have hat : (lev M.prg (k + 23)).call "_law_at" [chD t.rt, .ref w, .ref (S.length + 1)] S5 = .ok (.int (sg t.out)) S5 := at_ok (k + 22) t.rt S5 w (S.length + 1) t.es t.win w5 e5 (root_in t _ t.win_len)
  simp -implicitDefEqProofs [hat]
  apply Fl.Nx.ret
  apply Res.Good.nx
  repeat apply Res.Good.bind
  refine (winner_ok (k + 20) S5 o t (F5.at hS (by simp)) (by omega)).mono ?_
  rintro r S6 ⟨rfl, f6⟩
  have F6 := F5.trans f6
  simp -implicitDefEqProofs
  repeat apply Res.Good.bind
  refine (same_self 0 _ (.int _) (k + 22) S6 (by omega)).mono ?_
  rintro r S7 ⟨rfl, f7⟩
  have F7 := F6.trans f7
  have g7 := f6.trans f7
  simp -implicitDefEqProofs
  repeat apply Res.Good.bind
  refine (nwin_ok (k + 20) S7 o t (F7.at hS (by simp)) (by omega)).mono ?_
  rintro r S8 ⟨rfl, f8⟩
  have F8 := F7.trans f8
  have g8 := g7.trans f8
  have w8 := g8.at w5 (by simp)
  simp -implicitDefEqProofs [tuple_ref w8]
  repeat apply Res.Good.bind
  refine (same_self 1 (.tup (esD t.win)) (pl_es _ (by rw [t.win_len]; omega)) (k + 22) S8 (by omega)).mono ?_
  rintro r S9 ⟨rfl, f9⟩
  have F9 := F8.trans f9
  have g9 := g8.trans f9
  have w9 := f9.at w8 (by simp)
  have v9 := g9.at v5 (by simp)
  have e9 := g9.at e5 (by simp)
  have rep9 := rep5.keep g9 (by simp)
  simp -implicitDefEqProofs
  apply Fl.Nx.ret
  apply Res.Good.nx
  repeat apply Res.Good.bind
  refine (due_ok (k + 21) S9 S.length (S.length + 1) w (S.length + 2) nv t.ns t.es t.win t.out v9 e9 w9 (by rw [t.win_len, nl]) rep9 t.wf0 (by omega)).mono ?_
  rintro r S10 ⟨rfl, f10⟩
  have F10 := F9.trans f10
  rw [show due t.es t.win t.out t.ns = t.plan from rfl]
  simp -implicitDefEqProofs
  apply Fl.Ret.then_
  apply Res.Good.ret
  repeat apply Res.Good.bind
  refine (wplan_ok (k + 20) S10 o t (F10.at hS (by simp)) (by omega)).mono ?_
  rintro r S11 ⟨rfl, f11⟩
  have F11 := F10.trans f11
  have ll : t.plan.length ≤ 1000000 := by rw [(t.plan_v hw).1]; omega
  simp -implicitDefEqProofs
  repeat apply Res.Good.bind
  refine (same_self 1 _ (pl_pl t.plan ll) (k + 22) S11 (by omega)).mono ?_
  rintro r S12 ⟨rfl, f12⟩
  have F12 := F11.trans f12
  simp -implicitDefEqProofs
  repeat apply Res.Good.bind
  refine (isw_ok (k + 20) S12 o t t.plan t.out (F12.at hS (by simp)) (by omega) (t.plan_v hw)).mono ?_
  rintro r S13 ⟨rfl, f13⟩
  simp -implicitDefEqProofs [t.plan_wins hw, cmpD]
  exact F12.trans f13
end Mp.K42
end
section
set_option Elab.async false
set_option linter.all false
set_option maxHeartbeats 0
/-! K42Refd: _law_refused. -/
namespace Mp.K42
open PySem L2
theorem fn_refd : M.prg.fn "_law_refused" = some ⟨3, 4, c__law_refused⟩ := by kernel_rfl
theorem sub_pp : M.prg.sub "InvalidPlan" "InvalidPlan" = some true := by kernel_rfl
theorem sub_pt : M.prg.sub "InvalidPlan" "InvalidTerm" = some false := by kernel_rfl
theorem sub_po : M.prg.sub "InvalidPlan" "OutOfRange" = some false := by kernel_rfl
theorem sub_ps : M.prg.sub "InvalidPlan" "SizeMismatch" = some false := by kernel_rfl
theorem sub_pe : M.prg.sub "InvalidPlan" "ProofsError" = some true := by kernel_rfl
theorem sub_op : M.prg.sub "OutOfRange" "InvalidPlan" = some false := by kernel_rfl
theorem sub_oo : M.prg.sub "OutOfRange" "OutOfRange" = some true := by kernel_rfl
theorem sub_ot : M.prg.sub "OutOfRange" "InvalidTerm" = some false := by kernel_rfl
theorem sub_ol : M.prg.sub "OutOfRange" "TooLarge" = some false := by kernel_rfl
theorem sub_os : M.prg.sub "OutOfRange" "SizeMismatch" = some false := by kernel_rfl
theorem exf_p : M.prg.exf "InvalidPlan" "index" = true := by kernel_rfl
theorem out_no (k : Nat) (z : Int) (S : Sto) (h : ¬(0 ≤ z ∧ z ≤ 1)) : (lev M.prg (k + 1)).call "is_outcome" [.int z] S = .ok (.bl false) S := by
  rw [lev_call _ _ _ _ _ _ fn_out rfl]
  by_cases h0 : 0 ≤ z
  · have h1 : ¬(z ≤ 1) := fun q => h ⟨h0, q⟩
    simp -implicitDefEqProofs [c_is_outcome, h0, h1]
  · simp -implicitDefEqProofs [c_is_outcome, h0]
/-- the first m entries fit, the next one is wrong -/
def FirstBad (ns : List Nd) (pv : List D) (m : Nat) : Prop := (m < pv.length ∨ m < ns.length) ∧ (∀ i (g : i < m), ∃ (h : i < pv.length) (h' : i < ns.length), okEn ns[i].2.length pv[i]) ∧ badEn ns pv m
theorem isw_bad (k : Nat) (S : Sto) (o : Nat) (t : T) (pv : List D) (m : Nat) (g : D) (hS : S[o]? = some (.ins "Duel" (duelF t))) (bn : t.nn ≤ 100000) (bp : pv.length ≤ 100000) (hb : FirstBad t.ns pv m) :
    ((lev M.prg (k + 4)).call "is_winning" [.ref o, .tup pv, g] S).Exn fun x S' => x = ⟨"InvalidPlan", [(("index" : Str), .int m)]⟩ ∧ S' = S := by
  rw [lev_call _ _ _ _ _ _ fn_isw rfl]
  apply Fl.Exn.res
  simp -implicitDefEqProofs [c_is_winning]
  apply Fl.Exn.then_
  apply Res.Exn.fl
  exact req_bad k S o t pv m hS bn bp hb.1 hb.2.1 hb.2.2
theorem isw_range (k : Nat) (S : Sto) (o : Nat) (t : T) (pl : List (Option Nat)) (z : Int) (hS : S[o]? = some (.ins "Duel" (duelF t))) (bn : t.nn ≤ 100000) (hv : Vpl t.ns pl) (hz : ¬(0 ≤ z ∧ z ≤ 1)) :
    ((lev M.prg (k + 4)).call "is_winning" [.ref o, .tup (pl.map plE), .int z] S).Exn fun x S' => x = ⟨"OutOfRange", []⟩ ∧ S' = S := by
  rw [lev_call _ _ _ _ _ _ fn_isw rfl]
  apply Fl.Exn.res
  obtain ⟨r0, S0, q1, rfl, rfl⟩ := req_ok (k + 2) S o t (pl.map plE) hS (by simp [hv.1]) bn (plE_ok hv)
  simp -implicitDefEqProofs [c_is_winning, q1, out_no (k + 2) z S0 hz, exc_lev, exc_range, exnO]
theorem refd_let (k : Nat) (S : Sto) (o : Nat) (t : T) (pl : List (Option Nat)) (g : Bool) (hS : S[o]? = some (.ins "Duel" (duelF t))) (bn : t.nn ≤ 100000) (hv : Vpl t.ns pl) :
    ((lev M.prg (k + 5)).call "_law_refused" [.ref o, .tup (pl.map plE), .int (sg g)] S).Good fun r S' => r = .tup [.str "let", .int 0] ∧ Fr [] S S' := by
  rw [lev_call _ _ _ _ _ _ fn_refd rfl]
  apply Fl.Ret.good
  simp -implicitDefEqProofs [c__law_refused]
  apply Fl.Nx.ret
  apply Fl.Nx.catch_
  apply Fl.Nx.then_
  apply Res.Good.nx
  refine (isw_ok (k + 1) S o t pl g hS bn hv).mono ?_
  rintro r S1 ⟨rfl, f⟩
  simp -implicitDefEqProofs
  exact f
theorem refd_plan (k : Nat) (S : Sto) (o : Nat) (t : T) (pv : List D) (m : Nat) (g : D) (hS : S[o]? = some (.ins "Duel" (duelF t))) (bn : t.nn ≤ 100000) (bp : pv.length ≤ 100000) (hb : FirstBad t.ns pv m) :
    ((lev M.prg (k + 5)).call "_law_refused" [.ref o, .tup pv, g] S).Good fun r S' => r = .tup [.str "plan", .int m] ∧ S' = S := by
  rw [lev_call _ _ _ _ _ _ fn_refd rfl]
  apply Fl.Ret.good
  simp -implicitDefEqProofs [c__law_refused]
  apply Fl.Ret.then_
  apply Res.Exn.catch_
  refine (isw_bad k S o t pv m g hS bn bp hb).mono ?_
  rintro x S1 ⟨rfl, rfl⟩
  simp -implicitDefEqProofs [lev_sub, sub_pp, sub_pt, sub_po, sub_ps, sub_pe, lev_exf, exf_p, bornOk, Mp.unset, ifO, Fl.unset]
theorem refd_range (k : Nat) (S : Sto) (o : Nat) (t : T) (pl : List (Option Nat)) (z : Int) (hS : S[o]? = some (.ins "Duel" (duelF t))) (bn : t.nn ≤ 100000) (hv : Vpl t.ns pl) (hz : ¬(0 ≤ z ∧ z ≤ 1)) :
    ((lev M.prg (k + 5)).call "_law_refused" [.ref o, .tup (pl.map plE), .int z] S).Good fun r S' => r = .tup [.str "range", .int 0] ∧ S' = S := by
  rw [lev_call _ _ _ _ _ _ fn_refd rfl]
  apply Fl.Ret.good
  simp -implicitDefEqProofs [c__law_refused]
  apply Fl.Ret.then_
  apply Res.Exn.catch_
  refine (isw_range k S o t pl z hS bn hv hz).mono ?_
  rintro x S1 ⟨rfl, rfl⟩
  simp -implicitDefEqProofs [lev_sub, sub_op, sub_oo, sub_ot, sub_ol, sub_os, bornOk, Mp.unset, ifO, Fl.unset]
end Mp.K42
end
section
set_option Elab.async false
set_option linter.all false
set_option maxHeartbeats 0
/-! K42Reach: _law_reached. -/
namespace Mp.K42
open PySem L2
theorem flat_len {α : Type} (l : List Ch) (d : Ch) (P : Nat → Prop) [DecidablePred P] (g : Ch → List α) :
    ((List.range l.length).flatMap fun k => if P k then g (l.getD k d) else []).length ≤ (l.map fun c => (g c).length).sum := by
  induction l generalizing P with
  | nil => simp
  | cons c l ih =>
    have := ih (fun k => P (k + 1))
    rw [List.length_cons, List.range_succ_eq_map, List.flatMap_cons, List.flatMap_map, List.length_append]
    simp only [List.map_cons, List.sum_cons]
    have h1 : (if P 0 then g ((c :: l).getD 0 d) else []).length ≤ (g c).length := by split <;> simp
    have h2 : ((List.range l.length).flatMap fun k => if P k.succ then g ((c :: l).getD k.succ d) else []).length ≤ (l.map fun c => (g c).length).sum := by
      simpa using this
    omega
mutual
theorem len_R (NS : List Nd) (pl : List (Option Nat)) : ∀ (t : T) (n e f : Nat), (∀ i (h : i < (scan t n e).2.1.length), NS[n + i]? = some (scan t n e).2.1[i]) → (reach NS pl f (scan t n e).1).length ≤ t.nl
  | .leaf o, n, e, f, _ => by
    cases f with
    | zero => simp [reach]
    | succ f => simp [reach, scan, T.nl]
  | .node s ts, n, e, f, h => by
    cases f with
    | zero => simp [reach]
    | succ f =>
      have h0 := h 0 (by simp [scan])
      simp [scan] at h0
      have hn : NS.getD n (false, []) = (s, (scanL ts (n + 1) e).1) := by simp [List.getD, h0]
      simp only [reach, scan, if_true, hn, T.nl]
      refine Nat.le_trans (flat_len _ _ _ _) ?_
      refine len_RL NS pl ts (n + 1) e f fun i hi => ?_
      have := h (i + 1) (by simp [scan]; exact hi)
      simp [scan] at this
      rw [← this]; congr 1; omega
theorem len_RL (NS : List Nd) (pl : List (Option Nat)) : ∀ (ts : List T) (n e f : Nat), (∀ i (h : i < (scanL ts n e).2.1.length), NS[n + i]? = some (scanL ts n e).2.1[i]) → ((scanL ts n e).1.map fun c => (reach NS pl f c).length).sum ≤ nlL ts
  | [], n, e, f, _ => by simp [scanL]
  | t :: ts, n, e, f, h => by
    simp only [scanL, List.map_cons, List.sum_cons, nlL]
    have a1 := len_R NS pl t n e f fun i hi => by
      have := h i (by simp [scanL]; omega)
      rw [this]; simp [scanL, List.getElem_append_left hi]
    have a2 := len_RL NS pl ts (n + (scan t n e).2.1.length) (e + (scan t n e).2.2.length) f fun i hi => by
      have := h ((scan t n e).2.1.length + i) (by simp [scanL]; exact hi)
      rw [Nat.add_assoc, this]; simp [scanL, List.getElem_append_right]
    omega
end
mutual
theorem len_S (NS : List Nd) (pl : List (Option Nat)) : ∀ (t : T) (n e f : Nat), (∀ i (h : i < (scan t n e).2.1.length), NS[n + i]? = some (scan t n e).2.1[i]) → ∀ i, i < t.nn → (reach NS pl f (true, n + i)).length ≤ t.nl
  | .leaf o, n, e, f, _, i, hi => by simp [T.nn] at hi
  | .node s ts, n, e, f, h, i, hi => by
    cases i with
    | zero => exact len_R NS pl (.node s ts) n e f h
    | succ i =>
      simp only [T.nn, T.nl] at hi ⊢
      have := len_SL NS pl ts (n + 1) e f (fun i hi => by
        have := h (i + 1) (by simp [scan]; exact hi)
        simp [scan] at this
        rw [← this]; congr 1; omega) i (by omega)
      have h1 : n + (i + 1) = n + 1 + i := by omega
      rw [h1]; exact this
theorem len_SL (NS : List Nd) (pl : List (Option Nat)) : ∀ (ts : List T) (n e f : Nat), (∀ i (h : i < (scanL ts n e).2.1.length), NS[n + i]? = some (scanL ts n e).2.1[i]) → ∀ i, i < nnL ts → (reach NS pl f (true, n + i)).length ≤ nlL ts
  | [], n, e, f, _, i, hi => by simp [nnL] at hi
  | t :: ts, n, e, f, h, i, hi => by
    simp only [nnL, nlL] at hi ⊢
    by_cases h1 : i < t.nn
    · have a1 := len_S NS pl t n e f (fun i hi => by
        have := h i (by simp [scanL]; omega)
        rw [this]; simp [scanL, List.getElem_append_left hi]) i h1
      omega
    · have a2 := len_SL NS pl ts (n + (scan t n e).2.1.length) (e + (scan t n e).2.2.length) f (fun i hi => by
        have := h ((scan t n e).2.1.length + i) (by simp [scanL]; exact hi)
        rw [Nat.add_assoc, this]; simp [scanL, List.getElem_append_right]) (i - t.nn) (by omega)
      rw [scan_nn] at a2
      have h2 : n + t.nn + (i - t.nn) = n + i := by omega
      rw [h2] at a2
      omega
end
theorem T.reach_len (t : T) (pl : List (Option Nat)) (f i : Nat) (hi : i < t.ns.length) : (reach t.ns pl f (true, i)).length ≤ t.nl := by
  have := len_S t.ns pl t 0 0 f (fun i hi => by rw [Nat.zero_add]; exact List.getElem?_eq_getElem hi) i (by rw [← scan_nn t 0 0]; exact hi)
  simpa using this
theorem add_ref {S : Sto} {m n : Nat} {a b : List D} (h : S[m]? = some (.lst a)) (g : S[n]? = some (.lst b)) (hl : a.length + b.length ≤ 16777216) : binD .Add (.ref m) (.ref n) S = .ok (.ref S.length) (S ++ [.lst (a ++ b)]) := by
  have : a.length + b.length ≤ PySem.sizeLine := by
    have : PySem.sizeLine = 16777216 := by decide
    omega
  simp [binD, addD, h, g, this]
theorem fn_reach : M.prg.fn "_law_reached" = some ⟨3, 6, c__law_reached⟩ := by kernel_rfl
def natD (l : List Nat) : List D := l.map fun i => .int (i : Nat)
theorem natD_len (l : List Nat) : (natD l).length = l.length := by simp [natD]
theorem reach_ok (N L : Nat) (nv : List D) (ns : List Nd) (m : Nat) (pl : List (Option Nat)) (wf : Wf m ns 0 ns.length) (hv : Vpl ns pl) (hB : ∀ f i, i < ns.length → (reach ns pl f (true, i)).length ≤ 100000) (h12 : ∀ a ∈ ns, a.2.length ≤ 1000000) (k : Nat) :
    ∀ (f : Nat) (c : Ch) (S : Sto), S[N]? = some (.lst nv) → NRep S L nv ns → (if c.1 then ns.length < f + c.2 ∧ c.2 < ns.length else 0 < f) →
    ((lev M.prg (k + f)).call "_law_reached" [.ref N, chD c, .tup (pl.map plE)] S).Good fun r S' => ∃ w, r = .ref w ∧ S'[w]? = some (.lst (natD (reach ns pl f c))) ∧ Fr [] S S' := by
  intro f
  induction f with
  | zero =>
    intro c S _ _ hc
    by_cases h1 : c.1 = true
    · rw [if_pos h1] at hc; omega
    · rw [if_neg h1] at hc; omega
  | succ f ih =>
    intro c S hN rep hc
    rw [← Nat.add_assoc]
    rw [lev_call _ _ _ _ _ _ fn_reach rfl]
    apply Fl.Ret.good
    by_cases h1 : c.1 = true
    · rw [if_pos h1] at hc
      have h2 := hc.2
      have hn : ns.getD c.2 (false, []) = ns[c.2] := by simp [List.getD, h2]
      obtain ⟨r, q, g1, g2, g3, g4, g5, g6⟩ := rep.get c.2 h2
      have gg : L2.atI nv (c.2 : Int) = some (.ref r) := by rw [atI_nat, g1]
      have hpl : c.2 < pl.length := by rw [hv.1]; exact h2
      have hp : L2.atI (pl.map plE) (c.2 : Int) = some (plE pl[c.2]) := by rw [atI_nat]; simp [hpl]
      have hpd : pl.getD c.2 none = pl[c.2] := by simp [List.getD, hpl]
      obtain ⟨G, hG⟩ : ∃ G : Nat → List Nat, G = fun k => if pl[c.2] = none ∨ pl[c.2] = some k then reach ns pl f (ns[c.2].2.getD k (false, 0)) else [] := ⟨_, rfl⟩
      have hR : reach ns pl (f + 1) c = (List.range ns[c.2].2.length).flatMap G := by
        simp only [reach, h1, if_true, hn, hpd, hG]
      have hsg : sg true = 1 := rfl
      have g6' : ∀ S' : Sto, Fr [] S S' → S'[q]? = some (.lst (ns[c.2].2.map chD)) := fun S' f => f.at g6 (by simp)
      rw [hR]
      have f0 : Fr [] S (S ++ [O.lst []]) := Fr.app _ _ _
      simp -implicitDefEqProofs [c__law_reached, chD, ixD_tup, h1, hsg, ixD_ref hN, gg, ixD_ref g5, len_ref (g6' _ f0), rangeI_one ns[c.2].2.length (h12 _ (List.getElem_mem h2))]
      apply Fl.Nx.ret
      refine for_nx (fun i ρ S1 => ∃ w x, ρ = [some (.ref N), some (.tup [.int 1, .int c.2]), some (.tup (pl.map plE)), some (.ref q), some (.ref w), x] ∧ S1[w]? = some (.lst (natD ((List.range i).flatMap G))) ∧ Fr [] S S1) ?_ (fun _ _ _ _ => trivial) ?_ ?_
      · exact ⟨_, none, rfl, by simp [natD], f0⟩
      · rintro i hi ρ S1 ⟨w, x, rfl, w1, f1⟩
        have hi' : i < ns[c.2].2.length := by simpa using hi
        refine ⟨_, rfl, ?_⟩
        have hrs : (List.range (i + 1)).flatMap G = (List.range i).flatMap G ++ G i := by rw [List.range_succ, List.flatMap_append]; simp
        rw [hrs]
        have hcd : L2.atI (ns[c.2].2.map chD) (i : Int) = some (chD ns[c.2].2[i]) := by rw [atI_nat]; simp [hi']
        have hgd : ns[c.2].2.getD i (false, 0) = ns[c.2].2[i] := by simp [List.getD, hi']
        have hcc := wf.get c.2 h2 _ (List.getElem_mem hi')
        have hcond : if (ns[c.2].2[i]).1 then ns.length < f + (ns[c.2].2[i]).2 ∧ (ns[c.2].2[i]).2 < ns.length else 0 < f := by
          by_cases h3 : (ns[c.2].2[i]).1 = true
          · rw [if_pos h3] at hcc ⊢; omega
          · rw [if_neg h3]; omega
        have hsub : ((List.range i).flatMap G).length + (G i).length ≤ 100000 := by
          rw [← List.length_append, ← hrs]
          have hb := hB (f + 1) c.2 h2
          have hcc : c = (true, c.2) := by obtain ⟨a, b⟩ := c; simp at h1; simp [h1]
          rw [← hcc, hR] at hb
          refine Nat.le_trans ?_ hb
          obtain ⟨e, he⟩ : ∃ e, ns[c.2].2.length = (i + 1) + e := ⟨_, (Nat.add_sub_of_le hi').symm⟩
          rw [he]
          conv => rhs; rw [List.range_add, List.flatMap_append, List.length_append]
          omega
        have hrun : G i = reach ns pl f ns[c.2].2[i] → ((lev M.prg (k + f)).call "_law_reached" [.ref N, chD ns[c.2].2[i], .tup (pl.map plE)] S1).Good fun a S2 => (binD .Add (.ref w) a S2).Good fun r S' => ∃ w', r = .ref w' ∧ S'[w']? = some (.lst (natD ((List.range i).flatMap G ++ G i))) ∧ Fr [] S S' := by
          intro hGi
          refine (ih _ S1 (f1.at hN (by simp)) (rep.keep f1 (by simp)) hcond).mono ?_
          rintro r S2 ⟨w2, rfl, v2, f2⟩
          rw [← hGi] at v2
          rw [add_ref (f2.at w1 (by simp)) v2 (by rw [natD_len, natD_len]; omega)]
          simp
          refine ⟨by simp [natD], (f1.trans f2).trans (Fr.app _ _ _)⟩
        cases hpc : pl[c.2] with
        | none =>
          have hGi : G i = reach ns pl f ns[c.2].2[i] := by simp only [hG, hpc, true_or, if_true, hgd]
          rw [hpc] at hp
          simp only [plE] at hp
          simp -implicitDefEqProofs [p1__law_reached, ixD_tup, hp, ixD_ref (g6' _ f1), hcd]
          apply Fl.Nx.then_
          apply Fl.Nx.then_
          apply Res.Good.nx
          apply Res.Good.bind
          refine (hrun hGi).mono fun a S2 h => h.mono ?_
          rintro r S3 ⟨w', rfl, q1, q2⟩
          simp -implicitDefEqProofs
          exact ⟨q1, q2⟩
        | some j =>
          rw [hpc] at hp
          simp only [plE] at hp
          by_cases hji : j = i
          · have hGi : G i = reach ns pl f ns[c.2].2[i] := by simp only [hG, hpc, hji, or_true, if_true, hgd]
            simp -implicitDefEqProofs [p1__law_reached, ixD_tup, hp, hji, ixD_ref (g6' _ f1), hcd]
            apply Fl.Nx.then_
            apply Fl.Nx.then_
            apply Res.Good.nx
            apply Res.Good.bind
            refine (hrun hGi).mono fun a S2 h => h.mono ?_
            rintro r S3 ⟨w', rfl, q1, q2⟩
            simp -implicitDefEqProofs
            exact ⟨q1, q2⟩
          · have hGi : G i = [] := by
              have : ¬((some j : Option Nat) = none ∨ some j = some i) := by simp [hji]
              simp only [hG, hpc, if_neg this]
            have hji' : ¬((j : Int) = (i : Int)) := by omega
            simp -implicitDefEqProofs [p1__law_reached, ixD_tup, hp, hji', hGi]
            exact ⟨w1, f1⟩
      · rintro ρ S1 ⟨w, x, rfl, w1, f1⟩
        simp -implicitDefEqProofs
        exact ⟨by simpa using w1, f1⟩
    · rw [if_neg h1] at hc
      have hsg : sg false = 0 := rfl
      simp -implicitDefEqProofs [c__law_reached, chD, ixD_tup, h1, hsg, reach, natD]
      exact Fr.app _ _ _
end Mp.K42
end
section
set_option Elab.async false
set_option linter.all false
set_option maxHeartbeats 0
/-! K42Wrong: _law_wrong_plans. -/
namespace Mp.K42
open PySem L2
theorem fn_wrong : M.prg.fn "_law_wrong_plans" = some ⟨4, 9, c__law_wrong_plans⟩ := by kernel_rfl
theorem pl_say (x : Str) (i : Int) : Pl 1 (.tup [.str x, .int i]) := by
  refine .tup (by simp) ?_
  intro d hd
  simp at hd
  rcases hd with rfl | rfl
  · exact .str _
  · exact .int _
theorem cut_to (xs : List D) (a : Nat) (h : a ≤ xs.length) : cutD xs none (some (a : Int)) = xs.take a := by
  have := HT.sIx_nat xs.length xs.length a
  simp only [cutD, HT.sIx_none, this, Nat.min_eq_left h, List.drop_zero, Nat.sub_zero]
theorem cut_from (xs : List D) (a : Nat) (h : a ≤ xs.length) : cutD xs (some (a : Int)) none = xs.drop a := by
  have := HT.sIx_nat xs.length 0 a
  simp only [cutD, HT.sIx_none, this, Nat.min_eq_left h]
  exact List.take_of_length_le (by simp)
theorem list_tup (ds : List D) (S : Sto) : bltD .list [.tup ds] S = .ok (.ref S.length) (S ++ [.lst ds]) := rfl
theorem stt_o {S : Sto} {s n o : Nat} {c : Str} {fs : List (Str × D)} (h : Stt S s n) (g : S[o]? = some (.ins c fs)) : o ≠ s ∧ o ≠ n := by
  obtain ⟨a, xs, p, r, e, en, h⟩ := h
  constructor
  · rintro rfl; rw [e] at g; cases g
  · rintro rfl; rw [en] at g; cases g
theorem first_more (ns : List Nd) (pl : List (Option Nat)) (x : D) (hv : Vpl ns pl) : FirstBad ns (pl.map plE ++ [x]) ns.length := by
  refine ⟨Or.inl (by simp [hv.1]), fun i g => ⟨by simp [hv.1]; omega, g, ?_⟩, Or.inr (Or.inl (Nat.le_refl _))⟩
  rw [List.getElem_append_left (by simp [hv.1]; exact g)]
  exact plE_ok hv i (by simp [hv.1]; exact g) g
theorem first_cut (ns : List Nd) (pl : List (Option Nat)) (m : Nat) (hm : m < ns.length) (hv : Vpl ns pl) : FirstBad ns ((pl.map plE).take m) m := by
  refine ⟨Or.inr hm, fun i g => ⟨by simp [hv.1]; omega, by omega, ?_⟩, Or.inl (by simp; omega)⟩
  rw [List.getElem_take]
  exact plE_ok hv i (by simp [hv.1]; omega) (by omega)
theorem first_spoilt (ns : List Nd) (pl : List (Option Nat)) (m l : Nat) (z : Int) (hm : m < ns.length) (hl : m ≤ l) (hv : Vpl ns pl) (x : D) (hz : ¬(0 ≤ z ∧ z < ns[m].2.length)) : FirstBad ns (((pl.map plE).set l x).set m (.int z)) m := by
  refine ⟨Or.inr hm, fun i g => ⟨by simp [hv.1]; omega, by omega, ?_⟩, Or.inr (Or.inr ⟨by simp [hv.1]; omega, hm, z, by simp, hz⟩)⟩
  rw [List.getElem_set_ne (by omega), List.getElem_set_ne (by omega)]
  exact plE_ok hv i (by simp [hv.1]; omega) (by omega)
theorem wrong_ok (k : Nat) (S : Sto) (s n o N L : Nat) (nv : List D) (t : T) (pl : List (Option Nat)) (hs : Stt S s n) (hS : S[o]? = some (.ins "Duel" (duelF t))) (hN : S[N]? = some (.lst nv)) (rep : NRep S L nv t.ns) (hNs : N ≠ s) (hL : s < L) (bn : t.nn ≤ 1000) (h12 : ∀ a ∈ t.ns, a.2.length ≤ 12) (hv : Vpl t.ns pl) :
    ((lev M.prg (k + 6)).call "_law_wrong_plans" [.ref s, .ref o, .ref N, .tup (pl.map plE)] S).Good fun r S' => r = .bl true ∧ Fr [s] S S' ∧ Stt S' s n := by
  rw [lev_call _ _ _ _ _ _ fn_wrong rfl]
  apply Fl.Ret.good
  have nl : t.ns.length = t.nn := by rw [T.ns, scan_nn]
  have hl := rep.len
  have hos := (stt_o hs hS).1
  have kO : ∀ S', Fr [s] S S' → S'[o]? = some (.ins "Duel" (duelF t)) := fun S' f => f.at hS (by simp [hos])
  have kN : ∀ S', Fr [s] S S' → S'[N]? = some (.lst nv) := fun S' f => f.at hN (by simp [hNs])
  have kR : ∀ S', Fr [s] S S' → NRep S' L nv t.ns := fun S' f => rep.keep f (by simp [hL])
  have up : ∀ A B : Sto, Fr [] A B → Fr [s] A B := fun A B f => f.mono (by simp)
  simp -implicitDefEqProofs [c__law_wrong_plans]
  apply Fl.Nx.ret
  apply Res.Good.nx
  repeat with_reducible apply Res.Good.bind
  refine (pick_good (k + 4) _ s n 4 (hs.keep (Fr.app [] _ _) (by simp) (by simp)) (by omega) (by omega)).mono ?_
  rintro r S1 ⟨p, hp, rfl, f1, h1⟩
  have F1 : Fr [s] S S1 := (Fr.app [s] _ _).trans f1
  have ls := hs.ls
  have l1 : S1[S.length]? = some (.lst [.int 2, .int (-1), .int 3, .int 999999999]) := f1.at (by simp) (by simp; omega)
  obtain ⟨z, hz, hz2⟩ : ∃ z : Int, L2.atI [D.int 2, .int (-1), .int 3, .int 999999999] (p : Int) = some (.int z) ∧ ¬(0 ≤ z ∧ z ≤ 1) := by
    match p, hp with
    | 0, _ => exact ⟨2, rfl, by omega⟩
    | 1, _ => exact ⟨-1, rfl, by omega⟩
    | 2, _ => exact ⟨3, rfl, by omega⟩
    | 3, _ => exact ⟨999999999, rfl, by omega⟩
  simp -implicitDefEqProofs [ixD_ref l1, hz]
  apply Fl.Nx.ret
  apply Res.Good.nx
  repeat with_reducible apply Res.Good.bind
  refine (refd_range k S1 o t pl z (kO _ F1) (by omega) hv hz2).mono ?_
  rintro r S1' ⟨rfl, rfl⟩
  simp -implicitDefEqProofs
  repeat with_reducible apply Res.Good.bind
  refine (same_self 1 _ (pl_say _ _) (k + 4) S1' (by omega)).mono ?_
  rintro r S2 ⟨rfl, f2⟩
  have F2 := F1.trans (up _ _ f2)
  have h2 := h1.keep f2 (by simp) (by simp)
  simp -implicitDefEqProofs
  apply Fl.Nx.ret
  apply Res.Good.nx
  repeat with_reducible apply Res.Good.bind
  refine (pick_good (k + 4) _ s n 2 (h2.keep (Fr.app [] _ _) (by simp) (by simp)) (by omega) (by omega)).mono ?_
  rintro r S3 ⟨p3, hp3, rfl, f3, h3⟩
  have F3 : Fr [s] S S3 := F2.trans ((Fr.app [s] _ _).trans f3)
  have q2 := F2.1
  have l3 : S3[S2.length]? = some (.lst [.non, .int 0]) := f3.at (by simp) (by simp; omega)
  obtain ⟨x3, hx3⟩ : ∃ x, L2.atI [D.non, .int 0] (p3 : Int) = some x := by
    match p3, hp3 with
    | 0, _ => exact ⟨.non, rfl⟩
    | 1, _ => exact ⟨.int 0, rfl⟩
  have bl : (pl.map plE).length + 1 ≤ 16777216 := by simp [hv.1]; omega
  simp -implicitDefEqProofs [ixD_ref l3, hx3, add_tup1 _ (pl.map plE) _ bl]
  apply Fl.Nx.ret
  apply Res.Good.nx
  repeat with_reducible apply Res.Good.bind
  refine (pick_good (k + 4) _ s n 2 (h3.keep (Fr.app [] _ _) (by simp) (by simp)) (by omega) (by omega)).mono ?_
  rintro r S4 ⟨p4, hp4, rfl, f4, h4⟩
  have F4 : Fr [s] S S4 := F3.trans ((Fr.app [s] _ _).trans f4)
  have q3 := F3.1
  have l4 : S4[S3.length]? = some (.lst [.int z, .int 1]) := f4.at (by simp) (by simp; omega)
  obtain ⟨x4, hx4⟩ : ∃ x, L2.atI [D.int z, .int 1] (p4 : Int) = some x := by
    match p4, hp4 with
    | 0, _ => exact ⟨.int z, rfl⟩
    | 1, _ => exact ⟨.int 1, rfl⟩
  simp -implicitDefEqProofs [ixD_ref l4, hx4]
  repeat with_reducible apply Res.Good.bind
  refine (refd_plan k S4 o t (pl.map plE ++ [x3]) t.ns.length x4 (kO _ F4) (by omega) (by simp [hv.1]; omega) (first_more _ _ _ hv)).mono ?_
  rintro r S4' ⟨rfl, rfl⟩
  simp -implicitDefEqProofs [len_ref (kN _ F4), hl]
  repeat with_reducible apply Res.Good.bind
  refine (same_self 1 _ (pl_say _ _) (k + 4) S4' (by omega)).mono ?_
  rintro r S5 ⟨rfl, f5⟩
  have F5 := F4.trans (up _ _ f5)
  have h5 := h4.keep f5 (by simp) (by simp)
  by_cases h0 : t.ns.length = 0
  · simp -implicitDefEqProofs [len_ref (kN _ F5), hl, h0]
    exact ⟨F5, h5⟩
  simp -implicitDefEqProofs [len_ref (kN _ F5), hl, h0]
  apply Fl.Nx.ret
  apply Res.Good.nx
  repeat with_reducible apply Res.Good.bind
  refine (pick_good (k + 4) _ s n t.ns.length h5 (by omega) (by omega)).mono ?_
  rintro r S6 ⟨m, hm, rfl, f6, h6⟩
  have F6 := F5.trans f6
  have hsub : (t.ns.length : Int) - (m : Int) = ((t.ns.length - m : Nat) : Int) := by omega
  simp -implicitDefEqProofs [len_ref (kN _ F6), hl, hsub]
  apply Fl.Nx.ret
  apply Res.Good.nx
  repeat with_reducible apply Res.Good.bind
  refine (pick_good (k + 4) _ s n (t.ns.length - m) h6 (by omega) (by omega)).mono ?_
  rintro r S7 ⟨q, hq, rfl, f7, h7⟩
  have F7 := F6.trans f7
  have q7 := F7.1
  obtain ⟨lt, hlt⟩ : ∃ lt, lt = m + q := ⟨_, rfl⟩
  have hadd : (m : Int) + (q : Int) = (lt : Int) := by omega
  have l8 : (S7 ++ [O.lst (pl.map plE)])[S7.length]? = some (.lst (pl.map plE)) := by simp
  have ix8 : L2.ixN pl.length (lt : Int) = some lt := ixN_nat _ _ (by rw [hv.1]; omega)
  have F9 : Fr [s] S (S7 ++ [O.lst ((pl.map plE).set lt (.int 12))]) := F7.trans (Fr.app _ _ _)
  have h9 : Stt (S7 ++ [O.lst ((pl.map plE).set lt (.int 12))]) s n := h7.keep (Fr.app [] _ _) (by simp) (by simp)
  have l9 : (S7 ++ [O.lst ((pl.map plE).set lt (.int 12))])[S7.length]? = some (.lst ((pl.map plE).set lt (.int 12))) := by simp
  have hS9 : (S7 ++ [O.lst ((pl.map plE).set lt (.int 12))]).length = S7.length + 1 := by simp
  obtain ⟨r9, q9, g1, g2, g3, g4, g5, g6⟩ := (kR _ F9).get m hm
  have gg : L2.atI nv (m : Int) = some (.ref r9) := by rw [atI_nat, g1]
  simp -implicitDefEqProofs [hadd, list_tup, setD_ref l8, ix8]
  generalize S7 ++ [O.lst ((pl.map plE).set lt (.int 12))] = S9 at *
  simp -implicitDefEqProofs [ixD_ref (kN _ F9), gg, ixD_ref g5, len_ref g6]
  apply Fl.Nx.ret
  apply Res.Good.nx
  repeat with_reducible apply Res.Good.bind
  refine (pick_good (k + 4) _ s n 3 (h9.keep (Fr.app [] _ _) (by simp) (by simp)) (by omega) (by omega)).mono ?_
  rintro r S10 ⟨p10, hp10, rfl, f10, h10⟩
  have F10 : Fr [s] S S10 := F9.trans ((Fr.app [s] _ _).trans f10)
  have l10 : S10[S9.length]? = some (.lst [.int t.ns[m].2.length, .int (-1), .int 12]) := f10.at (by simp) (by simp; omega)
  have m10 : S10[S7.length]? = some (.lst ((pl.map plE).set lt (.int 12))) := f10.at ((Fr.app [] S9 _).at l9 (by simp)) (by simp; omega)
  have h12m := h12 _ (List.getElem_mem hm)
  obtain ⟨y, hy, hy2⟩ : ∃ y : Int, L2.atI [D.int t.ns[m].2.length, .int (-1), .int 12] (p10 : Int) = some (.int y) ∧ ¬(0 ≤ y ∧ y < t.ns[m].2.length) := by
    match p10, hp10 with
    | 0, _ => exact ⟨t.ns[m].2.length, rfl, by omega⟩
    | 1, _ => exact ⟨-1, rfl, by omega⟩
    | 2, _ => exact ⟨12, rfl, by omega⟩
  have ix10 : L2.ixN pl.length (m : Int) = some m := ixN_nat _ _ (by rw [hv.1]; omega)
  have F11 : Fr [s] S (S10.set S7.length (.lst (((pl.map plE).set lt (.int 12)).set m (.int y)))) := F10.trans_fresh (Fr.set (W := [S7.length]) _ _ (by simp)) (by simp; omega)
  have h11 : Stt (S10.set S7.length (.lst (((pl.map plE).set lt (.int 12)).set m (.int y)))) s n := h10.keep (Fr.set (W := [S7.length]) _ _ (by simp)) (by simp; omega) (by simp; have := hs.ls; omega)
  have m11 := set_self m10 (.lst (((pl.map plE).set lt (.int 12)).set m (.int y)))
  simp -implicitDefEqProofs [ixD_ref l10, hy, setD_ref m10, ix10]
  generalize S10.set S7.length (.lst (((pl.map plE).set lt (.int 12)).set m (.int y))) = S11 at *
  simp -implicitDefEqProofs [tuple_ref m11]
  apply Fl.Nx.ret
  apply Res.Good.nx
  repeat with_reducible apply Res.Good.bind
  refine (refd_plan k S11 o t _ m (.int z) (kO _ F11) (by omega) (by simp [hv.1]; omega) (first_spoilt t.ns pl m lt y hm (by omega) hv (.int 12) hy2)).mono ?_
  rintro r S11' ⟨rfl, rfl⟩
  simp -implicitDefEqProofs
  repeat with_reducible apply Res.Good.bind
  refine (same_self 1 _ (pl_say _ _) (k + 4) S11' (by omega)).mono ?_
  rintro r S12 ⟨rfl, f12⟩
  have F12 := F11.trans (up _ _ f12)
  have h12' := h11.keep f12 (by simp) (by simp)
  have ct := cut_to (pl.map plE) m (by simp [hv.1]; omega)
  simp -implicitDefEqProofs [ct]
  apply Fl.Ret.then_
  apply Res.Good.ret
  repeat with_reducible apply Res.Good.bind
  refine (refd_plan k S12 o t _ m (.int 0) (kO _ F12) (by omega) (by simp [hv.1]; omega) (first_cut t.ns pl m hm hv)).mono ?_
  rintro r S12' ⟨rfl, rfl⟩
  simp -implicitDefEqProofs
  refine (same_self 1 _ (pl_say _ _) (k + 4) S12' (by omega)).mono ?_
  rintro r S13 ⟨rfl, f13⟩
  simp
  exact ⟨F12.trans (up _ _ f13), h12'.keep f13 (by simp) (by simp)⟩
end Mp.K42
end
section
set_option Elab.async false
set_option linter.all false
set_option maxHeartbeats 0
/-! K42Plays: _law_plays. -/
namespace Mp.K42
open PySem L2
theorem reach_in (ns : List Nd) (pl : List (Option Nat)) (m : Nat) (wf : Wf m ns 0 ns.length) : ∀ f c, (if c.1 then c.2 < ns.length else c.2 < m) → ∀ l ∈ reach ns pl f c, l < m := by
  intro f
  induction f with
  | zero => intro c _ l hl; simp [reach] at hl
  | succ f ih =>
    intro c hc l hl
    by_cases h1 : c.1 = true
    · rw [if_pos h1] at hc
      have hn : ns.getD c.2 (false, []) = ns[c.2] := by simp [List.getD, hc]
      simp only [reach, h1, if_true, hn, List.mem_flatMap, List.mem_range] at hl
      obtain ⟨k, hk, hl⟩ := hl
      split at hl
      · have hgd : ns[c.2].2.getD k (false, 0) = ns[c.2].2[k] := by simp [List.getD, hk]
        rw [hgd] at hl
        refine ih _ ?_ l hl
        have := wf.get c.2 hc _ (List.getElem_mem hk)
        by_cases h3 : (ns[c.2].2[k]).1 = true
        · rw [if_pos h3] at this ⊢; omega
        · rw [if_neg h3] at this ⊢; exact this
      · simp at hl
    · rw [if_neg h1] at hc
      simp [reach, h1] at hl
      omega
theorem fn_plays : M.prg.fn "_law_plays" = some ⟨3, 16, c__law_plays⟩ := by kernel_rfl
/-- one plan tried -/
theorem turn_plan (k : Nat) (S : Sto) (o N E L : Nat) (nv : List D) (t : T) (pl : List (Option Nat)) (x0 x6 x7 x8 x9 x10 x12 x13 x14 x15 : Option D) (hS : S[o]? = some (.ins "Duel" (duelF t))) (hN : S[N]? = some (.lst nv)) (hE : S[E]? = some (.lst (esD t.es))) (rep : NRep S L nv t.ns)
    (bn : t.nn ≤ 50) (bl : t.nl ≤ 100000) (h12 : ∀ a ∈ t.ns, a.2.length ≤ 12) (hv : Vpl t.ns pl) :
    (evSs (lev M.prg (k + 59)) none p3__law_plays [x0, some (.ref o), some t.d, some (.ref N), some (.ref E), some (chD t.rt), x6, x7, x8, x9, x10, some (.tup (pl.map plE)), x12, x13, x14, x15] S).Nx fun ρ S' => Fr [] S S' ∧ ∃ y13 y14, ρ = [x0, some (.ref o), some t.d, some (.ref N), some (.ref E), some (chD t.rt), x6, x7, x8, x9, x10, some (.tup (pl.map plE)), x12, y13, y14, x15] := by
  have nl : t.ns.length = t.nn := by rw [T.ns, scan_nn]
  have el : t.es.length = t.nl := by rw [T.es, scan_nl]
  have hri : if t.rt.1 then t.rt.2 < t.ns.length else t.rt.2 < t.es.length := by
    have := root_in t t.win t.win_len
    rw [t.win_len, ← nl] at this
    exact this
  have hc1 : if t.rt.1 then t.ns.length < 52 + t.rt.2 ∧ t.rt.2 < t.ns.length else 0 < 52 := by
    by_cases h : t.rt.1 = true
    · rw [if_pos h] at hri ⊢; omega
    · rw [if_neg h]; omega
  have hc2 : if t.rt.1 then t.ns.length < 52 + t.rt.2 ∧ t.rt.2 < t.ns.length else 0 < 52 ∧ t.rt.2 < t.es.length := by
    by_cases h : t.rt.1 = true
    · rw [if_pos h] at hri ⊢; omega
    · rw [if_neg h] at hri ⊢; exact ⟨by omega, hri⟩
  simp -implicitDefEqProofs [p3__law_plays]
  apply Fl.Nx.then_
  apply Res.Good.nx
  refine (reach_ok N L nv t.ns t.es.length pl t.wf0 hv (fun f i hi => Nat.le_trans (t.reach_len pl f i hi) bl) (fun a ha => Nat.le_trans (h12 a ha) (by omega)) (k + 7) 52 t.rt S hN rep hc1).mono ?_
  rintro r S1 ⟨w, rfl, w1, f1⟩
  have hin := reach_in t.ns pl t.es.length t.wf0 52 t.rt hri
  have hall := fun g => reach_all t.es g t.ns pl t.wf0 hv 52 t.rt hc2
  generalize reach t.ns pl 52 t.rt = R at *
  simp -implicitDefEqProofs [rangeI_one 2 (by omega)]
  have r2 := rangeI_one 2 (by omega)
  simp at r2
  simp -implicitDefEqProofs [r2]
  apply Fl.Nx.then_
  refine for_nx (fun i ρ S' => Fr [] S S' ∧ S'[w]? = some (.lst (natD R)) ∧ ∃ y14, ρ = [x0, some (.ref o), some t.d, some (.ref N), some (.ref E), some (chD t.rt), x6, x7, x8, x9, x10, some (.tup (pl.map plE)), x12, some (.ref w), y14, x15]) ⟨f1, w1, x14, rfl⟩ (fun _ _ _ _ => trivial) ?_ ?_
  · rintro i hi ρ S2 ⟨f2, w2, y, rfl⟩
    have hi' : i < 2 := by simpa using hi
    obtain ⟨g, hg⟩ := sg_pick i hi'
    refine ⟨_, rfl, ?_⟩
    have hgi : (rangeL 0 1 2)[i]'hi = .int (sg g) := by rw [rangeL_get]; simp [← hg]
    rw [hgi]
    simp -implicitDefEqProofs [p2__law_plays]
    apply Fl.Nx.then_
    apply Res.Good.nx
    repeat with_reducible apply Res.Good.bind
    refine (isw_ok (k + 56) S2 o t pl g (f2.at hS (by simp)) (by omega) hv).mono ?_
    rintro r S3 ⟨rfl, f3⟩
    have w3 := f3.at w2 (by simp)
    have F3 := f2.trans f3
    have e3 := F3.at hE (by simp)
    simp -implicitDefEqProofs [seqI_ref w3]
    repeat with_reducible apply Res.Good.bind
    refine lc_good (blD (R.map fun l => decide (t.es.getD l false = g))) (fun _ S' => S' = S3) rfl (fun _ S' h => by rw [h]; exact w3) (by simp [blD, natD]) ?_ ?_
    · rintro j hj S' rfl
      have hj' : j < R.length := by simpa [natD] using hj
      have hget : (natD R)[j] = .int (R[j] : Nat) := by simp [natD]
      rw [hget]
      have he := esD_get t.es R[j] (hin _ (List.getElem_mem hj'))
      simp -implicitDefEqProofs [p1__law_plays, ixD_ref e3, he, sg_inj, blD]
    rintro S' rfl
    have hal := all_new (blD (R.map fun l => decide (t.es.getD l false = g))) _ S' (blsOf_bl _)
    have h5 : (R.map fun l => decide (t.es.getD l false = g)).all id = val (t.rch g) (t.kp g pl) t.rt := by
      rw [List.all_map]; exact hall g
    rw [h5] at hal
    simp -implicitDefEqProofs only [Res.good_ok, hal]
    simp -implicitDefEqProofs
    refine (same_self 0 _ (.bl _) (k + 58) _ (by omega)).mono ?_
    rintro r S4 ⟨rfl, f4⟩
    have F4 := (F3.trans (Fr.app _ _ _)).trans f4
    simp -implicitDefEqProofs
    exact ⟨F4, f4.at ((Fr.app [] S' _).at w3 (by simp)) (by simp)⟩
  · rintro ρ S2 ⟨f2, w2, y, rfl⟩
    simp -implicitDefEqProofs
    exact f2
end Mp.K42
end
section
set_option Elab.async false
set_option linter.all false
set_option maxHeartbeats 0
/-! K42Plays2: _law_plays, whole. -/
namespace Mp.K42
open PySem L2
mutual
theorem h12_T : ∀ (t : T) n e, t.wf → ∀ a ∈ (scan t n e).2.1, a.2.length ≤ 12
  | .leaf o, n, e, _ => by simp [scan]
  | .node s ts, n, e, h => by
    intro a ha
    simp [scan] at ha
    rcases ha with rfl | ha
    · have := scanL_len ts (n + 1) e
      have h1 := h.2.1
      simp only
      omega
    · exact h12_L ts (n + 1) e h.2.2 a ha
theorem h12_L : ∀ (ts : List T) n e, wfL ts → ∀ a ∈ (scanL ts n e).2.1, a.2.length ≤ 12
  | [], n, e, _ => by simp [scanL]
  | t :: ts, n, e, h => by
    intro a ha
    simp [scanL] at ha
    rcases ha with ha | ha
    · exact h12_T t n e h.1 a ha
    · exact h12_L ts _ _ h.2 a ha
end
theorem T.h12 (t : T) (h : t.wf) : ∀ a ∈ t.ns, a.2.length ≤ 12 := h12_T t 0 0 h
theorem Vpl.set {ns : List Nd} {pl : List (Option Nat)} (hv : Vpl ns pl) (m : Nat) (h : m < ns.length) (x : Option Nat) (hx : ∀ j, x = some j → j < ns[m].2.length) : Vpl ns (pl.set m x) := by
  refine ⟨by simp [hv.1], fun i hi j hj => ?_⟩
  by_cases hmi : m = i
  · subst hmi
    have : m < pl.length := by rw [hv.1]; exact h
    simp [this] at hj
    exact hx j hj
  · rw [List.getElem?_set_ne hmi] at hj
    exact hv.2 i hi j hj
theorem cut_from1 (xs : List D) (a : Nat) (h : a < xs.length) : cutD xs (some ((a : Int) + 1)) none = xs.drop (a + 1) := by
  have := cut_from xs (a + 1) h
  rw [← this]; rfl
theorem add_tup (a b : List D) (S : Sto) (h : a.length + b.length ≤ 16777216) : binD .Add (.tup a) (.tup b) S = .ok (.tup (a ++ b)) S := by
  have : a.length + b.length ≤ PySem.sizeLine := by
    have : PySem.sizeLine = 16777216 := by decide
    omega
  simp only [binD, addD]
  rw [if_pos this]
theorem plays_ok (k : Nat) (S : Sto) (s n o : Nat) (t : T) (hs : Stt S s n) (hS : S[o]? = some (.ins "Duel" (duelF t))) (hd : t.dep ≤ 20) (hw : t.wf) (bn : t.nn ≤ 50) (bl : t.nl ≤ 200) :
    ((lev M.prg (k + 60)).call "_law_plays" [.ref s, .ref o, t.d] S).Good fun r S' => r = .bl true ∧ Fr [s] S S' ∧ Stt S' s n := by
  rw [lev_call _ _ _ _ _ _ fn_plays rfl]
  apply Fl.Ret.good
  have nl : t.ns.length = t.nn := by rw [T.ns, scan_nn]
  have el : t.es.length = t.nl := by rw [T.es, scan_nl]
  have hos := (stt_o hs hS).1
  have ls := hs.ls
  have lo := lt_at hS
  have up : ∀ A B : Sto, Fr [] A B → Fr [s] A B := fun A B f => f.mono (by simp)
  simp -implicitDefEqProofs [c__law_plays]
  apply Fl.Nx.ret
  apply Res.Good.nx
  have hsc : _root_.Mp.Res.Good _ (ScanOk (S ++ [O.lst [], O.lst []]) S.length (S.length + 1) [] [] t.rt t.ns t.es) := scan_ok (k + 58) t (S ++ [O.lst [], O.lst []]) S.length (S.length + 1) [] [] (by omega) (by simp) (by simp) (by omega) (by simp; omega) (by simp; omega)
  refine hsc.mono ?_
  rintro r S1 ⟨rfl, f1, nv, v1, e1, rep⟩
  have F1 : Fr [] S S1 := (Fr.app [] S _).trans_fresh f1 (by simp)
  have rep : NRep S1 (S.length + 2) nv t.ns := by simpa using rep
  simp at v1 e1
  have hl := rep.len
  have s1 := hs.keep F1 (by simp) (by simp)
  simp -implicitDefEqProofs
  apply Fl.Nx.ret
  apply Res.Good.nx
  refine (winners_ok (k + 57) S1 S.length (S.length + 1) (S.length + 2) nv t.ns t.es v1 e1 rep t.wf0 (by omega)).mono ?_
  rintro r S2 ⟨w, rfl, hw2, w2, f2⟩
  have w2 : S2[w]? = some (.lst (esD t.win)) := w2
  have F2 := F1.trans f2
  have e2 := f2.at e1 (by simp)
  have v2 := f2.at v1 (by simp)
  have rep2 := rep.keep f2 (by simp)
  have hat : (lev M.prg (k + 59)).call "_law_at" [chD t.rt, .ref w, .ref (S.length + 1)] S2 = .ok (.int (sg t.out)) S2 := at_ok (k + 58) t.rt S2 w (S.length + 1) t.es t.win w2 e2 (root_in t _ t.win_len)
  simp -implicitDefEqProofs [hat]
  apply Fl.Nx.ret
  apply Res.Good.nx
  refine (due_ok (k + 57) S2 S.length (S.length + 1) w (S.length + 2) nv t.ns t.es t.win t.out v2 e2 w2 (by rw [t.win_len, nl]) rep2 t.wf0 (by omega)).mono ?_
  rintro r S3 ⟨rfl, f3⟩
  have F3 := F2.trans f3
  have v3 := f3.at v2 (by simp)
  have e3 := f3.at e2 (by simp)
  have rep3 := rep2.keep f3 (by simp)
  have s3 := hs.keep F3 (by simp) (by simp)
  rw [show due t.es t.win t.out t.ns = t.plan from rfl]
  have hdv := t.plan_v hw
  generalize t.plan = dp at *
  simp -implicitDefEqProofs [seqI_ref v3]
  apply Fl.Nx.ret
  have K : ∀ S', Fr [s] S3 S' → S'[o]? = some (.ins "Duel" (duelF t)) ∧ S'[S.length]? = some (.lst nv) ∧ S'[S.length + 1]? = some (.lst (esD t.es)) ∧ NRep S' (S.length + 2) nv t.ns := fun S' f =>
    ⟨f.at (F3.at hS (by simp)) (by simp [hos]), f.at v3 (by simp; omega), f.at e3 (by simp; omega), rep3.keep f (by simp; omega)⟩
  refine for_nx (fun i ρ S' => Fr [s] S3 S' ∧ Stt S' s n ∧ ∃ (pl : List (Option Nat)) (x9 : Option D), pl.length = i ∧ (∀ i' (h : i' < t.ns.length) j, pl[i']? = some (some j) → j < t.ns[i'].2.length) ∧ ρ = [some (.ref s), some (.ref o), some t.d, some (.ref S.length), some (.ref (S.length + 1)), some (chD t.rt), some (.ref w), some (.tup (dp.map plE)), some (.tup (pl.map plE)), x9, none, none, none, none, none, none]) ?_ (fun _ _ _ h => (K _ h.1).2.1) ?_ ?_
  · exact ⟨Fr.refl _ _, s3, [], none, rfl, by simp, by simp⟩
  · rintro i hi ρ S4 ⟨f4, s4, pl, x9, hpl, hpv, rfl⟩
    have hi' : i < t.ns.length := by omega
    obtain ⟨k1, k2, k3, k4⟩ := K _ f4
    obtain ⟨r, q, g1, g2, g3, g4, g5, g6⟩ := k4.get i hi'
    have gg : nv[i] = .ref r := by
      have := List.getElem?_eq_getElem hi
      rw [g1] at this; exact (Option.some.inj this).symm
    refine ⟨_, rfl, ?_⟩
    rw [gg]
    have hne := List.length_pos_iff.2 (t.ns_ne hw i hi')
    have h12 := t.h12 hw _ (List.getElem_mem hi')
    simp -implicitDefEqProofs [p4__law_plays, ixD_ref g5, len_ref g6]
    apply Fl.Nx.then_
    apply Res.Good.nx
    repeat with_reducible apply Res.Good.bind
    refine (pick_good (k + 58) S4 s n t.ns[i].2.length s4 hne (by omega)).mono ?_
    rintro r S5 ⟨j, hj, rfl, f5, s5⟩
    simp -implicitDefEqProofs
    repeat with_reducible apply Res.Good.bind
    refine (pick_good (k + 58) _ s n 2 (s5.keep (Fr.app [] _ _) (by simp) (by simp)) (by omega) (by omega)).mono ?_
    rintro r S6 ⟨b, hb, rfl, f6, s6⟩
    have q4 := f4.1
    have q5 := f5.1
    have q3 := F3.1
    have l6 : S6[S5.length]? = some (.lst [.non, .int j]) := f6.at (by simp) (by simp; omega)
    obtain ⟨xo, hxo, hxj⟩ : ∃ xo : Option Nat, L2.atI [D.non, .int j] (b : Int) = some (plE xo) ∧ ∀ j', xo = some j' → j' < t.ns[i].2.length := by
      match b, hb with
      | 0, _ => exact ⟨none, rfl, by simp⟩
      | 1, _ => exact ⟨some j, rfl, by simpa using hj⟩
    simp -implicitDefEqProofs [ixD_ref l6, hxo, add_tup1 _ (pl.map plE) _ (show (pl.map plE).length + 1 ≤ 16777216 by rw [List.length_map]; omega)]
    refine ⟨((f4.trans f5).trans (Fr.app _ _ _)).trans f6, s6, pl ++ [xo], by simp [hpl], ?_, by simp⟩
    intro i' hi'' j' hj'
    by_cases h7 : i' < pl.length
    · rw [List.getElem?_append_left h7] at hj'
      exact hpv i' hi'' j' hj'
    · have h8 : i' = i := by
        have := (List.getElem?_eq_some_iff.1 hj').1
        simp at this; omega
      subst h8
      rw [List.getElem?_append_right (by omega)] at hj'
      simp [hpl] at hj'
      exact hxj j' hj'
  · rintro ρ S4 ⟨f4, s4, pl, x9, hpl, hpv, rfl⟩
    have hv : Vpl t.ns pl := ⟨by omega, hpv⟩
    obtain ⟨k1, k2, k3, k4⟩ := K _ f4
    have q4 := f4.1
    have q3 := F3.1
    -- behind the drawing: the end, for whatever bent plan
    have fin : ∀ (S5 : Sto) (bp : List (Option Nat)) (x12 : Option D), Fr [s] S3 S5 → Stt S5 s n → Vpl t.ns bp →
        (evSs (lev M.prg (k + 59)) none (.cons (.for_ (.name 11) (.seq (.lst (.cons (.var 7) (.cons (.var 8) (.cons (.var 10) .nil))))) p3__law_plays)
 (.cons (.ret (.and (.cons (.call "_law_wrong_plans" (.cons (.var 0) (.cons (.var 1) (.cons (.var 3) (.cons (.var 8) .nil))))) (.cons (.call "_law_same" (.cons (.call "_law_refused" (.cons (.var 1) (.cons (.var 8) (.cons (.int 1) .nil)))) (.cons (.tup (.cons (.str "let") (.cons (.int 0) .nil))) .nil))) .nil))))
 .nil)) [some (.ref s), some (.ref o), some t.d, some (.ref S.length), some (.ref (S.length + 1)), some (chD t.rt), some (.ref w), some (.tup (dp.map plE)), some (.tup (pl.map plE)), x9, some (.tup (bp.map plE)), none, x12, none, none, none] S5).Ret fun r S' => r = .bl true ∧ Fr [s] S S' ∧ Stt S' s n := by
      intro S5 bp x12 f5 s5 hbv
      have q5 := f5.1
      have seq5 : seqI (.ref S5.length) (S5 ++ [O.lst [.tup (dp.map plE), .tup (pl.map plE), .tup (bp.map plE)]]) = some ⟨[.tup (dp.map plE), .tup (pl.map plE), .tup (bp.map plE)], fun S' => S'[S5.length]? = some (.lst [.tup (dp.map plE), .tup (pl.map plE), .tup (bp.map plE)])⟩ := seqI_ref (by simp)
      simp -implicitDefEqProofs [seq5]
      apply Fl.Nx.ret
      refine for_nx (fun i ρ S' => Fr [] S5 S' ∧ S'[S5.length]? = some (.lst [.tup (dp.map plE), .tup (pl.map plE), .tup (bp.map plE)]) ∧ ∃ x11 x13 x14, ρ = [some (.ref s), some (.ref o), some t.d, some (.ref S.length), some (.ref (S.length + 1)), some (chD t.rt), some (.ref w), some (.tup (dp.map plE)), some (.tup (pl.map plE)), x9, some (.tup (bp.map plE)), x11, x12, x13, x14, none]) ?_ (fun _ _ _ h => h.2.1) ?_ ?_
      · exact ⟨Fr.app _ _ _, by simp, none, none, none, rfl⟩
      · rintro i hi ρ S6 ⟨f6, v6, x11, x13, x14, rfl⟩
        have F6 := f5.trans (up _ _ f6)
        obtain ⟨k1, k2, k3, k4⟩ := K _ F6
        obtain ⟨cp, hcp, hcv⟩ : ∃ cp : List (Option Nat), [D.tup (dp.map plE), .tup (pl.map plE), .tup (bp.map plE)][i]'hi = .tup (cp.map plE) ∧ Vpl t.ns cp := by
          match i, hi with
          | 0, _ => exact ⟨dp, rfl, hdv⟩
          | 1, _ => exact ⟨pl, rfl, hv⟩
          | 2, _ => exact ⟨bp, rfl, hbv⟩
        refine ⟨_, rfl, ?_⟩
        rw [hcp]
        obtain ⟨ρ', S', h1, h2, y13, y14, rfl⟩ := turn_plan k S6 o S.length (S.length + 1) (S.length + 2) nv t cp (some (.ref s)) (some (.ref w)) (some (.tup (dp.map plE))) (some (.tup (pl.map plE))) x9 (some (.tup (bp.map plE))) x12 x13 x14 none k1 k2 k3 k4 bn (by omega) (t.h12 hw) hcv
        exact ⟨_, S', h1, f6.trans h2, h2.at v6 (by simp), _, _, _, rfl⟩
      · rintro ρ S6 ⟨f6, v6, x11, x13, x14, rfl⟩
        have F6 := f5.trans (up _ _ f6)
        obtain ⟨k1, k2, k3, k4⟩ := K _ F6
        simp -implicitDefEqProofs
        apply Fl.Ret.then_
        apply Res.Good.ret
        repeat with_reducible apply Res.Good.bind
        refine (wrong_ok (k + 53) S6 s n o S.length (S.length + 2) nv t pl (s5.keep f6 (by simp) (by simp)) k1 k2 k4 (by omega) (by omega) (by omega) (t.h12 hw) hv).mono ?_
        rintro r S7 ⟨rfl, f7, s7⟩
        have F7 := F6.trans f7
        simp -implicitDefEqProofs
        repeat with_reducible apply Res.Good.bind
        refine (refd_let (k + 54) S7 o t pl true (K _ F7).1 (by omega) hv).mono ?_
        rintro r S8 ⟨rfl, f8⟩
        simp -implicitDefEqProofs
        refine (same_self 1 _ (pl_say _ _) (k + 58) S8 (by omega)).mono ?_
        rintro r S9 ⟨rfl, f9⟩
        simp
        exact ⟨((up _ _ F3).trans F7).trans (up _ _ (f8.trans f9)), (s7.keep f8 (by simp) (by simp)).keep f9 (by simp) (by simp)⟩
    by_cases h0 : 0 < t.ns.length
    · simp -implicitDefEqProofs [len_ref k2, hl, h0]
      apply Fl.Nx.ret
      apply Fl.Nx.then_
      apply Res.Good.nx
      refine (pick_good (k + 58) S4 s n t.ns.length s4 h0 (by omega)).mono ?_
      rintro r S5 ⟨m, hm, rfl, f5, s5⟩
      have F5 := f4.trans f5
      obtain ⟨k1, k2, k3, k4⟩ := K _ F5
      obtain ⟨r, q, g1, g2, g3, g4, g5, g6⟩ := k4.get m hm
      have gg : L2.atI nv (m : Int) = some (.ref r) := by rw [atI_nat, g1]
      have hne := List.length_pos_iff.2 (t.ns_ne hw m hm)
      have h12 := t.h12 hw _ (List.getElem_mem hm)
      have dl : (dp.map plE).length = t.ns.length := by simp [hdv.1]
      have ct := cut_to (dp.map plE) m (by omega)
      have cf := cut_from1 (dp.map plE) m (by omega)
      simp -implicitDefEqProofs [ct, ixD_ref k2, gg, ixD_ref g5, len_ref g6]
      apply Fl.Nx.then_
      apply Res.Good.nx
      repeat with_reducible apply Res.Good.bind
      refine (pick_good (k + 58) S5 s n t.ns[m].2.length s5 hne (by omega)).mono ?_
      rintro r S6 ⟨j, hj, rfl, f6, s6⟩
      simp -implicitDefEqProofs
      repeat with_reducible apply Res.Good.bind
      refine (pick_good (k + 58) _ s n 2 (s6.keep (Fr.app [] _ _) (by simp) (by simp)) (by omega) (by omega)).mono ?_
      rintro r S7 ⟨b, hb, rfl, f7, s7⟩
      have q5 := F5.1
      have q6 := f6.1
      have l7 : S7[S6.length]? = some (.lst [.non, .int j]) := f7.at (by simp) (by simp; omega)
      obtain ⟨xo, hxo, hxj⟩ : ∃ xo : Option Nat, L2.atI [D.non, .int j] (b : Int) = some (plE xo) ∧ ∀ j', xo = some j' → j' < t.ns[m].2.length := by
        match b, hb with
        | 0, _ => exact ⟨none, rfl, by simp⟩
        | 1, _ => exact ⟨some j, rfl, by simpa using hj⟩
      have b1 : ((dp.map plE).take m).length + 1 ≤ 16777216 := by rw [List.length_take]; omega
      have b2 : ((dp.map plE).take m ++ [plE xo]).length + ((dp.map plE).drop (m + 1)).length ≤ 16777216 := by rw [List.length_append, List.length_take, List.length_drop]; simp only [List.length_cons, List.length_nil]; omega
      have hset : (dp.map plE).take m ++ [plE xo] ++ (dp.map plE).drop (m + 1) = (dp.set m xo).map plE := by
        rw [List.map_set, List.set_eq_take_append_cons_drop, if_pos (by omega)]
        simp
      have a2 := add_tup _ _ S7 b2
      rw [hset] at a2
      have q := fin S7 (dp.set m xo) (some (.int m)) (((F5.trans f6).trans (Fr.app _ _ _)).trans f7) s7 (hdv.set m hm xo hxj)
      simp -implicitDefEqProofs [ixD_ref l7, hxo, add_tup1 _ _ _ b1, cf, a2]
      simp -implicitDefEqProofs at q
      exact q
    · have h0' : t.ns.length = 0 := by omega
      simp -implicitDefEqProofs [len_ref k2, hl, h0']
      have q := fin S4 dp none f4 s4 hdv
      simp -implicitDefEqProofs at q
      exact q
end Mp.K42
end
section
set_option Elab.async false
set_option linter.all false
set_option maxHeartbeats 0
/-! K42Objs: new duels; with_ends, swapped, _law_with. -/
namespace Mp.K42
open PySem L2
/-- what a duel asks of a tree -/
structure T.Fit (t : T) : Prop where
  dep : t.dep ≤ 20
  wf : t.wf
  nn : t.nn ≤ 200
  nl : t.nl ≤ 200
theorem make_ok (k : Nat) (t : T) (S : Sto) (h : t.Fit) :
    ((lev M.prg (k + 25)).init "Duel" [.ref S.length, t.d] (S ++ [.ins "Duel" []])).Good fun r S' => r = .non ∧ Fr [] S S' ∧ S'[S.length]? = some (.ins "Duel" (duelF t)) := by
  rw [init_lev]
  have hk : t.dep ≤ k + 20 := by have := h.dep; omega
  have q := init_ok (k + 20) t (S ++ [.ins "Duel" []]) S.length (by simp) hk h.dep h.wf h.nn h.nl
  rw [show k + 20 + 4 = k + 24 from rfl] at q
  refine q.mono ?_
  rintro r S' ⟨rfl, f, g⟩
  exact ⟨rfl, (Fr.app [] S _).trans_fresh f (by simp), g⟩
mutual
theorem put_f (es : List Bool) : ∀ (t : T) (c : Nat), (t.put es c).dep = t.dep ∧ (t.put es c).nn = t.nn ∧ (t.put es c).nl = t.nl ∧ (t.wf → (t.put es c).wf)
  | .leaf o, c => ⟨rfl, rfl, rfl, id⟩
  | .node s ts, c => by
    obtain ⟨h1, h2, h3, h4⟩ := putL_f es ts c
    refine ⟨by simp [T.put, T.dep, h1], by simp [T.put, T.nn, h2], by simp [T.put, T.nl, h3], fun w => ?_⟩
    simp only [T.put, T.wf, putL_len]
    exact ⟨w.1, w.2.1, h4 w.2.2⟩
theorem putL_f (es : List Bool) : ∀ (ts : List T) (c : Nat), depL (putL es ts c) = depL ts ∧ nnL (putL es ts c) = nnL ts ∧ nlL (putL es ts c) = nlL ts ∧ (wfL ts → wfL (putL es ts c))
  | [], c => ⟨rfl, rfl, rfl, id⟩
  | t :: ts, c => by
    obtain ⟨h1, h2, h3, h4⟩ := putL_f es ts (c + t.nl)
    obtain ⟨g1, g2, g3, g4⟩ := put_f es t c
    exact ⟨by simp [putL, depL, h1, g1], by simp [putL, nnL, h2, g2], by simp [putL, nlL, h3, g3], fun w => ⟨g4 w.1, h4 w.2⟩⟩
end
theorem T.Fit.put {t : T} (h : t.Fit) (es : List Bool) (c : Nat) : (t.put es c).Fit := by
  obtain ⟨h1, h2, h3, h4⟩ := put_f es t c
  exact ⟨by rw [h1]; exact h.dep, h4 h.wf, by rw [h2]; exact h.nn, by rw [h3]; exact h.nl⟩
mutual
theorem flip_f : ∀ (t : T), t.flip.dep = t.dep ∧ t.flip.nn = t.nn ∧ t.flip.nl = t.nl ∧ (t.wf → t.flip.wf)
  | .leaf o => ⟨rfl, rfl, rfl, id⟩
  | .node s ts => by
    obtain ⟨h1, h2, h3, h4⟩ := flipL_f ts
    refine ⟨by simp [T.flip, T.dep, h1], by simp [T.flip, T.nn, h2], by simp [T.flip, T.nl, h3], fun w => ?_⟩
    simp only [T.flip, T.wf, flipL_map, List.length_map]
    rw [← flipL_map]
    exact ⟨w.1, w.2.1, h4 w.2.2⟩
theorem flipL_f : ∀ (ts : List T), depL (flipL ts) = depL ts ∧ nnL (flipL ts) = nnL ts ∧ nlL (flipL ts) = nlL ts ∧ (wfL ts → wfL (flipL ts))
  | [] => ⟨rfl, rfl, rfl, id⟩
  | t :: ts => by
    obtain ⟨h1, h2, h3, h4⟩ := flipL_f ts
    obtain ⟨g1, g2, g3, g4⟩ := flip_f t
    exact ⟨by simp [flipL, depL, h1, g1], by simp [flipL, nnL, h2, g2], by simp [flipL, nlL, h3, g3], fun w => ⟨g4 w.1, h4 w.2⟩⟩
end
theorem T.Fit.flip {t : T} (h : t.Fit) : t.flip.Fit := by
  obtain ⟨h1, h2, h3, h4⟩ := flip_f t
  exact ⟨by rw [h1]; exact h.dep, h4 h.wf, by rw [h2]; exact h.nn, by rw [h3]; exact h.nl⟩
theorem fn_swapped : M.prg.fn "swapped" = some ⟨1, 1, c_swapped⟩ := by kernel_rfl
theorem swapped_ok (k : Nat) (S : Sto) (o : Nat) (t : T) (hS : S[o]? = some (.ins "Duel" (duelF t))) (h : t.Fit) :
    ((lev M.prg (k + 26)).call "swapped" [.ref o] S).Good fun r S' => Fr [] S S' ∧ ∃ o', r = .ref o' ∧ S'[o']? = some (.ins "Duel" (duelF t.flip)) := by
  rw [lev_call _ _ _ _ _ _ fn_swapped rfl]
  apply Fl.Ret.good
  have := h.dep
  have := h.nn
  have := h.nl
  simp -implicitDefEqProofs [c_swapped, fld_tree hS]
  apply Fl.Ret.then_
  apply Res.Good.ret
  repeat with_reducible apply Res.Good.bind
  refine (swap_ok (k + 24) t S (by omega) (by omega)).mono ?_
  rintro r S1 ⟨rfl, f1⟩
  simp -implicitDefEqProofs
  repeat with_reducible apply Res.Good.bind
  refine (make_ok k t.flip S1 h.flip).mono ?_
  rintro r S2 ⟨rfl, f2, o2⟩
  simp -implicitDefEqProofs [isNon]
  exact ⟨f1.trans f2, o2⟩
theorem fn_with : M.prg.fn (mkey "Duel" "with_ends") = some ⟨2, 3, c_Duel_with_ends⟩ := by kernel_rfl
theorem mok_with : M.prg.mok "Duel" "with_ends" = some 1 := by kernel_rfl
theorem met_with {S : Sto} {o : Nat} {t : T} (h : S[o]? = some (.ins "Duel" (duelF t))) (k : Nat) : metD (lev M.prg k).mok (.ref o) "with_ends" 1 S = some ("Duel" : Str) := by
  have h1 : (duelF t).lookup ("with_ends" : Str) = none := by rfl
  rw [lev_mok]
  simp [metD, h, mok_with, h1]
theorem with_ok (k : Nat) (S : Sto) (o : Nat) (t : T) (es : List Bool) (hS : S[o]? = some (.ins "Duel" (duelF t))) (h : t.Fit) (he : es.length = t.nl) :
    ((lev M.prg (k + 26)).call (mkey "Duel" "with_ends") [.ref o, .tup (esD es)] S).Good fun r S' => Fr [] S S' ∧ ∃ o', r = .ref o' ∧ S'[o']? = some (.ins "Duel" (duelF (t.put es 0))) := by
  rw [lev_call _ _ _ _ _ _ fn_with rfl]
  apply Fl.Ret.good
  have := h.dep
  have := h.nn
  have := h.nl
  have el : (scan t 0 0).2.2.length = t.nl := scan_nl t 0 0
  simp -implicitDefEqProofs [c_Duel_with_ends, fld_ends hS, esD_len, el, he]
  apply Fl.Nx.ret
  apply Res.Good.nx
  repeat with_reducible apply Res.Good.bind
  refine lc_good (blD (List.replicate es.length true)) (fun _ S' => S' = S) rfl (fun _ _ _ => trivial) (by simp [blD, esD]) ?_ ?_
  · rintro i hi S' rfl
    have hi' : i < es.length := by simpa [esD] using hi
    have hget : (esD es)[i] = .int (sg es[i]) := by simp [esD]
    rw [hget]
    simp -implicitDefEqProofs [p1_Duel_with_ends, out_ok, blD]
  rintro S' rfl
  have hal := all_new (blD (List.replicate es.length true)) _ S' (blsOf_bl _)
  have h1 : (List.replicate es.length true).all id = true := by simp
  rw [h1] at hal
  simp -implicitDefEqProofs only [Res.good_ok, hal]
  have hS1 := (Fr.app [] S' [O.lst (blD (List.replicate es.length true))]).at hS (by simp)
  simp -implicitDefEqProofs [fld_tree hS1]
  apply Fl.Ret.then_
  apply Res.Good.ret
  repeat with_reducible apply Res.Good.bind
  refine (twe_ok es (k + 24) t _ 0 (by omega) (by omega) (by omega)).mono ?_
  rintro r S1 ⟨rfl, f1⟩
  simp -implicitDefEqProofs [ixD_tup]
  repeat with_reducible apply Res.Good.bind
  refine (make_ok k (t.put es 0) S1 (h.put es 0)).mono ?_
  rintro r S2 ⟨rfl, f2, o2⟩
  simp -implicitDefEqProofs [isNon]
  exact ⟨((Fr.app [] S' _).trans f1).trans f2, o2⟩
theorem with_bad (k : Nat) (S : Sto) (o : Nat) (t : T) (zs : List Int) (hS : S[o]? = some (.ins "Duel" (duelF t))) (hz : zs.length ≠ t.nl ∨ ∃ z ∈ zs, ¬(0 ≤ z ∧ z ≤ 1)) :
    ((lev M.prg (k + 26)).call (mkey "Duel" "with_ends") [.ref o, .tup (zs.map .int)] S).Exn fun x S' => x = ⟨"OutOfRange", []⟩ ∧ Fr [] S S' := by
  rw [lev_call _ _ _ _ _ _ fn_with rfl]
  apply Fl.Exn.res
  have el : (scan t 0 0).2.2.length = t.nl := scan_nl t 0 0
  by_cases hl : zs.length = t.nl
  · have hl' : (zs.length : Int) = (t.nl : Int) := by omega
    simp -implicitDefEqProofs [c_Duel_with_ends, fld_ends hS, esD_len, el, hl']
    apply Fl.Exn.then_
    apply Res.Good.flE
    repeat with_reducible apply Res.Good.bind
    refine lc_good (blD (zs.map fun z => decide (0 ≤ z ∧ z ≤ 1))) (fun _ S' => S' = S) rfl (fun _ _ _ => trivial) (by simp [blD]) ?_ ?_
    · rintro i hi S' rfl
      have hi' : i < zs.length := by simpa using hi
      have hget : (zs.map D.int)[i]'hi = .int zs[i] := by simp
      rw [hget]
      by_cases hzi : 0 ≤ zs[i] ∧ zs[i] ≤ 1
      · obtain ⟨b, hb⟩ : ∃ b, zs[i] = sg b := by
          by_cases h1 : zs[i] = 0
          · exact ⟨false, h1⟩
          · exact ⟨true, show zs[i] = 1 by omega⟩
        have hd : decide (0 ≤ zs[i] ∧ zs[i] ≤ 1) = true := by simp only [hzi, and_self, decide_true]
        rw [hb]
        simp -implicitDefEqProofs only [p1_Duel_with_ends, s_evIfs_nil, wipe_name, asgT_name]
        simp -implicitDefEqProofs [out_ok, blD, hzi]
      · simp -implicitDefEqProofs [p1_Duel_with_ends, out_no _ _ _ hzi, blD]
        omega
    rintro S' rfl
    have hal := all_new (blD (zs.map fun z => decide (0 ≤ z ∧ z ≤ 1))) _ S' (blsOf_bl _)
    have h1 : (zs.map fun z => decide (0 ≤ z ∧ z ≤ 1)).all id = false := by
      rcases hz with hz | ⟨z, hz1, hz2⟩
      · exact absurd hl hz
      · rw [List.all_eq_false]
        exact ⟨false, List.mem_map.2 ⟨z, hz1, by simp only [hz2, decide_false]⟩, by simp⟩
    rw [h1] at hal
    simp -implicitDefEqProofs only [Res.good_ok, hal]
    simp -implicitDefEqProofs [exc_lev, exc_range, exnO]
    exact Fr.app _ _ _
  · have hl' : ¬((zs.length : Int) = (t.nl : Int)) := by omega
    simp -implicitDefEqProofs [c_Duel_with_ends, fld_ends hS, esD_len, el, hl', exc_lev, exc_range, exnO]
    exact Fr.refl _ _
theorem fn_lwith : M.prg.fn "_law_with" = some ⟨2, 3, c__law_with⟩ := by kernel_rfl
theorem lwith_ok (k : Nat) (S : Sto) (o : Nat) (t : T) (es : List Bool) (hS : S[o]? = some (.ins "Duel" (duelF t))) (h : t.Fit) (he : es.length = t.nl) :
    ((lev M.prg (k + 27)).call "_law_with" [.ref o, .tup (esD es)] S).Good fun r S' => r = .tup [.str "made", (t.put es 0).d] ∧ Fr [] S S' := by
  rw [lev_call _ _ _ _ _ _ fn_lwith rfl]
  apply Fl.Ret.good
  simp -implicitDefEqProofs [c__law_with, CEs.len, met_with hS]
  apply Fl.Ret.then_
  apply Fl.Ret.catch_
  apply Fl.Ret.then_
  apply Res.Good.ret
  repeat with_reducible apply Res.Good.bind
  refine (with_ok k S o t es hS h he).mono ?_
  rintro r S1 ⟨f1, o1, rfl, h1⟩
  simp -implicitDefEqProofs [fld_tree h1]
  exact f1
theorem lwith_bad (k : Nat) (S : Sto) (o : Nat) (t : T) (zs : List Int) (hS : S[o]? = some (.ins "Duel" (duelF t))) (hz : zs.length ≠ t.nl ∨ ∃ z ∈ zs, ¬(0 ≤ z ∧ z ≤ 1)) :
    ((lev M.prg (k + 27)).call "_law_with" [.ref o, .tup (zs.map .int)] S).Good fun r S' => r = .tup [.str "range", .int 0] ∧ Fr [] S S' := by
  rw [lev_call _ _ _ _ _ _ fn_lwith rfl]
  apply Fl.Ret.good
  simp -implicitDefEqProofs [c__law_with, CEs.len, met_with hS]
  apply Fl.Ret.then_
  apply Res.Exn.catch_
  repeat with_reducible apply Res.Exn.bind
  refine (with_bad k S o t zs hS hz).mono ?_
  rintro x S1 ⟨rfl, f1⟩
  simp -implicitDefEqProofs [lev_sub, sub_oo, sub_ot, sub_ol, bornOk, Mp.unset, ifO, Fl.unset]
  exact f1
end Mp.K42
end
section
set_option Elab.async false
set_option linter.all false
set_option maxHeartbeats 0
/-! K42Bad: scan_tree of a wrong tree. -/
namespace Mp.K42
open PySem L2
theorem exc_duel (ps : List D) : M.prg.exc "InvalidDuel" [.tup ps] = some [(("path" : Str), .tup ps)] := by kernel_rfl
theorem exc_large (x : Str) : M.prg.exc "TooLarge" [.str x] = some [] := by kernel_rfl
/-- what a wrong part raises -/
def exD (pp : List D) : Ex := ⟨"InvalidDuel", [(("path" : Str), .tup pp)]⟩
/-- check_tree refuses d itself -/
structure CkBad (lv : Nat) (d : D) (due : List Nat) : Prop where
  run : ∀ k S (pp : List D), pp.length ≤ 1000 →
  ((lev M.prg (k + 4)).call "check_tree" [d, .tup pp, .int lv] S).Exn fun x S' => x = exD (pp ++ natD due) ∧ S' = S
inductive Bad : Nat → D → List Nat → Prop where
  | here {lv d due} : CkBad lv d due → Bad lv d due
  | deep {lv d due} (s : Bool) (ts : List T) (rest : List D) : lv < 20 → ts.length + 1 + rest.length ≤ 12 → wfL ts → depL ts + lv + 1 ≤ 20 → nnL ts ≤ 1000 → nlL ts ≤ 1000 → Bad (lv + 1) d due →
      Bad lv (.tup (.str "node" :: .int (sg s) :: (dL ts ++ d :: rest))) ((2 + ts.length) :: due)
theorem check_nodeD (k : Nat) (s : Bool) (ds : List D) (S : Sto) (p : D) (lv : Int) (h1 : 1 ≤ ds.length) (h2 : ds.length ≤ 12) (hl : lv < 20) : (lev M.prg (k + 2)).call "check_tree" [.tup (.str "node" :: .int (sg s) :: ds), p, .int lv] S = .ok .non S := by
  rw [lev_call _ _ _ _ _ _ fn_check rfl]
  have a1 : (3 : Int) ≤ ((ds.length : Int) + 1 + 1) := by omega
  have a2 : ((ds.length : Int) + 1 + 1) ≤ 14 := by omega
  have a0 : ¬((ds.length : Int) + 1 + 1 = 0) := by omega
  have a3 : ¬((20 : Int) ≤ lv) := by omega
  simp -implicitDefEqProofs [c_check_tree, ixD_tup, notin_node, node_end, out_ok, lev_con, lev_ccon, con_trees, con_levels, a0, a1, a2, a3]
theorem scan_bad {lv : Nat} {d : D} {due : List Nat} (hb : Bad lv d due) : ∀ (k m : Nat) (S : Sto) (A B E : Nat) (pp av bv ev : List D), lv + m = 21 → pp.length ≤ 500 + lv → S[A]? = some (.lst av) → S[B]? = some (.lst bv) → S[E]? = some (.lst ev) → A ≠ B → A ≠ E → B ≠ E → bv.length = av.length →
    av.length ≤ 2000 * lv → ev.length ≤ 2000 * lv →
    ((lev M.prg (k + m + 5)).call "scan_tree" [d, .tup pp, .int lv, .tup [.ref A, .ref B, .ref E]] S).Exn fun x S' => x = exD (pp ++ natD due) ∧ Fr [A, B, E] S S' := by
  induction hb with
  | @here lv d due h =>
    intro k m S A B E pp av bv ev hm hp hA hB hE hAB hAE hBE hab ba be
    rw [lev_call _ _ _ _ _ _ fn_scn rfl]
    apply Fl.Exn.res
    simp -implicitDefEqProofs [c_scan_tree]
    apply Fl.Exn.then_
    apply Res.Exn.fl
    refine (h.run (k + m) S pp (by omega)).mono ?_
    rintro x S' ⟨rfl, rfl⟩
    exact ⟨rfl, Fr.refl _ _⟩
  | @deep lv d due s ts rest hl hlen hw hd hn hnl hb ih =>
    intro k m S A B E pp av bv ev hm hp hA hB hE hAB hAE hBE hab ba be
    obtain ⟨m', rfl⟩ : ∃ m', m = m' + 1 := ⟨m - 1, by omega⟩
    rw [show k + (m' + 1) + 5 = k + m' + 5 + 1 by omega]
    rw [lev_call _ _ _ _ _ _ fn_scn rfl]
    apply Fl.Exn.res
    have hll : (dL ts ++ d :: rest).length = ts.length + 1 + rest.length := by simp [dL_map]; omega
    obtain ⟨LL, hLL⟩ : ∃ LL, LL = dL ts ++ d :: rest := ⟨_, rfl⟩
    rw [← hLL] at hll ⊢
    have hck := check_nodeD (k + m' + 3) s LL S (.tup pp) lv (by omega) (by omega) (by omega)
    have hB1 := set_other hB (.lst (av ++ [.int (sg s)])) hAB
    have hA1 := set_self hA (.lst (av ++ [.int (sg s)]))
    have hE1 := set_other hE (.lst (av ++ [.int (sg s)])) hAE
    have hB2 := set_self hB1 (.lst (bv ++ [.tup []]))
    have hA2 := set_other hA1 (.lst (bv ++ [.tup []])) (Ne.symm hAB)
    have hE2 := set_other hE1 (.lst (bv ++ [.tup []])) hBE
    have f2 : Fr [A, B, E] S ((S.set A (.lst (av ++ [.int (sg s)]))).set B (.lst (bv ++ [.tup []]))) := (Fr.set _ _ (by simp)).trans (Fr.set _ _ (by simp))
    have hal : av.length < 16777216 := by omega
    have hbl : bv.length < 16777216 := by omega
    have hlI : (LL.length : Int) = ((ts.length + 1 + rest.length : Nat) : Int) := by omega
    have hr2 := rangeI_two LL.length (by omega)
    simp -implicitDefEqProofs [c_scan_tree, hck, asgT, asgN, ixD_tup, node_end, len_ref hA, bmOk_app hA, app_ref hA hal, bmOk_app hB1, app_ref hB1 hbl, hr2]
    apply Fl.Exn.then_
    apply Res.Exn.fl
    apply Res.Exn.bind
    refine lc_exn ts.length (by simp; omega) (fun i S' => Fr [A, B, E] S S' ∧
      S'[A]? = some (.lst (av ++ .int (sg s) :: sdD (scanL (ts.take i) (av.length + 1) ev.length).2.1)) ∧
      S'[B]? = some (.lst (bv ++ .tup [] :: chsD (scanL (ts.take i) (av.length + 1) ev.length).2.1)) ∧
      S'[E]? = some (.lst (ev ++ esD (scanL (ts.take i) (av.length + 1) ev.length).2.2))) ⟨f2, by simpa [scanL, sdD] using hA2, by simpa [scanL, chsD] using hB2, by simpa [scanL, esD] using hE2⟩ (fun _ _ _ => trivial) ?_ ?_
    · rintro i hi S1 ⟨f1, a1, b1, e1⟩
      have t1 := nnL_take ts i hi
      have t2 := nlL_take ts i hi
      have hx : L2.atI (D.str "node" :: .int (sg s) :: LL) (2 + (i : Int)) = some ts[i].d := by
        have : (2 + (i : Int)) = ((i + 2 : Nat) : Int) := by omega
        rw [this, atI_nat, hLL]
        simp [dL_map, List.getElem?_append_left, hi]
      have td := dep_mem (List.getElem_mem hi)
      have hl2 : ((lv : Int) + 1) = ((lv + 1 : Nat) : Int) := by omega
      rw [rangeL_get]
      simp -implicitDefEqProofs [p1_scan_tree, ixD_tup, hx, add_tup1 _ pp _ (show pp.length + 1 ≤ 16777216 by omega)]
      apply Res.Good.bind
      rw [hl2]
      have la : (av ++ .int (sg s) :: sdD (scanL (ts.take i) (av.length + 1) ev.length).2.1).length = av.length + 1 + nnL (ts.take i) := by simp [sdD, scanL_nn]; omega
      have le : (ev ++ esD (scanL (ts.take i) (av.length + 1) ev.length).2.2).length = ev.length + nlL (ts.take i) := by simp [esD, scanL_nl]
      have hc := scn_ok (k + m' + 2) ts[i] S1 A B E (pp ++ [.int (2 + (i : Int))]) _ _ _ (lv + 1) (by omega) (wfL_mem (List.getElem_mem hi) hw) (by omega) (by simp; omega) a1 b1 e1 hAB hAE hBE (by simp [sdD, chsD, hab]) (by omega) (by omega)
      rw [la, le] at hc
      rw [show k + m' + 2 + 3 = k + m' + 5 from rfl] at hc
      refine hc.mono ?_
      rintro r S2 ⟨rfl, f3, a3, b3, e3⟩
      have hsn := scanL_snoc' (ts.take i) ts[i] (av.length + 1) ev.length
      rw [← List.take_succ_eq_append_getElem hi] at hsn
      simp -implicitDefEqProofs
      rw [hsn]
      refine ⟨f1.trans f3, ?_, ?_, ?_⟩
      · simpa [sdD] using a3
      · simpa [chsD] using b3
      · simpa [esD] using e3
    · rintro S1 ⟨f1, a1, b1, e1⟩
      rw [List.take_length] at a1 b1 e1
      have hx : L2.atI (D.str "node" :: .int (sg s) :: LL) (2 + (ts.length : Int)) = some d := by
        have : (2 + (ts.length : Int)) = ((ts.length + 2 : Nat) : Int) := by omega
        rw [this, atI_nat, hLL]
        simp [dL_map]
      have hl2 : ((lv : Int) + 1) = ((lv + 1 : Nat) : Int) := by omega
      rw [rangeL_get]
      simp -implicitDefEqProofs [p1_scan_tree, ixD_tup, hx, add_tup1 _ pp _ (show pp.length + 1 ≤ 16777216 by omega)]
      apply Res.Exn.bind
      rw [hl2]
      have q := ih k m' S1 A B E (pp ++ [.int (2 + (ts.length : Int))]) _ _ _ (by omega) (by simp; omega) a1 b1 e1 hAB hAE hBE (by simp [sdD, chsD, hab]) (by simp [sdD, scanL_nn]; omega) (by simp [esD, scanL_nl]; omega)
      refine q.mono ?_
      rintro x S2 ⟨rfl, f3⟩
      refine ⟨?_, f1.trans f3⟩
      simp [natD]
end Mp.K42
end
section
set_option Elab.async false
set_option linter.all false
set_option maxHeartbeats 0
/-! K42Made: Duel.__init__ of a wrong or too large tree; _law_made. -/
namespace Mp.K42
open PySem L2
theorem init_bad (k : Nat) (d : D) (due : List Nat) (S : Sto) (o : Nat) (hS : S[o]? = some (.ins "Duel" [])) (hb : Bad 0 d due) :
    ((lev M.prg (k + 27)).call (mkey "Duel" "__init__") [.ref o, d] S).Exn fun x S' => x = exD (natD due) ∧ Fr [o] S S' := by
  rw [lev_call _ _ _ _ _ _ fn_init rfl]
  have lo := lt_at hS
  have hc := scan_bad hb k 21 (S ++ [O.lst [], O.lst [], O.lst []]) S.length (S.length + 1) (S.length + 2) [] [] [] [] (by omega) (by simp) (by simp) (by simp) (by simp) (by omega) (by omega) (by omega) rfl (by simp) (by simp)
  rw [show k + 21 + 5 = k + 26 from rfl] at hc
  apply Fl.Exn.res
  simp -implicitDefEqProofs [c_Duel_init]
  apply Fl.Exn.then_
  apply Res.Exn.fl
  refine hc.mono ?_
  rintro x S1 ⟨rfl, f1⟩
  exact ⟨rfl, ((Fr.app [] S _).trans_fresh f1 (by simp)).mono (by simp)⟩
theorem init_large (k : Nat) (t : T) (S : Sto) (o : Nat) (hS : S[o]? = some (.ins "Duel" [])) (h20 : t.dep ≤ 20) (hw : t.wf) (hn : t.nn ≤ 1000) (hl : t.nl ≤ 1000) (hlarge : 200 < t.nn ∨ 200 < t.nl) :
    ((lev M.prg (k + 27)).call (mkey "Duel" "__init__") [.ref o, t.d] S).Exn fun x S' => x = ⟨"TooLarge", []⟩ ∧ Fr [o] S S' := by
  rw [lev_call _ _ _ _ _ _ fn_init rfl]
  have lo := lt_at hS
  have hc := scn_ok (k + 23) t (S ++ [O.lst [], O.lst [], O.lst []]) S.length (S.length + 1) (S.length + 2) [] [] [] [] 0 (by omega) hw (by omega) (by simp; omega) (by simp) (by simp) (by simp) (by omega) (by omega) (by omega) rfl (by simp; omega) (by simp; omega)
  rw [show k + 23 + 3 = k + 26 from rfl] at hc
  apply Fl.Exn.res
  simp -implicitDefEqProofs [c_Duel_init]
  apply Fl.Nx.thenE
  apply Res.Good.nx
  refine hc.mono ?_
  rintro r S1 ⟨rfl, f1, a1, b1, e1⟩
  have o1 : S1[o]? = _ := f1.at ((Fr.app [] S _).at hS (by simp)) (by simp; omega)
  have sA : ∀ x : O, (S1.set o x)[S.length]? = some (.lst (sdD (scan t 0 0).2.1)) := fun x => by simpa using set_other a1 x (by omega)
  have sE : ∀ x : O, (S1.set o x)[S.length + 2]? = some (.lst (esD (scan t 0 0).2.2)) := fun x => by simpa using set_other e1 x (by omega)
  have z1 := setF_ins o1 "root" (chP (scan t 0 0).1) (ok := (lev M.prg (k + 26)).fok) (by rw [lev_fok]; exact fok_root) (by simp)
  rw [show Mp.putL "root" (chP (scan t 0 0).1) [] = [(("root" : Str), chP (scan t 0 0).1)] from rfl] at z1
  have l1 : (sdD (scan t 0 0).2.1).length = t.nn := by simp [sdD, scan_nn]
  have l2 : (esD (scan t 0 0).2.2).length = t.nl := by simp [esD, scan_nl]
  have ss : S.length + 1 + 1 = S.length + 2 := rfl
  have F : Fr [o] S (S1.set o (.ins "Duel" [(("root" : Str), chP (scan t 0 0).1)])) := (((Fr.app [] S _).trans_fresh f1 (by simp)).mono (by simp)).trans (Fr.set _ _ (by simp))
  by_cases c1 : (200 : Int) < (t.nn : Int)
  · simp -implicitDefEqProofs [z1, ss, len_ref (sA _), len_ref (sE _), l1, l2, lev_ccon, con_nodes, con_leaves, c1, exc_lev, exc_large, exnO]
    exact F
  · have c2 : (200 : Int) < (t.nl : Int) := by omega
    simp -implicitDefEqProofs [z1, ss, len_ref (sA _), len_ref (sE _), l1, l2, lev_ccon, con_nodes, con_leaves, c1, c2, exc_lev, exc_large, exnO]
    exact F
theorem make_bad (k : Nat) (d : D) (due : List Nat) (S : Sto) (h : Bad 0 d due) :
    ((lev M.prg (k + 28)).init "Duel" [.ref S.length, d] (S ++ [.ins "Duel" []])).Exn fun x S' => x = exD (natD due) ∧ Fr [] S S' := by
  rw [init_lev]
  have q := init_bad k d due (S ++ [.ins "Duel" []]) S.length (by simp) h
  refine q.mono ?_
  rintro x S' ⟨rfl, f⟩
  exact ⟨rfl, (Fr.app [] S _).trans_fresh f (by simp)⟩
theorem make_large (k : Nat) (t : T) (S : Sto) (h20 : t.dep ≤ 20) (hw : t.wf) (hn : t.nn ≤ 1000) (hl : t.nl ≤ 1000) (hlarge : 200 < t.nn ∨ 200 < t.nl) :
    ((lev M.prg (k + 28)).init "Duel" [.ref S.length, t.d] (S ++ [.ins "Duel" []])).Exn fun x S' => x = ⟨"TooLarge", []⟩ ∧ Fr [] S S' := by
  rw [init_lev]
  have q := init_large k t (S ++ [.ins "Duel" []]) S.length (by simp) h20 hw hn hl hlarge
  refine q.mono ?_
  rintro x S' ⟨rfl, f⟩
  exact ⟨rfl, (Fr.app [] S _).trans_fresh f (by simp)⟩
theorem fn_made : M.prg.fn "_law_made" = some ⟨1, 2, c__law_made⟩ := by kernel_rfl
theorem sub_dd : M.prg.sub "InvalidDuel" "InvalidDuel" = some true := by kernel_rfl
theorem sub_dt : M.prg.sub "InvalidDuel" "InvalidTerm" = some true := by kernel_rfl
theorem sub_dv : M.prg.sub "InvalidDuel" "ValueError" = some true := by kernel_rfl
theorem sub_dq : M.prg.sub "InvalidDuel" "InvalidQuery" = some false := by kernel_rfl
theorem sub_dp : M.prg.sub "InvalidDuel" "ProofsError" = some true := by kernel_rfl
theorem sub_dl : M.prg.sub "InvalidDuel" "TooLarge" = some false := by kernel_rfl
theorem sub_ld : M.prg.sub "TooLarge" "InvalidDuel" = some false := by kernel_rfl
theorem sub_ll : M.prg.sub "TooLarge" "TooLarge" = some true := by kernel_rfl
theorem sub_lt : M.prg.sub "TooLarge" "InvalidTerm" = some false := by kernel_rfl
theorem sub_lo : M.prg.sub "TooLarge" "OutOfRange" = some false := by kernel_rfl
theorem exf_d : M.prg.exf "InvalidDuel" "path" = true := by kernel_rfl
theorem made_ok (k : Nat) (S : Sto) (t : T) (h : t.Fit) :
    ((lev M.prg (k + 26)).call "_law_made" [t.d] S).Good fun r S' => r = .tup [.str "made", t.d] ∧ Fr [] S S' := by
  rw [lev_call _ _ _ _ _ _ fn_made rfl]
  apply Fl.Ret.good
  simp -implicitDefEqProofs [c__law_made]
  apply Fl.Ret.then_
  apply Fl.Ret.catch_
  apply Fl.Ret.then_
  apply Res.Good.ret
  repeat with_reducible apply Res.Good.bind
  refine (make_ok k t S h).mono ?_
  rintro r S1 ⟨rfl, f1, h1⟩
  simp -implicitDefEqProofs [isNon, fld_tree h1]
  exact f1
theorem made_bad (k : Nat) (S : Sto) (d : D) (due : List Nat) (h : Bad 0 d due) :
    ((lev M.prg (k + 29)).call "_law_made" [d] S).Good fun r S' => r = .tup [.str "wrong", .tup (natD due)] ∧ Fr [] S S' := by
  rw [lev_call _ _ _ _ _ _ fn_made rfl]
  apply Fl.Ret.good
  simp -implicitDefEqProofs [c__law_made]
  apply Fl.Ret.then_
  apply Res.Exn.catch_
  repeat with_reducible apply Res.Exn.bind
  refine (make_bad k d due S h).mono ?_
  rintro x S1 ⟨rfl, f1⟩
  simp -implicitDefEqProofs [exD, lev_sub, sub_dd, sub_dt, sub_dv, sub_dq, lev_exf, exf_d, bornOk, Mp.unset, ifO, Fl.unset]
  exact f1
theorem made_large (k : Nat) (S : Sto) (t : T) (h20 : t.dep ≤ 20) (hw : t.wf) (hn : t.nn ≤ 1000) (hl : t.nl ≤ 1000) (hlarge : 200 < t.nn ∨ 200 < t.nl) :
    ((lev M.prg (k + 29)).call "_law_made" [t.d] S).Good fun r S' => r = .tup [.str "large", .int 0] ∧ Fr [] S S' := by
  rw [lev_call _ _ _ _ _ _ fn_made rfl]
  apply Fl.Ret.good
  simp -implicitDefEqProofs [c__law_made]
  apply Fl.Ret.then_
  apply Res.Exn.catch_
  repeat with_reducible apply Res.Exn.bind
  refine (make_large k t S h20 hw hn hl hlarge).mono ?_
  rintro x S1 ⟨rfl, f1⟩
  simp -implicitDefEqProofs [lev_sub, sub_ld, sub_ll, sub_lt, sub_lo, bornOk, Mp.unset, ifO, Fl.unset]
  exact f1
end Mp.K42
end
section
set_option Elab.async false
set_option linter.all false
set_option maxHeartbeats 0
/-! K42Paths: the paths of a tree's parts, parts put in place of others; plain. -/
namespace Mp.K42
open PySem L2
mutual
def T.paths : T → List (List Nat)
  | .leaf _ => [[]]
  | .node _ ts => [] :: pathsL ts 2
def pathsL : List T → Nat → List (List Nat)
  | [], _ => []
  | t :: ts, k => t.paths.map (k :: ·) ++ pathsL ts (k + 1)
end
mutual
def T.cnt : T → Nat
  | .leaf _ => 1
  | .node _ ts => cntL ts + 1
def cntL : List T → Nat
  | [] => 0
  | t :: ts => t.cnt + cntL ts
end
mutual
theorem paths_len : ∀ t : T, t.paths.length = t.cnt
  | .leaf _ => rfl
  | .node _ ts => by simp [T.paths, T.cnt, pathsL_len ts]
theorem pathsL_len : ∀ (ts : List T) (k : Nat), (pathsL ts k).length = cntL ts
  | [], _ => rfl
  | t :: ts, k => by simp [pathsL, cntL, paths_len t, pathsL_len ts]
end
mutual
theorem cnt_eq : ∀ t : T, t.cnt = t.nn + t.nl
  | .leaf _ => by simp [T.cnt, T.nn, T.nl]
  | .node _ ts => by simp only [T.cnt, T.nn, T.nl]; rw [cntL_eq ts]; omega
theorem cntL_eq : ∀ ts : List T, cntL ts = nnL ts + nlL ts
  | [] => rfl
  | t :: ts => by simp only [cntL, nnL, nlL]; rw [cnt_eq t, cntL_eq ts]; omega
end
theorem cntL_app (a b : List T) : cntL (a ++ b) = cntL a + cntL b := by
  induction a with
  | nil => simp [cntL]
  | cons t a ih => simp [cntL, ih, Nat.add_assoc]
theorem pathsL_app (a b : List T) : ∀ k, pathsL (a ++ b) k = pathsL a k ++ pathsL b (k + a.length) := by
  induction a with
  | nil => intro k; simp [pathsL]
  | cons t a ih => intro k; simp [pathsL, ih, Nat.add_assoc, Nat.add_comm 1]
theorem dL_app (a b : List T) : dL (a ++ b) = dL a ++ dL b := by simp [dL_map]
theorem dL_len (a : List T) : (dL a).length = a.length := by simp [dL_map]
mutual
theorem paths_dep : ∀ (t : T) p, p ∈ t.paths → p.length ≤ t.dep
  | .leaf _, p, h => by simp [T.paths] at h; simp [h]
  | .node _ ts, p, h => by
    simp only [T.paths, List.mem_cons, T.dep] at h ⊢
    rcases h with rfl | h
    · simp
    · exact pathsL_dep ts 2 p h
theorem pathsL_dep : ∀ (ts : List T) k p, p ∈ pathsL ts k → p.length ≤ depL ts + 1
  | [], k, p, h => by simp [pathsL] at h
  | t :: ts, k, p, h => by
    simp only [pathsL, List.mem_append, List.mem_map, depL] at h ⊢
    rcases h with ⟨q, hq, rfl⟩ | h
    · have := paths_dep t q hq; simp; omega
    · have := pathsL_dep ts (k + 1) p h; omega
end
def putD : List Nat → D → D → D
  | [], _, x => x
  | i :: p, .tup ds, x => .tup (ds.take i ++ putD p (ds.getD i .non) x :: ds.drop (i + 1))
  | _ :: _, d, _ => d
def PathOk : List Nat → D → Prop
  | [], _ => True
  | i :: p, .tup ds => i < ds.length ∧ ds.length ≤ 1000 ∧ PathOk p (ds.getD i .non)
  | _ :: _, _ => False
/-- d is as the tree ahead of its part i in reading order -/
inductive Mod : T → D → Nat → Prop where
  | head (t : T) (rest : List D) : rest.length = t.ts.length → Mod t (.tup (.str t.w :: .int (sg t.s) :: rest)) 0
  | child (s : Bool) (a : List T) (u : T) (b : List T) (d : D) (rest : List D) (i : Nat) : Mod u d i → rest.length = b.length → i < u.cnt →
      Mod (.node s (a ++ u :: b)) (.tup (.str "node" :: .int (sg s) :: (dL a ++ d :: rest))) (1 + cntL a + i)
theorem split_at : ∀ (ts : List T) (m : Nat), m < cntL ts → ∃ a u b m', ts = a ++ u :: b ∧ m = cntL a + m' ∧ m' < u.cnt
  | [], m, h => by simp [cntL] at h
  | t :: ts, m, h => by
    simp only [cntL] at h
    by_cases h1 : m < t.cnt
    · exact ⟨[], t, ts, m, rfl, by simp [cntL], h1⟩
    · obtain ⟨a, u, b, m', rfl, h2, h3⟩ := split_at ts (m - t.cnt) (by omega)
      exact ⟨t :: a, u, b, m', rfl, by simp only [cntL]; omega, h3⟩
theorem mem_mid {α : Type} (a : List α) (u : α) (b : List α) : u ∈ a ++ u :: b := by simp
theorem mod_self : ∀ (k : Nat) (t : T), t.dep ≤ k → ∀ i, i < t.cnt → Mod t t.d i := by
  intro k
  induction k with
  | zero =>
    intro t hd i hi
    cases t with
    | node s ts => simp [T.dep] at hd
    | leaf o =>
      have : i = 0 := by simp [T.cnt] at hi; exact hi
      subst this
      exact Mod.head (.leaf o) [] rfl
  | succ k ih =>
    intro t hd i hi
    cases t with
    | leaf o =>
      have : i = 0 := by simp [T.cnt] at hi; exact hi
      subst this
      exact Mod.head (.leaf o) [] rfl
    | node s ts =>
      simp only [T.cnt, T.dep] at hi hd
      cases i with
      | zero => exact Mod.head (.node s ts) (dL ts) (dL_len ts)
      | succ i =>
        obtain ⟨a, u, b, m, rfl, rfl, h3⟩ := split_at ts i (by omega)
        have := dep_mem (mem_mid a u b)
        have q := Mod.child s a u b u.d (dL b) m (ih u (by omega) m h3) (dL_len b) h3
        have e : 1 + cntL a + m = cntL a + m + 1 := by omega
        rw [e] at q
        have e2 : dL a ++ u.d :: dL b = dL (a ++ u :: b) := by rw [dL_app]; rfl
        rw [e2] at q
        simpa [T.d] using q
/-- the path of a part inside of a child -/
theorem paths_child (s : Bool) (a : List T) (u : T) (b : List T) (i : Nat) (hi : i < u.cnt) : (T.node s (a ++ u :: b)).paths[1 + cntL a + i]? = (u.paths[i]?).map ((2 + a.length) :: ·) := by
  have h1 : 1 + cntL a + i = (cntL a + i) + 1 := by omega
  rw [T.paths, h1, List.getElem?_cons_succ, pathsL_app]
  rw [List.getElem?_append_right (by rw [pathsL_len]; omega), pathsL_len, Nat.add_sub_cancel_left]
  simp only [pathsL]
  rw [List.getElem?_append_left (by simp [paths_len]; exact hi)]
  simp
theorem getD_mid (s : Bool) (a : List D) (d : D) (b : List D) : (D.str "node" :: .int (sg s) :: (a ++ d :: b)).getD (2 + a.length) .non = d := by
  rw [Nat.add_comm]; simp [List.getD]
theorem put_mid (s : Bool) (a : List D) (d : D) (b : List D) (p : List Nat) (x : D) : putD ((2 + a.length) :: p) (.tup (.str "node" :: .int (sg s) :: (a ++ d :: b))) x = .tup (.str "node" :: .int (sg s) :: (a ++ putD p d x :: b)) := by
  simp only [putD, getD_mid]
  have h1 : 2 + a.length = a.length + 1 + 1 := by omega
  rw [h1]
  simp
theorem path_mid (s : Bool) (a : List D) (d : D) (b : List D) (p : List Nat) (hl : a.length + b.length ≤ 900) (h : PathOk p d) : PathOk ((2 + a.length) :: p) (.tup (.str "node" :: .int (sg s) :: (a ++ d :: b))) := by
  refine ⟨by simp; omega, by simp; omega, ?_⟩
  rw [getD_mid]; exact h
/-- a part behind i changed -/
theorem mod_put (x : D) (ext : List Nat) (hext : ext = [] ∨ ext = [1]) : ∀ (k : Nat) (t : T), t.dep ≤ k → t.wf → ∀ i l p, i ≤ l → t.paths[l]? = some p → PathOk (p ++ ext) t.d ∧ (i < l → Mod t (putD (p ++ ext) t.d x) i) := by
  intro k
  induction k with
  | zero =>
    intro t hd hw i l p hil hp
    cases t with
    | node s ts => simp [T.dep] at hd
    | leaf o =>
      have hl : l < 1 := by have := (List.getElem?_eq_some_iff.1 hp).1; simpa [T.paths] using this
      have : l = 0 := by omega
      subst this
      simp [T.paths] at hp
      subst hp
      refine ⟨?_, fun h => by omega⟩
      rcases hext with rfl | rfl
      · trivial
      · simp [PathOk, T.d]
  | succ k ih =>
    intro t hd hw i l p hil hp
    cases t with
    | leaf o =>
      have hl : l < 1 := by have := (List.getElem?_eq_some_iff.1 hp).1; simpa [T.paths] using this
      have : l = 0 := by omega
      subst this
      simp [T.paths] at hp
      subst hp
      refine ⟨?_, fun h => by omega⟩
      rcases hext with rfl | rfl
      · trivial
      · simp [PathOk, T.d]
    | node s ts =>
      simp only [T.dep] at hd
      have hlt : l < cntL ts + 1 := by have := (List.getElem?_eq_some_iff.1 hp).1; rw [paths_len] at this; simpa [T.cnt] using this
      cases l with
      | zero =>
        simp [T.paths] at hp
        subst hp
        refine ⟨?_, fun h => by omega⟩
        rcases hext with rfl | rfl
        · trivial
        · have := hw.2.1
          simp [PathOk, T.d, dL_len]; omega
      | succ l =>
        obtain ⟨a, u, b, m, rfl, rfl, h3⟩ := split_at ts l (by omega)
        have hm := mem_mid a u b
        have hdu := dep_mem hm
        have e : cntL a + m + 1 = 1 + cntL a + m := by omega
        rw [e, paths_child s a u b m h3] at hp
        obtain ⟨q, hq, rfl⟩ := Option.map_eq_some_iff.1 hp
        have hwu := wfL_mem hm hw.2.2
        have h12 : a.length + b.length ≤ 900 := by have := hw.2.1; simp at this; omega
        have hlen : (dL a).length + (dL b).length ≤ 900 := by rw [dL_len, dL_len]; exact h12
        have e2 : (T.node s (a ++ u :: b)).d = .tup (.str "node" :: .int (sg s) :: (dL a ++ u.d :: dL b)) := by simp [T.d, dL_app, dL]
        have pu := (ih u (by omega) hwu m m q (Nat.le_refl _) hq).1
        have ha : 2 + a.length = 2 + (dL a).length := by rw [dL_len]
        rw [e2, List.cons_append, ha]
        refine ⟨path_mid s _ _ _ _ hlen pu, fun h => ?_⟩
        rw [put_mid]
        cases i with
        | zero => exact Mod.head (.node s (a ++ u :: b)) _ (by simp [T.ts, dL_len])
        | succ i =>
          by_cases hi : i < cntL a
          · obtain ⟨a1, u1, a2, m1, rfl, rfl, h4⟩ := split_at a i hi
            have hm1 : u1 ∈ (a1 ++ u1 :: a2) ++ u :: b := by simp
            have hd1 := dep_mem hm1
            have q1 := Mod.child s a1 u1 (a2 ++ u :: b) u1.d (dL a2 ++ putD (q ++ ext) u.d x :: dL b) m1 (mod_self k u1 (by omega) m1 h4) (by simp [dL_len]) h4
            have e3 : cntL a1 + m1 + 1 = 1 + cntL a1 + m1 := by omega
            rw [e3]
            simpa [dL_app, dL] using q1
          · obtain ⟨m1, rfl⟩ : ∃ m1, i = cntL a + m1 := ⟨i - cntL a, by omega⟩
            have q1 := Mod.child s a u b _ (dL b) m1 ((ih u (by omega) hwu m1 m q (by omega) hq).2 (by omega)) (dL_len b) (by omega)
            have e3 : cntL a + m1 + 1 = 1 + cntL a + m1 := by omega
            rw [e3]
            exact q1
/-- every part that is refused at its place -/
def WAll (x : D) : Prop := ∀ lv, CkBad lv x []
/-- every number that is refused -/
def WOut (x : D) : Prop := ∀ (lv : Nat) (w : Str) (rest : List D), ((w = "end" ∧ rest.length = 0) ∨ (w = "node" ∧ 1 ≤ rest.length ∧ rest.length ≤ 12 ∧ lv < 20)) → CkBad lv (.tup (.str w :: x :: rest)) [1]
theorem mod_bad {t : T} {d : D} {i : Nat} (hm : Mod t d i) : t.wf → ∀ (lv : Nat) p x, t.dep + lv ≤ 20 → t.nn ≤ 1000 → t.nl ≤ 1000 → t.paths[i]? = some p →
    PathOk p d ∧ PathOk (p ++ [1]) d ∧ (WAll x → Bad lv (putD p d x) p) ∧ (WOut x → Bad lv (putD (p ++ [1]) d x) (p ++ [1])) := by
  induction hm with
  | head t rest hr =>
    intro hw lv p x hd hn hl hp
    have : p = [] := by cases t <;> simp [T.paths] at hp <;> exact hp
    subst this
    have hrl : rest.length ≤ 12 := by
      rw [hr]
      cases t with
      | leaf o => simp [T.ts]
      | node s ts => exact hw.2.1
    refine ⟨trivial, ⟨by simp, by simp; omega, trivial⟩, fun h => .here (h lv), fun h => ?_⟩
    refine .here ?_
    show CkBad lv (.tup (.str t.w :: x :: rest)) [1]
    refine h lv t.w rest ?_
    cases t with
    | leaf o => exact Or.inl ⟨rfl, by rw [hr]; rfl⟩
    | node s ts =>
      simp only [T.dep] at hd
      exact Or.inr ⟨rfl, by rw [hr]; exact hw.1, hrl, by omega⟩
  | child s a u b d rest i hm hr hi ih =>
    intro hw lv p x hd hn hl hp
    rw [paths_child s a u b i hi] at hp
    obtain ⟨q, hq, rfl⟩ := Option.map_eq_some_iff.1 hp
    have hmem := mem_mid a u b
    have hdu := dep_mem hmem
    simp only [T.dep, T.nn, T.nl] at hd hn hl
    have hda : depL a ≤ depL (a ++ u :: b) := by rw [depL_app]; omega
    rw [nnL_app] at hn
    rw [nlL_app] at hl
    simp only [nnL, nlL] at hn hl
    have h12 : a.length + b.length + 1 ≤ 12 := by have := hw.2.1; simp at this; omega
    have hwu := wfL_mem hmem hw.2.2
    have hwa : wfL a := (wfL_app.1 hw.2.2).1
    obtain ⟨i1, i2, i3, i4⟩ := ih hwu (lv + 1) q x (by omega) (by omega) (by omega) hq
    have ha : 2 + a.length = 2 + (dL a).length := by rw [dL_len]
    have hlen : (dL a).length + rest.length ≤ 900 := by rw [dL_len, hr]; omega
    have P : ∀ r, PathOk r d → PathOk ((2 + a.length) :: r) (.tup (.str "node" :: .int (sg s) :: (dL a ++ d :: rest))) := fun r h => by
      rw [ha]; exact path_mid s _ _ _ _ hlen h
    have B : ∀ r y due, Bad (lv + 1) (putD r d y) due → Bad lv (putD ((2 + a.length) :: r) (.tup (.str "node" :: .int (sg s) :: (dL a ++ d :: rest))) y) ((2 + a.length) :: due) := fun r y due h => by
      have e := put_mid s (dL a) d rest r y
      rw [dL_len] at e
      rw [e]
      exact .deep s a rest (by omega) (by omega) hwa (by omega) (by omega) (by omega) h
    exact ⟨P _ i1, P _ i2, fun h => B _ _ _ (i3 h), fun h => B _ _ _ (i4 h)⟩
end Mp.K42
end
section
set_option Elab.async false
set_option linter.all false
set_option maxHeartbeats 0
/-! K42Wrongs: the law's wrong parts are refused; _law_paths, _law_put. -/
namespace Mp.K42
open PySem L2
@[simp] theorem isD_non_x (f) (S : Sto) : isD f .non S (.bi "int") = some false := by simp [isD, biNames]
@[simp] theorem isD_str_i (f) (x : Str) (S : Sto) : isD f (.str x) S (.bi "int") = some false := by simp [isD, biNames]
@[simp] theorem isD_tup_i (f) (ds : List D) (S : Sto) : isD f (.tup ds) S (.bi "int") = some false := by simp [isD, biNames]
/-- no outcome -/
def NoOut (x : D) : Prop := (∃ z : Int, x = .int z ∧ ¬(0 ≤ z ∧ z ≤ 1)) ∨ (∃ w, x = .str w) ∨ ∃ ds, x = .tup ds
theorem out_noD (k : Nat) (x : D) (S : Sto) (h : NoOut x) : (lev M.prg (k + 1)).call "is_outcome" [x] S = .ok (.bl false) S := by
  rcases h with ⟨z, rfl, hz⟩ | ⟨w, rfl⟩ | ⟨ds, rfl⟩
  · exact out_no k z S hz
  · rw [lev_call _ _ _ _ _ _ fn_out rfl]; simp -implicitDefEqProofs [c_is_outcome]
  · rw [lev_call _ _ _ _ _ _ fn_out rfl]; simp -implicitDefEqProofs [c_is_outcome]
theorem natD_nil : natD [] = [] := rfl
theorem wout_of (x : D) (h : NoOut x) : WOut x := by
  rintro lv w rest (⟨rfl, hr⟩ | ⟨rfl, h1, h2, h3⟩)
  · constructor
    intro k S pp hp
    rw [lev_call _ _ _ _ _ _ fn_check rfl]
    apply Fl.Exn.res
    have a1 : ((rest.length : Int) + 1 + 1 = 2) := by omega
    have bl : pp.length + 1 ≤ 16777216 := by omega
    simp -implicitDefEqProofs [c_check_tree, ixD_tup, notin_end, end_node, a1, out_noD _ x _ h, add_tup1 _ pp _ bl, exc_lev, exc_duel, exnO, exD, natD]
  · constructor
    intro k S pp hp
    rw [lev_call _ _ _ _ _ _ fn_check rfl]
    apply Fl.Exn.res
    have a1 : (3 : Int) ≤ ((rest.length : Int) + 1 + 1) := by omega
    have a2 : ((rest.length : Int) + 1 + 1) ≤ 14 := by omega
    have a0 : ¬((rest.length : Int) + 1 + 1 = 0) := by omega
    have a3 : ¬((20 : Int) ≤ (lv : Int)) := by omega
    have bl : pp.length + 1 ≤ 16777216 := by omega
    simp -implicitDefEqProofs [c_check_tree, ixD_tup, notin_node, node_end, lev_con, lev_ccon, con_trees, con_levels, a0, a1, a2, a3, out_noD _ x _ h, add_tup1 _ pp _ bl, exc_lev, exc_duel, exnO, exD, natD]
theorem wall_notup (x : D) (h : ∀ f S, isD f x S (.bi "tuple") = some false) : WAll x := by
  intro lv
  constructor
  intro k S pp hp
  rw [lev_call _ _ _ _ _ _ fn_check rfl]
  apply Fl.Exn.res
  simp -implicitDefEqProofs [c_check_tree, h, exc_lev, exc_duel, exnO, exD, natD]
theorem wall_empty : WAll (.tup []) := by
  intro lv
  constructor
  intro k S pp hp
  rw [lev_call _ _ _ _ _ _ fn_check rfl]
  apply Fl.Exn.res
  simp -implicitDefEqProofs [c_check_tree, exc_lev, exc_duel, exnO, exD, natD]
theorem wall_kind (x : D) (rest : List D) (h : ∀ S, cmpD .NotIn x (.tup [.str "end", .str "node"]) S = some true) : WAll (.tup (x :: rest)) := by
  intro lv
  constructor
  intro k S pp hp
  rw [lev_call _ _ _ _ _ _ fn_check rfl]
  apply Fl.Exn.res
  have a0 : ¬((rest.length : Int) + 1 = 0) := by omega
  simp -implicitDefEqProofs [c_check_tree, ixD_tup, h, a0, exc_lev, exc_duel, exnO, exD, natD]
theorem wall_end (rest : List D) (h : rest.length ≠ 1) : WAll (.tup (.str "end" :: rest)) := by
  intro lv
  constructor
  intro k S pp hp
  rw [lev_call _ _ _ _ _ _ fn_check rfl]
  apply Fl.Exn.res
  have a0 : ¬((rest.length : Int) + 1 = 0) := by omega
  have a1 : ¬((rest.length : Int) + 1 = 2) := by omega
  simp -implicitDefEqProofs [c_check_tree, ixD_tup, notin_end, a0, a1, exc_lev, exc_duel, exnO, exD, natD]
theorem ck_node (lv : Nat) (rest : List D) (h : rest.length < 2 ∨ 13 < rest.length ∨ 20 ≤ lv) : CkBad lv (.tup (.str "node" :: rest)) [] := by
  constructor
  intro k S pp hp
  rw [lev_call _ _ _ _ _ _ fn_check rfl]
  apply Fl.Exn.res
  have a0 : ¬((rest.length : Int) + 1 = 0) := by omega
  by_cases b1 : (3 : Int) ≤ (rest.length : Int) + 1
  · by_cases b2 : (rest.length : Int) + 1 ≤ 14
    · have b3 : (20 : Int) ≤ (lv : Int) := by omega
      simp -implicitDefEqProofs [c_check_tree, ixD_tup, notin_node, node_end, lev_con, lev_ccon, con_trees, con_levels, a0, b1, b2, b3, exc_lev, exc_duel, exnO, exD, natD]
    · simp -implicitDefEqProofs [c_check_tree, ixD_tup, notin_node, node_end, lev_con, lev_ccon, con_trees, con_levels, a0, b1, b2, exc_lev, exc_duel, exnO, exD, natD]
  · simp -implicitDefEqProofs [c_check_tree, ixD_tup, notin_node, node_end, lev_con, lev_ccon, con_trees, con_levels, a0, b1, exc_lev, exc_duel, exnO, exD, natD]
theorem wall_node (rest : List D) (h : rest.length < 2 ∨ 13 < rest.length) : WAll (.tup (.str "node" :: rest)) := fun lv => ck_node lv rest (by omega)
theorem notin_leaf (S : Sto) : cmpD .NotIn (.str "leaf") (.tup [.str "end", .str "node"]) S = some true := by
  have : inD (.str "leaf") (.tup [.str "end", .str "node"]) [] = some false := by kernel_rfl
  have : inD (.str "leaf") (.tup [.str "end", .str "node"]) S = some false := this
  simp [cmpD, this]
theorem notin_tup (S : Sto) : cmpD .NotIn (.tup [.str "end", .int 0]) (.tup [.str "end", .str "node"]) S = some true := by
  have : inD (.tup [.str "end", .int 0]) (.tup [.str "end", .str "node"]) [] = some false := by kernel_rfl
  have : inD (.tup [.str "end", .int 0]) (.tup [.str "end", .str "node"]) S = some false := this
  simp [cmpD, this]
/-! ### _law_paths, _law_put -/
def pthD (pp : List D) (p : List Nat) : D := .tup (pp ++ natD p)
theorem fn_paths : M.prg.fn "_law_paths" = some ⟨3, 4, c__law_paths⟩ := by kernel_rfl
theorem cntL_take (ts : List T) (i : Nat) (h : i < ts.length) : cntL (ts.take i) + ts[i].cnt ≤ cntL ts := by
  rw [cntL_eq, cntL_eq, cnt_eq]
  have := nnL_take ts i h
  have := nlL_take ts i h
  omega
theorem paths_ok : ∀ (k : Nat) (t : T) (S : Sto) (F : Nat) (pp fv : List D), t.dep ≤ k → t.wf → pp.length + t.dep ≤ 1000 → S[F]? = some (.lst fv) → fv.length + t.cnt ≤ 100000 →
    ((lev M.prg (k + 1)).call "_law_paths" [t.d, .tup pp, .ref F] S).Good fun r S' => r = .non ∧ Fr [F] S S' ∧ S'[F]? = some (.lst (fv ++ t.paths.map (pthD pp))) := by
  intro k
  induction k with
  | zero =>
    intro t S F pp fv hd hw hp hF hb
    cases t with
    | node s ts => simp [T.dep] at hd
    | leaf o =>
      rw [lev_call _ _ _ _ _ _ fn_paths rfl]
      simp only [T.cnt] at hb
      have e1 := set_self hF (.lst (fv ++ [.tup pp]))
      simp -implicitDefEqProofs [c__law_paths, T.d, ixD_tup, end_node, bmOk_app hF, app_ref hF (show fv.length < 16777216 by omega), T.paths, pthD, natD]
      exact ⟨Fr.set _ _ (by simp), e1⟩
  | succ k ih =>
    intro t S F pp fv hd hw hp hF hb
    cases t with
    | leaf o =>
      rw [lev_call _ _ _ _ _ _ fn_paths rfl]
      simp only [T.cnt] at hb
      have e1 := set_self hF (.lst (fv ++ [.tup pp]))
      simp -implicitDefEqProofs [c__law_paths, T.d, ixD_tup, end_node, bmOk_app hF, app_ref hF (show fv.length < 16777216 by omega), T.paths, pthD, natD]
      exact ⟨Fr.set _ _ (by simp), e1⟩
    | node s ts =>
      simp only [T.cnt, T.dep] at hb hd hp
      have h12 := hw.2.1
      have e1 := set_self hF (.lst (fv ++ [.tup pp]))
      suffices h : ((evSs (lev M.prg (k + 1)) none c__law_paths [some (T.node s ts).d, some (.tup pp), some (.ref F), none] S).Nx fun _ S' => Fr [F] S S' ∧ S'[F]? = some (.lst (fv ++ (T.node s ts).paths.map (pthD pp)))) by
        rw [lev_call _ _ _ _ _ _ fn_paths rfl]
        obtain ⟨ρ, S', h, q⟩ := h
        exact ⟨.non, S', by show (evSs _ _ _ _ _).res = _; rw [show (List.map some [(T.node s ts).d, D.tup pp, .ref F] ++ List.replicate (4 - 3) none : Env) = [some (T.node s ts).d, some (.tup pp), some (.ref F), none] from rfl, h]; rfl, rfl, q⟩
      simp -implicitDefEqProofs [c__law_paths, T.d, ixD_tup, bmOk_app hF, app_ref hF (show fv.length < 16777216 by omega), dL_len, rangeI_two ts.length (by omega), T.paths]
      apply Fl.Nx.then_
      apply Fl.Nx.then_
      refine for_nx (fun i ρ S' => (∃ x, ρ = [some (.tup (.str "node" :: .int (sg s) :: dL ts)), some (.tup pp), some (.ref F), x]) ∧ Fr [F] S S' ∧ S'[F]? = some (.lst (fv ++ .tup pp :: (pathsL (ts.take i) 2).map (pthD pp)))) ?_ (fun _ _ _ _ => trivial) ?_ ?_
      · exact ⟨⟨none, rfl⟩, Fr.set _ _ (by simp), by simpa [pathsL] using e1⟩
      · rintro i hi ρ S1 ⟨⟨x, rfl⟩, f1, v1⟩
        have hi' : i < ts.length := by simpa using hi
        refine ⟨_, rfl, ?_⟩
        rw [rangeL_get]
        have t1 := cntL_take ts i hi'
        have hx : L2.atI (D.str "node" :: .int (sg s) :: dL ts) (2 + (i : Int)) = some ts[i].d := by
          have : (2 + (i : Int)) = ((i + 2 : Nat) : Int) := by omega
          rw [this, atI_nat]; simp [dL_map, hi']
        have td := dep_mem (List.getElem_mem hi')
        simp -implicitDefEqProofs [p1__law_paths, ixD_tup, hx, add_tup1 _ pp _ (show pp.length + 1 ≤ 16777216 by omega)]
        apply Fl.Nx.then_
        apply Res.Good.nx
        have q := ih ts[i] S1 F (pp ++ [.int (2 + (i : Int))]) _ (by omega) (wfL_mem (List.getElem_mem hi') hw.2.2) (by simp; omega) v1 (by simp [pathsL_len]; omega)
        refine q.mono ?_
        rintro r S2 ⟨rfl, f2, v2⟩
        have hsn : pathsL (ts.take (i + 1)) 2 = pathsL (ts.take i) 2 ++ ts[i].paths.map ((2 + i) :: ·) := by
          rw [List.take_succ_eq_append_getElem hi', pathsL_app]
          simp [pathsL, Nat.min_eq_left (Nat.le_of_lt hi')]
        simp -implicitDefEqProofs
        refine ⟨f1.trans f2, ?_⟩
        rw [v2, hsn]
        simp [pthD, natD, Function.comp_def]
      · rintro ρ S1 ⟨⟨x, rfl⟩, f1, v1⟩
        rw [rangeL_len, List.take_length] at v1
        simp -implicitDefEqProofs
        refine ⟨f1, ?_⟩
        rw [v1]
        simp [pthD, natD]
theorem fn_put : M.prg.fn "_law_put" = some ⟨3, 3, c__law_put⟩ := by kernel_rfl
theorem natD_cons (i : Nat) (p : List Nat) : natD (i :: p) = .int (i : Nat) :: natD p := rfl
theorem cut1 (a : D) (l : List D) : cutD (a :: l) (some 1) none = l := by simp [cutD, HT.sIx]
theorem put_ok : ∀ (k : Nat) (p : List Nat) (d x : D) (S : Sto), p.length ≤ k → PathOk p d → (lev M.prg (k + 1)).call "_law_put" [d, .tup (natD p), x] S = .ok (putD p d x) S := by
  intro k
  induction k with
  | zero =>
    intro p d x S hp h
    cases p with
    | cons i p => simp at hp
    | nil =>
      rw [lev_call _ _ _ _ _ _ fn_put rfl]
      simp -implicitDefEqProofs [c__law_put, natD_nil, putD]
  | succ k ih =>
    intro p d x S hp h
    cases p with
    | nil =>
      rw [lev_call _ _ _ _ _ _ fn_put rfl]
      simp -implicitDefEqProofs [c__law_put, natD_nil, putD]
    | cons i p =>
      cases d with
      | tup ds =>
        obtain ⟨h1, h2, h3⟩ := h
        rw [lev_call _ _ _ _ _ _ fn_put rfl]
        have hg : ds.getD i .non = ds[i] := by simp [List.getD, h1]
        have hx : L2.atI ds (i : Int) = some ds[i] := by rw [atI_nat]; simp [h1]
        have hg' : ds[i]?.getD D.non = ds[i] := by simp [h1]
        rw [hg] at h3
        have q := ih p ds[i] x S (by simpa using hp) h3
        have a0 : ¬(((natD p).length : Int) + 1 = 0) := by omega
        have b1 : (ds.take i).length + 1 ≤ 16777216 := by rw [List.length_take]; omega
        have b2 : (ds.take i ++ [putD p ds[i] x]).length + (ds.drop (i + 1)).length ≤ 16777216 := by
          rw [List.length_append, List.length_take, List.length_drop]; simp only [List.length_cons, List.length_nil]; omega
        simp -implicitDefEqProofs [c__law_put, natD_cons, a0, ixD_tup, cut_to ds i (by omega), hx, cut1, q, add_tup1 _ _ _ b1, cut_from1 ds i h1, add_tup _ _ _ b2, putD, hg']
      | non => exact h.elim
      | bl b => exact h.elim
      | int i => exact h.elim
      | str x => exact h.elim
      | rol ds => exact h.elim
      | ref n => exact h.elim
end Mp.K42
end
section
set_option Elab.async false
set_option linter.all false
set_option maxHeartbeats 0
/-! K42Spoil: _law_spoilt. -/
namespace Mp.K42
open PySem L2
def NumOk (i : Int) : Prop := i = 0 ∨ i = 1 ∨ i = 2 ∨ i = 7 ∨ i = 999999999
def WordOk (w : Str) : Prop := w = "duel" ∨ w = "dual" ∨ w = "end" ∨ w = "node" ∨ w = "one" ∨ w = "leaf"
/-- a term that can be written -/
inductive Tm : Nat → D → Prop where
  | num {j i} : NumOk i → Tm j (.int i)
  | word {j w} : WordOk w → Tm j (.str w)
  | tup {j ds} : ds.length ≤ 1000 → (∀ d ∈ ds, Tm j d) → Tm (j + 1) (.tup ds)
mutual
/-- more than the length of the text -/
def sz : D → Nat
  | .tup ds => szL ds + 20
  | _ => 20
def szL : List D → Nat
  | [] => 0
  | d :: ds => sz d + szL ds
end
theorem Tm.mono {i j : Nat} {d : D} (h : Tm i d) (g : i ≤ j) : Tm j d := by
  induction h generalizing j with
  | num h => exact .num h
  | word h => exact .word h
  | @tup i ds hl h ih =>
    obtain ⟨m, rfl⟩ : ∃ m, j = m + 1 := ⟨j - 1, by omega⟩
    exact .tup hl fun d hd => ih d hd (by omega)
theorem szL_app (a b : List D) : szL (a ++ b) = szL a + szL b := by
  induction a with
  | nil => simp [szL]
  | cons d a ih => simp [szL, ih, Nat.add_assoc]
theorem tm_sg (j : Nat) (b : Bool) : Tm j (.int (sg b)) := .num (by cases b <;> simp [NumOk, sg])
theorem tm_end (j : Nat) : Tm j (.str "end") := .word (Or.inr (Or.inr (Or.inl rfl)))
theorem tm_node (j : Nat) : Tm j (.str "node") := .word (Or.inr (Or.inr (Or.inr (Or.inl rfl))))
mutual
theorem tm_T : ∀ (t : T), t.wf → Tm (t.dep + 1) t.d ∧ sz t.d ≤ 60 * t.cnt
  | .leaf o, _ => by
    refine ⟨.tup (by simp) ?_, by simp [T.d, sz, szL, T.cnt]⟩
    intro d hd
    simp at hd
    rcases hd with rfl | rfl
    · exact tm_end _
    · exact tm_sg _ _
  | .node s ts, h => by
    obtain ⟨h1, h2⟩ := tm_L ts h.2.2
    simp only [T.d, T.dep, T.cnt]
    refine ⟨.tup (by simp [dL_map]; have := h.2.1; omega) ?_, by simp [sz, szL]; omega⟩
    intro d hd
    simp at hd
    rcases hd with rfl | rfl | hd
    · exact tm_node _
    · exact tm_sg _ _
    · exact h1 d hd
theorem tm_L : ∀ (ts : List T), wfL ts → (∀ d ∈ dL ts, Tm (depL ts + 1) d) ∧ szL (dL ts) ≤ 60 * cntL ts
  | [], _ => ⟨by simp [dL], by simp [dL, szL]⟩
  | t :: ts, h => by
    obtain ⟨h1, h2⟩ := tm_T t h.1
    obtain ⟨h3, h4⟩ := tm_L ts h.2
    refine ⟨fun d hd => ?_, by simp only [dL, szL, cntL]; omega⟩
    simp [dL] at hd
    simp only [depL]
    rcases hd with rfl | hd
    · exact h1.mono (by omega)
    · exact (h3 d hd).mono (by omega)
end
theorem sz_mem {ds : List D} {i : Nat} (h : i < ds.length) : sz ds[i] ≤ szL ds := by
  induction ds generalizing i with
  | nil => simp at h
  | cons d ds ih => cases i with
    | zero => simp [szL]
    | succ i => have := ih (i := i) (by simpa using h); simp [szL]; omega
theorem szL_take_drop (ds : List D) (i : Nat) (h : i < ds.length) : szL (ds.take i) + sz ds[i] + szL (ds.drop (i + 1)) = szL ds := by
  have := List.take_append_drop i ds
  rw [List.drop_eq_getElem_cons h] at this
  have e := congrArg szL this
  rw [szL_app] at e
  simp only [szL] at e
  omega
theorem tm_put (m : Nat) (x : D) (hx : Tm m x) : ∀ (p : List Nat) (j : Nat) (d : D), Tm j d → PathOk p d → Tm (j + m) (putD p d x) ∧ sz (putD p d x) ≤ sz d + sz x
  | [], j, d, _, _ => ⟨hx.mono (by omega), by simp [putD]⟩
  | i :: p, _, .tup ds, .tup (j := j) hl hd, ⟨h1, h2, h3⟩ => by
    have hg : ds.getD i .non = ds[i] := by simp [List.getD, h1]
    rw [hg] at h3
    obtain ⟨q1, q2⟩ := tm_put m x hx p j ds[i] (hd _ (List.getElem_mem h1)) h3
    have hsz := szL_take_drop ds i h1
    refine ⟨?_, ?_⟩
    · simp only [putD, hg]
      rw [show j + 1 + m = (j + m) + 1 by omega]
      refine .tup (by simp; omega) ?_
      intro d hdd
      simp at hdd
      rcases hdd with hdd | rfl | hdd
      · exact (hd _ (List.mem_of_mem_take hdd)).mono (by omega)
      · exact q1
      · exact (hd _ (List.mem_of_mem_drop hdd)).mono (by omega)
    · simp only [putD, hg, sz, szL_app, szL]
      omega
/-- a part put in its place -/
def Spo (d : D) (p : List Nat) (d' : D) (due' : List Nat) : Prop :=
  (∃ x, NoOut x ∧ Tm 2 x ∧ sz x ≤ 1000 ∧ d' = putD (p ++ [1]) d x ∧ due' = p ++ [1]) ∨ (∃ x, WAll x ∧ Tm 2 x ∧ sz x ≤ 1000 ∧ d' = putD p d x ∧ due' = p)
theorem mult13 (x : D) (S : Sto) : binD .Mult (.tup [x]) (.int 13) S = .ok (.tup (List.replicate 13 x)) S := by
  simp [binD, List.replicate]
theorem tm_one (j : Nat) (d : D) (h : Tm j d) : Tm (j + 1) (.tup [d]) := .tup (by simp) (by simpa using h)
theorem tm_two (j : Nat) (a b : D) (h : Tm j a) (g : Tm j b) : Tm (j + 1) (.tup [a, b]) := .tup (by simp) (by simp [h, g])
theorem tm_i (j : Nat) (i : Int) (h : NumOk i) : Tm j (.int i) := .num h
theorem out_list (p : Nat) (hp : p < 5) : ∃ x, L2.atI [D.int 2, .str "one", .tup [], .tup [.str "end", .int 0], .int 999999999] (p : Int) = some x ∧ NoOut x ∧ Tm 2 x ∧ sz x ≤ 1000 := by
  match p, hp with
  | 0, _ => exact ⟨_, rfl, Or.inl ⟨2, rfl, by omega⟩, .num (by simp [NumOk]), by simp [sz]⟩
  | 1, _ => exact ⟨_, rfl, Or.inr (Or.inl ⟨_, rfl⟩), .word (by simp [WordOk]), by simp [sz]⟩
  | 2, _ => exact ⟨_, rfl, Or.inr (Or.inr ⟨_, rfl⟩), .tup (by simp) (by simp), by simp [sz, szL]⟩
  | 3, _ => exact ⟨_, rfl, Or.inr (Or.inr ⟨_, rfl⟩), tm_two 1 _ _ (tm_end _) (.num (by simp [NumOk])), by simp [sz, szL]⟩
  | 4, _ => exact ⟨_, rfl, Or.inl ⟨999999999, rfl, by omega⟩, .num (by simp [NumOk]), by simp [sz]⟩
def wrongs : List D := [.int 7, .str "end", .tup [], .tup [.str "leaf", .int 0], .tup [.str "end"], .tup [.str "end", .int 1, .int 1], .tup [.str "node", .int 1], .tup (.str "node" :: .int 0 :: List.replicate 13 (.tup [.str "end", .int 1])), .tup [.tup [.str "end", .int 0]], .tup [.str "node"]]
theorem tm_leaf (j : Nat) : Tm j (.str "leaf") := .word (Or.inr (Or.inr (Or.inr (Or.inr (Or.inr rfl)))))
theorem wrongs_ok (p : Nat) (hp : p < 10) : ∃ x, L2.atI wrongs (p : Int) = some x ∧ WAll x ∧ Tm 2 x ∧ sz x ≤ 1000 := by
  match p, hp with
  | 0, _ => exact ⟨_, rfl, wall_notup _ fun f S => isD_int_t f 7 S, .num (by simp [NumOk]), by simp [sz]⟩
  | 1, _ => exact ⟨_, rfl, wall_notup _ fun f S => isD_str_t f _ S, tm_end _, by simp [sz]⟩
  | 2, _ => exact ⟨_, rfl, wall_empty, .tup (by simp) (by simp), by simp [sz, szL]⟩
  | 3, _ => exact ⟨_, rfl, wall_kind _ _ notin_leaf, tm_two 1 _ _ (tm_leaf _) (.num (by simp [NumOk])), by simp [sz, szL]⟩
  | 4, _ => exact ⟨_, rfl, wall_end [] (by simp), tm_one 1 _ (tm_end _), by simp [sz, szL]⟩
  | 5, _ => exact ⟨_, rfl, wall_end [.int 1, .int 1] (by simp), .tup (by simp) (by
      intro d hd
      simp at hd
      rcases hd with rfl | rfl
      · exact tm_end _
      · exact .num (by simp [NumOk])), by simp [sz, szL]⟩
  | 6, _ => exact ⟨_, rfl, wall_node [.int 1] (by simp), tm_two 1 _ _ (tm_node _) (.num (by simp [NumOk])), by simp [sz, szL]⟩
  | 7, _ => exact ⟨_, rfl, wall_node _ (by simp), .tup (by simp) (by
      intro d hd
      simp only [List.mem_cons, List.mem_replicate] at hd
      rcases hd with rfl | rfl | ⟨_, rfl⟩
      · exact tm_node _
      · exact .num (by simp [NumOk])
      · exact tm_two 0 _ _ (tm_end _) (.num (by simp [NumOk]))), by simp [sz, szL, List.replicate]⟩
  | 8, _ => exact ⟨_, rfl, wall_kind _ _ notin_tup, tm_one 1 _ (tm_two 0 _ _ (tm_end _) (.num (by simp [NumOk]))), by simp [sz, szL]⟩
  | 9, _ => exact ⟨_, rfl, wall_node [] (by simp), tm_one 1 _ (tm_node _), by simp [sz, szL]⟩
theorem fn_spoilt : M.prg.fn "_law_spoilt" = some ⟨2, 10, c__law_spoilt⟩ := by kernel_rfl
theorem turn_spoilt (k : Nat) (S : Sto) (s n P i : Nat) (t : T) (d : D) (p : List Nat) (x3 x4 x5 x7 x8 x9 : Option D) (hs : Stt S s n) (hP : S[P]? = some (.lst (t.paths.map (pthD [])))) (hp : t.paths[i]? = some p) (hl : p.length ≤ 40) (o1 : PathOk p d) (o2 : PathOk (p ++ [1]) d) :
    (evSs (lev M.prg (k + 50)) none p1__law_spoilt [some (.ref s), some d, some (.ref P), x3, x4, x5, some (.int i), x7, x8, x9] S).Nx fun ρ S' => Fr [s] S S' ∧ Stt S' s n ∧ ∃ d' due' y7 y8 y9, ρ = [some (.ref s), some d', some (.ref P), x3, x4, some (.tup (natD due')), some (.int i), y7, y8, y9] ∧ Spo d p d' due' := by
  have hx : L2.atI (t.paths.map (pthD [])) (i : Int) = some (.tup (natD p)) := by rw [atI_nat]; simp [hp, pthD]
  have hnl : (natD p).length + 1 ≤ 16777216 := by rw [natD_len]; omega
  have hn1 : natD p ++ [D.int 1] = natD (p ++ [1]) := by simp [natD]
  have a1 := add_tup1 (.int 1) (natD p) 
  simp -implicitDefEqProofs [p1__law_spoilt, ixD_ref hP, hx]
  apply Fl.Nx.then_
  apply Res.Good.nx
  repeat with_reducible apply Res.Good.bind
  refine (pick_good (k + 49) S s n 2 hs (by omega) (by omega)).mono ?_
  rintro r S1 ⟨g, hg, rfl, f1, s1⟩
  by_cases hg0 : g = 0
  · subst hg0
    have b1 := a1 S1 hnl
    rw [hn1] at b1
    simp -implicitDefEqProofs [b1]
    apply Fl.Nx.then_
    apply Res.Good.nx
    repeat with_reducible apply Res.Good.bind
    refine (pick_good (k + 49) _ s n 5 (s1.keep (Fr.app [] _ _) (by simp) (by simp)) (by omega) (by omega)).mono ?_
    rintro r S2 ⟨q, hq, rfl, f2, s2⟩
    have ls := hs.ls
    have q1 := f1.1
    have l2 : S2[S1.length]? = some (.lst [.int 2, .str "one", .tup [], .tup [.str "end", .int 0], .int 999999999]) := f2.at (by simp) (by simp; omega)
    obtain ⟨x, hx1, hx2, hx3, hx4⟩ := out_list q hq
    have hput := put_ok (k + 49) (p ++ [1]) d x S2 (by simp; omega) o2
    simp -implicitDefEqProofs [ixD_ref l2, hx1, hput]
    exact ⟨(f1.trans (Fr.app _ _ _)).trans f2, s2, _, _, ⟨rfl, rfl⟩, Or.inl ⟨x, hx2, hx3, hx4, rfl, rfl⟩⟩
  · obtain ⟨LV, hLV⟩ : ∃ LV, LV = List.replicate 13 (D.tup [.str "end", .int 1]) := ⟨_, rfl⟩
    have hlv : [D.str "node", .int 0].length + LV.length ≤ 16777216 := by simp [hLV]
    have ad : binD .Add (.tup [D.str "node", .int 0]) (.tup LV) S1 = .ok (.tup (D.str "node" :: .int 0 :: LV)) S1 := add_tup [D.str "node", .int 0] LV S1 hlv
    have m13 : ∀ S, binD .Mult (.tup [.tup [.str "end", .int 1]]) (.int 13) S = .ok (.tup LV) S := fun S => by rw [hLV]; exact mult13 _ _
    simp -implicitDefEqProofs [hg0, m13, ad]
    apply Fl.Nx.then_
    apply Res.Good.nx
    repeat with_reducible apply Res.Good.bind
    refine (pick_good (k + 49) _ s n 10 (s1.keep (Fr.app [] _ _) (by simp) (by simp)) (by omega) (by omega)).mono ?_
    rintro r S2 ⟨q, hq, rfl, f2, s2⟩
    have ls := hs.ls
    have q1 := f1.1
    have l2 : S2[S1.length]? = some (.lst wrongs) := f2.at (by simp [wrongs, hLV]) (by simp; omega)
    obtain ⟨x, hx1, hx2, hx3, hx4⟩ := wrongs_ok q hq
    have hput := put_ok (k + 49) p d x S2 (by omega) o1
    simp -implicitDefEqProofs [ixD_ref l2, hx1, hput]
    exact ⟨(f1.trans (Fr.app _ _ _)).trans f2, s2, _, _, ⟨rfl, rfl⟩, Or.inr ⟨x, hx2, hx3, hx4, rfl, rfl⟩⟩
end Mp.K42
end
section
set_option Elab.async false
set_option linter.all false
set_option maxHeartbeats 0
/-! K42Spoil2: _law_spoilt, whole. -/
namespace Mp.K42
open PySem L2
/-- the spoilt tree is refused as told -/
structure Spoilt (t : T) (d : D) (due : List Nat) : Prop where
  bad : Bad 0 d due
  tm : Tm (t.dep + 5) d
  sz : sz d ≤ 60 * t.cnt + 2000
  len : due.length ≤ 100
theorem spo_tm {d d' : D} {p due : List Nat} {j : Nat} (h : Spo d p d' due) (ht : Tm j d) (o1 : PathOk p d) (o2 : PathOk (p ++ [1]) d) : Tm (j + 2) d' ∧ sz d' ≤ sz d + 1000 := by
  rcases h with ⟨x, h1, h2, h3, rfl, rfl⟩ | ⟨x, h1, h2, h3, rfl, rfl⟩
  · obtain ⟨a, b⟩ := tm_put 2 x h2 _ j d ht o2
    exact ⟨a, by omega⟩
  · obtain ⟨a, b⟩ := tm_put 2 x h2 _ j d ht o1
    exact ⟨a, by omega⟩
theorem spo_fin {t : T} {d d' : D} {i : Nat} {p due : List Nat} (hm : Mod t d i) (hw : t.wf) (hd : t.dep ≤ 20) (hn : t.nn ≤ 1000) (hl : t.nl ≤ 1000) (hp : t.paths[i]? = some p) (ht : Tm (t.dep + 3) d) (hs : sz d ≤ 60 * t.cnt + 1000) (h : Spo d p d' due) : Spoilt t d' due := by
  have hlen := paths_dep t p (List.mem_of_getElem? hp)
  have q := fun x => mod_bad hm hw 0 p x (by omega) hn hl hp
  obtain ⟨o1, o2, _, _⟩ := q .non
  obtain ⟨a, b⟩ := spo_tm h ht o1 o2
  rcases h with ⟨x, h1, h2, h3, rfl, rfl⟩ | ⟨x, h1, h2, h3, rfl, rfl⟩
  · exact ⟨(q x).2.2.2 (wout_of x h1), a, by omega, by simp; omega⟩
  · exact ⟨(q x).2.2.1 h1, a, by omega, by omega⟩
theorem cnt_pos (t : T) : 0 < t.cnt := by rw [cnt_eq]; have := one_le t; omega
theorem spoilt_ok (k : Nat) (S : Sto) (s n : Nat) (t : T) (hs : Stt S s n) (hw : t.wf) (hd : t.dep ≤ 20) (hn : t.nn ≤ 1000) (hnl : t.nl ≤ 1000) :
    ((lev M.prg (k + 51)).call "_law_spoilt" [.ref s, t.d] S).Good fun r S' => Fr [s] S S' ∧ Stt S' s n ∧ ∃ w d' due, r = .ref w ∧ S'[w]? = some (.lst [d', .tup (natD due)]) ∧ Spoilt t d' due := by
  rw [lev_call _ _ _ _ _ _ fn_spoilt rfl]
  apply Fl.Ret.good
  have hc := cnt_eq t
  have hcp := cnt_pos t
  have ls := hs.ls
  obtain ⟨tm0, sz0⟩ := tm_T t hw
  have pl := paths_len t
  simp -implicitDefEqProofs [c__law_spoilt]
  apply Fl.Nx.ret
  apply Res.Good.nx
  have q := paths_ok (k + 49) t (S ++ [O.lst []]) S.length [] [] (by omega) hw (by simp; omega) (by simp) (by simp; omega)
  refine q.mono ?_
  rintro r S1 ⟨rfl, f1, v1⟩
  have F1 : Fr [] S S1 := (Fr.app [] S _).trans_fresh f1 (by simp)
  have s1 := hs.keep F1 (by simp) (by simp)
  rw [List.nil_append] at v1
  have pml : (t.paths.map (pthD [])).length = t.cnt := by simp [pl]
  simp -implicitDefEqProofs [len_ref v1, pl]
  apply Fl.Nx.ret
  apply Res.Good.nx
  refine (pick_good (k + 49) S1 s n t.cnt s1 hcp (by omega)).mono ?_
  rintro r S2 ⟨a, ha, rfl, f2, s2⟩
  have v2 := f2.at v1 (by simp; omega)
  have hsub : (t.cnt : Int) - (a : Int) = ((t.cnt - a : Nat) : Int) := by omega
  simp -implicitDefEqProofs [len_ref v2, pl, hsub]
  apply Fl.Nx.ret
  apply Res.Good.nx
  repeat with_reducible apply Res.Good.bind
  refine (pick_good (k + 49) S2 s n (t.cnt - a) s2 (by omega) (by omega)).mono ?_
  rintro r S3 ⟨b, hb, rfl, f3, s3⟩
  have v3 := f3.at v2 (by simp; omega)
  have F3 : Fr [s] S S3 := ((F1.mono (by simp)).trans f2).trans f3
  obtain ⟨l, hl⟩ : ∃ l, l = a + b := ⟨_, rfl⟩
  have hadd : (a : Int) + (b : Int) = (l : Int) := by omega
  obtain ⟨p1, hp1⟩ : ∃ p, t.paths[l]? = some p := ⟨_, List.getElem?_eq_getElem (by omega)⟩
  obtain ⟨p2, hp2⟩ : ∃ p, t.paths[a]? = some p := ⟨_, List.getElem?_eq_getElem (by omega)⟩
  have l1 := paths_dep t p1 (List.mem_of_getElem? hp1)
  have l2 := paths_dep t p2 (List.mem_of_getElem? hp2)
  have m0 := mod_self t.dep t (Nat.le_refl _) a ha
  have q3 := F3.1
  have q1 := F1.1
  simp -implicitDefEqProofs [hadd]
  have li : (S3 ++ [O.lst [.int l, .int a]])[S3.length]? = some (.lst [.int l, .int a]) := by simp
  by_cases hb0 : b = 0
  · have hla : l = a := by omega
    subst hla
    simp -implicitDefEqProofs [ixD_ref li]
    have lS : seqI (.ref (S3.length + 1)) (S3 ++ [O.lst [.int l, .int l], O.lst [.int l]]) = some ⟨[.int l], fun S' => S'[S3.length + 1]? = some (.lst [.int l])⟩ := seqI_ref (by simp)
    simp -implicitDefEqProofs [lS]
    apply Fl.Nx.ret
    refine for_nx (fun i ρ S' => Fr [s] S S' ∧ Stt S' s n ∧ S'[S.length]? = some (.lst (t.paths.map (pthD []))) ∧ S'[S3.length + 1]? = some (.lst [.int l]) ∧ ∃ d x3 x4 x5 x6 x7 x8 x9, ρ = [some (.ref s), some d, some (.ref S.length), x3, x4, x5, x6, x7, x8, x9] ∧ (i = 0 → d = t.d) ∧ (i = 1 → ∃ due, x5 = some (.tup (natD due)) ∧ Spoilt t d due)) ?_ (fun _ _ _ h => h.2.2.2.1) ?_ ?_
    · exact ⟨F3.trans (Fr.app _ _ _), s3.keep (Fr.app [] _ _) (by simp) (by simp), (Fr.app [] S3 _).at v3 (by simp), by simp, _, _, _, _, _, _, _, _, rfl, fun _ => rfl, fun h => by omega⟩
    · rintro i hi ρ S4 ⟨f4, s4, v4, w4, d, x3, x4, x5, x6, x7, x8, x9, rfl, hd0, _⟩
      have hi0 : i = 0 := by simpa using hi
      subst hi0
      have hd0 := hd0 rfl
      subst hd0
      refine ⟨_, rfl, ?_⟩
      obtain ⟨o1, o2, _, _⟩ := mod_bad m0 hw 0 p2 .non (by omega) hn hnl hp2
      refine (show Fl.Nx _ _ from ?_)
      obtain ⟨ρ', S5, h1, f5, s5, d', due', y7, y8, y9, rfl, hsp⟩ := turn_spoilt k S4 s n S.length l t t.d p2 x3 x4 x5 x7 x8 x9 s4 v4 hp2 (by omega) o1 o2
      exact ⟨_, S5, h1, f4.trans f5, s5, f5.at v4 (by simp; omega), f5.at w4 (by simp; omega), d', _, _, _, _, _, _, _, rfl, fun h => by omega, fun _ => ⟨due', rfl, spo_fin m0 hw hd hn hnl hp2 (tm0.mono (by omega)) (by omega) hsp⟩⟩
    · rintro ρ S4 ⟨f4, s4, v4, w4, d, x3, x4, x5, x6, x7, x8, x9, rfl, _, hd1⟩
      obtain ⟨due, rfl, hsp⟩ := hd1 rfl
      simp -implicitDefEqProofs
      exact ⟨f4.trans (Fr.app _ _ _), s4.keep (Fr.app [] _ _) (by simp) (by simp), d, due, ⟨rfl, rfl⟩, hsp⟩
  · have hla : ¬((l : Int) = (a : Int)) := by omega
    simp -implicitDefEqProofs [ixD_ref li, hla]
    have lS : seqI (.ref S3.length) (S3 ++ [O.lst [.int l, .int a]]) = some ⟨[.int l, .int a], fun S' => S'[S3.length]? = some (.lst [.int l, .int a])⟩ := seqI_ref (by simp)
    simp -implicitDefEqProofs [lS]
    apply Fl.Nx.ret
    refine for_nx (fun i ρ S' => Fr [s] S S' ∧ Stt S' s n ∧ S'[S.length]? = some (.lst (t.paths.map (pthD []))) ∧ S'[S3.length]? = some (.lst [.int l, .int a]) ∧ ∃ d x3 x4 x5 x6 x7 x8 x9, ρ = [some (.ref s), some d, some (.ref S.length), x3, x4, x5, x6, x7, x8, x9] ∧ (i = 0 → d = t.d) ∧ (i = 1 → Mod t d a ∧ Tm (t.dep + 3) d ∧ sz d ≤ 60 * t.cnt + 1000) ∧ (i = 2 → ∃ due, x5 = some (.tup (natD due)) ∧ Spoilt t d due)) ?_ (fun _ _ _ h => h.2.2.2.1) ?_ ?_
    · exact ⟨F3.trans (Fr.app _ _ _), s3.keep (Fr.app [] _ _) (by simp) (by simp), (Fr.app [] S3 _).at v3 (by simp), by simp, _, _, _, _, _, _, _, _, rfl, fun _ => rfl, fun h => by omega, fun h => by omega⟩
    · rintro i hi ρ S4 ⟨f4, s4, v4, w4, d, x3, x4, x5, x6, x7, x8, x9, rfl, hd0, hd1, _⟩
      have hi2 : i < 2 := by simpa using hi
      refine ⟨_, rfl, ?_⟩
      match i, hi2 with
      | 0, _ =>
        have hd0 := hd0 rfl
        subst hd0
        have e1 := mod_put .non [] (Or.inl rfl) t.dep t (Nat.le_refl _) hw a l p1 (by omega) hp1
        have e2 := mod_put .non [1] (Or.inr rfl) t.dep t (Nat.le_refl _) hw a l p1 (by omega) hp1
        rw [List.append_nil] at e1
        obtain ⟨ρ', S5, h1, f5, s5, d', due', y7, y8, y9, rfl, hsp⟩ := turn_spoilt k S4 s n S.length l t t.d p1 x3 x4 x5 x7 x8 x9 s4 v4 hp1 (by omega) e1.1 e2.1
        obtain ⟨g1, g2⟩ := spo_tm hsp tm0 e1.1 e2.1
        refine ⟨_, S5, h1, f4.trans f5, s5, f5.at v4 (by simp; omega), f5.at w4 (by simp; omega), d', _, _, _, _, _, _, _, rfl, fun h => by omega, fun _ => ⟨?_, g1, by omega⟩, fun h => by omega⟩
        rcases hsp with ⟨x, h1, h2, h3, rfl, rfl⟩ | ⟨x, h1, h2, h3, rfl, rfl⟩
        · exact (mod_put x [1] (Or.inr rfl) t.dep t (Nat.le_refl _) hw a l _ (by omega) hp1).2 (by omega)
        · have := (mod_put x [] (Or.inl rfl) t.dep t (Nat.le_refl _) hw a l _ (by omega) hp1).2 (by omega)
          rw [List.append_nil] at this
          exact this
      | 1, _ =>
        obtain ⟨hm1, ht1, hs1⟩ := hd1 rfl
        obtain ⟨o1, o2, _, _⟩ := mod_bad hm1 hw 0 p2 .non (by omega) hn hnl hp2
        obtain ⟨ρ', S5, h1, f5, s5, d', due', y7, y8, y9, rfl, hsp⟩ := turn_spoilt k S4 s n S.length a t d p2 x3 x4 x5 x7 x8 x9 s4 v4 hp2 (by omega) o1 o2
        exact ⟨_, S5, h1, f4.trans f5, s5, f5.at v4 (by simp; omega), f5.at w4 (by simp; omega), d', _, _, _, _, _, _, _, rfl, fun h => by omega, fun h => by omega, fun _ => ⟨due', rfl, spo_fin hm1 hw hd hn hnl hp2 ht1 hs1 hsp⟩⟩
    · rintro ρ S4 ⟨f4, s4, v4, w4, d, x3, x4, x5, x6, x7, x8, x9, rfl, _, _, hd1⟩
      obtain ⟨due, rfl, hsp⟩ := hd1 rfl
      simp -implicitDefEqProofs
      exact ⟨f4.trans (Fr.app _ _ _), s4.keep (Fr.app [] _ _) (by simp) (by simp), d, due, ⟨rfl, rfl⟩, hsp⟩
end Mp.K42
end
section
set_option Elab.async false
set_option linter.all false
set_option maxHeartbeats 0
/-! K42Txt: the text of a term, and how it is read; plain. -/
namespace Mp.K42
open PySem L2
/-- the text of these signs -/
def U (l : List Nat) : Str := ⟨l.toArray⟩
theorem U_inj (a b : List Nat) : (U a = U b) = (a = b) := by
  refine propext ⟨fun h => ?_, fun h => by rw [h]⟩
  have := congrArg (fun x : Str => x.cps.toList) h
  simpa [U] using this
theorem U_tl (w : Str) : U w.cps.toList = w := rfl
def letL : List Nat := ("abcdefghijklmnopqrstuvwxyz" : Str).cps.toList
def digL : List Nat := ("0123456789" : Str).cps.toList
theorem letL_eq : letL = [97, 98, 99, 100, 101, 102, 103, 104, 105, 106, 107, 108, 109, 110, 111, 112, 113, 114, 115, 116, 117, 118, 119, 120, 121, 122] := by decide +kernel
theorem digL_eq : digL = [48, 49, 50, 51, 52, 53, 54, 55, 56, 57] := by decide +kernel
def numT (i : Int) : List Nat := if i = 0 then [48] else if i = 1 then [49] else if i = 2 then [50] else if i = 7 then [55] else [57, 57, 57, 57, 57, 57, 57, 57, 57]
/-- texts with blanks between them -/
def jn : List (List Nat) → List Nat
  | [] => []
  | [x] => x
  | x :: y :: r => x ++ 32 :: jn (y :: r)
mutual
def txt : D → List Nat
  | .int i => numT i
  | .str w => w.cps.toList
  | .tup ds => 40 :: (jn (txtL ds) ++ [41])
  | _ => []
def txtL : List D → List (List Nat)
  | [] => []
  | d :: ds => txt d :: txtL ds
end
theorem txtL_map (ds : List D) : txtL ds = ds.map txt := by induction ds with
  | nil => rfl
  | cons d ds ih => simp [txtL, ih]
/-- the text of a word or number, and what it stands for -/
inductive AtomT : List Nat → D → Prop where
  | word (a : List Nat) : a ≠ [] → a.length ≤ 12 → (∀ c ∈ a, c ∈ letL) → AtomT a (.str (U a))
  | zero : AtomT [48] (.int 0)
  | num (a : List Nat) (i : Int) : a ≠ [] → a.length ≤ 9 → (∀ c ∈ a, c ∈ digL) → a.head? ≠ some 48 → intText? (U a) = some i → AtomT a (.int i)
theorem AtomT.ne {a : List Nat} {v : D} (h : AtomT a v) : a ≠ [] := by cases h <;> simp_all
def signs : List Nat := letL ++ digL
theorem AtomT.head {a : List Nat} {v : D} (h : AtomT a v) : ∃ c r, a = c :: r ∧ c ∈ signs := by
  cases h with
  | word a h1 h2 h3 =>
    cases ha : a with
    | nil => exact absurd ha h1
    | cons c r => exact ⟨c, r, rfl, by simp [signs]; exact Or.inl (h3 c (by simp [ha]))⟩
  | zero => exact ⟨48, [], rfl, by simp [signs, digL_eq]⟩
  | num a i h1 h2 h3 h4 h5 =>
    cases ha : a with
    | nil => exact absurd ha h1
    | cons c r => exact ⟨c, r, rfl, by simp [signs]; exact Or.inr (h3 c (by simp [ha]))⟩
def sepOk (cs : List Nat) : Prop := cs = [] ∨ (∃ r, cs = 32 :: r) ∨ ∃ r, cs = 41 :: r
inductive Out where
  | ret (d : D) | bad (n : Nat)
/-- how a text is read: ahead of a term (true), behind one (false) -/
inductive Run : Bool → List (List D) → List Nat → Nat → Out → Prop where
  | eof {stk n} : Run true stk [] n (.bad n)
  | open0 {stk r n o} : stk.length < 200 → Run false ([] :: stk) (41 :: r) (n + 1) o → Run true stk (40 :: 41 :: r) n o
  | open_ {stk r n o} : stk.length < 200 → r.head? ≠ some 41 → Run true ([] :: stk) r (n + 1) o → Run true stk (40 :: r) n o
  | whole {a v n} : AtomT a v → Run true [] a n (.ret v)
  | atom {top more a v r n o} : AtomT a v → sepOk r → Run false ((top ++ [v]) :: more) r (n + a.length) o → Run true (top :: more) (a ++ r) n o
  | close {top nxt more r n o} : Run false ((nxt ++ [.tup top]) :: more) r (n + 1) o → Run false (top :: nxt :: more) (41 :: r) n o
  | done {top n} : Run false [top] [41] n (.ret (.tup top))
  | sep {top more r n o} : Run true (top :: more) r (n + 1) o → Run false (top :: more) (32 :: r) n o
  | eof2 {top more n} : Run false (top :: more) [] n (.bad n)
/-- behind a term -/
def After (stk : List (List D)) (v : D) (cs : List Nat) (n : Nat) (o : Out) : Prop := match stk with
  | [] => cs = [] ∧ o = .ret v
  | top :: more => Run false ((top ++ [v]) :: more) cs n o
theorem atom_after {stk : List (List D)} {a : List Nat} {v : D} {cs : List Nat} {n : Nat} {o : Out} (h : AtomT a v) (hs : sepOk cs) (g : After stk v cs (n + a.length) o) : Run true stk (a ++ cs) n o := by
  cases stk with
  | nil =>
    obtain ⟨rfl, rfl⟩ := g
    rw [List.append_nil]
    exact .whole h
  | cons top more => exact .atom h hs g
theorem word_atom {w : Str} (h : WordOk w) : AtomT w.cps.toList (.str w) := by
  have : ∀ w : Str, (w.cps.toList ≠ [] ∧ w.cps.toList.length ≤ 12 ∧ ∀ c ∈ w.cps.toList, c ∈ letL) → AtomT w.cps.toList (.str w) := fun w h => .word _ h.1 h.2.1 h.2.2
  apply this
  rcases h with rfl | rfl | rfl | rfl | rfl | rfl <;> decide +kernel
theorem num_atom {i : Int} (h : NumOk i) : AtomT (numT i) (.int i) := by
  rcases h with rfl | rfl | rfl | rfl | rfl
  · exact .zero
  all_goals exact .num _ _ (by decide) (by decide) (by rw [digL_eq]; decide) (by decide) (by kernel_rfl)
theorem txt_head {j : Nat} {d : D} (h : Tm j d) : ∃ c r, txt d = c :: r ∧ (c = 40 ∨ c ∈ signs) := by
  cases h with
  | num h => obtain ⟨c, r, h1, h2⟩ := (num_atom h).head; exact ⟨c, r, h1, Or.inr h2⟩
  | word h => obtain ⟨c, r, h1, h2⟩ := (word_atom h).head; exact ⟨c, r, h1, Or.inr h2⟩
  | tup _ _ => exact ⟨40, _, rfl, Or.inl rfl⟩
theorem no41 {c : Nat} (h : c = 40 ∨ c ∈ signs) : c ≠ 41 := by
  rintro rfl
  rcases h with h | h
  · simp at h
  · simp [signs, letL_eq, digL_eq] at h
theorem jn_head {j : Nat} {ds : List D} (h : ∀ d ∈ ds, Tm j d) (hne : ds ≠ []) (r : List Nat) : (jn (txtL ds) ++ r).head? ≠ some 41 := by
  cases ds with
  | nil => exact absurd rfl hne
  | cons d ds =>
    obtain ⟨c, q, h1, h2⟩ := txt_head (h d (by simp))
    have := no41 h2
    cases ds with
    | nil => simp [txtL, jn, h1, this]
    | cons e ds => simp [txtL, jn, h1, this]
/-- a text is read back -/
theorem run_txt : ∀ (j : Nat) (d : D), Tm j d → ∀ (stk : List (List D)) (cs : List Nat) (n : Nat) (o : Out), stk.length + j ≤ 200 → sepOk cs → After stk d cs (n + (txt d).length) o → Run true stk (txt d ++ cs) n o := by
  intro j
  induction j with
  | zero =>
    intro d h stk cs n o hl hs ha
    cases h with
    | num h => exact atom_after (num_atom h) hs ha
    | word h => exact atom_after (word_atom h) hs ha
  | succ j ih =>
    intro d h stk cs n o hl hs ha
    cases h with
    | num h => exact atom_after (num_atom h) hs ha
    | word h => exact atom_after (word_atom h) hs ha
    | @tup _ ds hlen hd =>
      have hst : stk.length < 200 := by omega
      have fin : ∀ (acc : List D) (m : Nat) (o : Out), After stk (.tup acc) cs (m + 1) o → Run false (acc :: stk) (41 :: cs) m o := by
        intro acc m o ha
        cases stk with
        | nil =>
          obtain ⟨rfl, rfl⟩ := ha
          exact .done
        | cons top more => exact .close ha
      have list : ∀ (ds : List D), ds ≠ [] → (∀ d ∈ ds, Tm j d) → ∀ (acc : List D) (m : Nat), After stk (.tup (acc ++ ds)) cs (m + (jn (txtL ds)).length + 1) o → Run true (acc :: stk) (jn (txtL ds) ++ 41 :: cs) m o := by
        intro ds
        induction ds with
        | nil => intro h; exact absurd rfl h
        | cons d ds ihl =>
          intro _ hd acc m ha
          cases ds with
          | nil =>
            simp only [txtL, jn] at ha ⊢
            refine ih d (hd d (by simp)) (acc :: stk) (41 :: cs) m o (by simp; omega) (Or.inr (Or.inr ⟨_, rfl⟩)) ?_
            exact fin _ _ _ ha
          | cons e r =>
            have e1 : jn (txtL (d :: e :: r)) = txt d ++ 32 :: jn (txtL (e :: r)) := rfl
            rw [e1] at ha ⊢
            rw [List.append_assoc, List.cons_append]
            refine ih d (hd d (by simp)) (acc :: stk) _ m o (by simp; omega) (Or.inr (Or.inl ⟨_, rfl⟩)) ?_
            refine .sep ?_
            refine ihl (by simp) (fun x hx => hd x (by simp [hx])) (acc ++ [d]) _ ?_
            have : m + (txt d).length + 1 + (jn (txtL (e :: r))).length + 1 = m + (txt d ++ 32 :: jn (txtL (e :: r))).length + 1 := by simp; omega
            rw [this]
            simpa using ha
      cases ds with
      | nil =>
        refine .open0 hst ?_
        exact fin [] (n + 1) o ha
      | cons d ds =>
        have e1 : txt (.tup (d :: ds)) ++ cs = 40 :: (jn (txtL (d :: ds)) ++ 41 :: cs) := by simp [txt]
        rw [e1]
        refine .open_ hst (jn_head hd (by simp) _) ?_
        refine list (d :: ds) (by simp) hd [] (n + 1) ?_
        have : n + 1 + (jn (txtL (d :: ds))).length + 1 = n + (txt (.tup (d :: ds))).length := by simp [txt]; omega
        rw [this]
        simpa using ha
theorem num_cut {i : Int} (h : NumOk i) (c : Nat) (h0 : 0 < c) (hc : c < (numT i).length) : ∃ v, AtomT ((numT i).take c) v := by
  rcases h with rfl | rfl | rfl | rfl | rfl
  iterate 4 exact absurd hc (by simp [numT]; omega)
  have hc9 : c < 9 := hc
  match c, h0, hc9 with
  | 1, _, _ => exact ⟨.int 9, .num _ 9 (by decide) (by decide) (by rw [digL_eq]; decide) (by decide) (by kernel_rfl)⟩
  | 2, _, _ => exact ⟨.int 99, .num _ 99 (by decide) (by decide) (by rw [digL_eq]; decide) (by decide) (by kernel_rfl)⟩
  | 3, _, _ => exact ⟨.int 999, .num _ 999 (by decide) (by decide) (by rw [digL_eq]; decide) (by decide) (by kernel_rfl)⟩
  | 4, _, _ => exact ⟨.int 9999, .num _ 9999 (by decide) (by decide) (by rw [digL_eq]; decide) (by decide) (by kernel_rfl)⟩
  | 5, _, _ => exact ⟨.int 99999, .num _ 99999 (by decide) (by decide) (by rw [digL_eq]; decide) (by decide) (by kernel_rfl)⟩
  | 6, _, _ => exact ⟨.int 999999, .num _ 999999 (by decide) (by decide) (by rw [digL_eq]; decide) (by decide) (by kernel_rfl)⟩
  | 7, _, _ => exact ⟨.int 9999999, .num _ 9999999 (by decide) (by decide) (by rw [digL_eq]; decide) (by decide) (by kernel_rfl)⟩
  | 8, _, _ => exact ⟨.int 99999999, .num _ 99999999 (by decide) (by decide) (by rw [digL_eq]; decide) (by decide) (by kernel_rfl)⟩
theorem word_cut {w : Str} (h : WordOk w) (c : Nat) (h0 : 0 < c) (hc : c < w.cps.toList.length) : ∃ v, AtomT (w.cps.toList.take c) v := by
  have hw := word_atom h
  have hall : ∀ c ∈ w.cps.toList, c ∈ letL := by
    rcases h with rfl | rfl | rfl | rfl | rfl | rfl <;> decide +kernel
  have hlen : w.cps.toList.length ≤ 12 := by
    rcases h with rfl | rfl | rfl | rfl | rfl | rfl <;> decide +kernel
  refine ⟨_, .word _ ?_ ?_ ?_⟩
  · intro e
    have := congrArg List.length e
    rw [List.length_take] at this
    simp only [List.length_nil] at this
    omega
  · rw [List.length_take]; omega
  · intro x hx; exact hall x (List.mem_of_mem_take hx)
theorem take_ne {l : List Nat} {c : Nat} (h : c ≤ l.length) : (l.take c).length = c := by rw [List.length_take]; omega
/-- a proper beginning of a text is refused at its end -/
theorem run_cut : ∀ (j : Nat) (d : D), Tm j d → ∀ (stk : List (List D)) (n c : Nat), stk.length + j ≤ 200 → (stk ≠ [] ∨ ∃ ds, d = .tup ds) → c < (txt d).length → Run true stk ((txt d).take c) n (.bad (n + c)) := by
  intro j
  have atomc : ∀ (a : List Nat) (stk : List (List D)) (n c : Nat), stk ≠ [] → c < a.length → (0 < c → ∃ v, AtomT (a.take c) v) → Run true stk (a.take c) n (.bad (n + c)) := by
    intro a stk n c hst hc h
    by_cases h0 : 0 < c
    · obtain ⟨v, hv⟩ := h h0
      have e := take_ne (Nat.le_of_lt hc)
      cases stk with
      | nil => exact absurd rfl hst
      | cons top more =>
        have q : Run true (top :: more) (a.take c ++ []) n (.bad (n + c)) := .atom hv (Or.inl rfl) (by rw [e]; exact .eof2)
        rw [List.append_nil] at q
        exact q
    · have : c = 0 := by omega
      subst this
      exact .eof
  induction j with
  | zero =>
    intro d h stk n c hl hst hc
    cases h with
    | num h => exact atomc _ stk n c (hst.elim id fun ⟨_, e⟩ => by cases e) hc fun h0 => num_cut h c h0 hc
    | word h => exact atomc _ stk n c (hst.elim id fun ⟨_, e⟩ => by cases e) hc fun h0 => word_cut h c h0 hc
  | succ j ih =>
    intro d h stk n c hl hst hc
    cases h with
    | num h => exact atomc _ stk n c (hst.elim id fun ⟨_, e⟩ => by cases e) hc fun h0 => num_cut h c h0 hc
    | word h => exact atomc _ stk n c (hst.elim id fun ⟨_, e⟩ => by cases e) hc fun h0 => word_cut h c h0 hc
    | @tup _ ds hlen hd =>
      have hs2 : stk.length < 200 := by omega
      cases c with
      | zero => exact .eof
      | succ c =>
        simp only [txt, List.length_cons, List.length_append, List.length_nil] at hc
        have e0 : (txt (.tup ds)).take (c + 1) = 40 :: (jn (txtL ds) ++ [41]).take c := by simp [txt]
        rw [e0]
        cases ds with
        | nil =>
          have : c = 0 := by simp [txtL, jn] at hc; omega
          subst this
          exact .open_ hs2 (by simp) .eof
        | cons d ds =>
          have list : ∀ (ds : List D), ds ≠ [] → (∀ d ∈ ds, Tm j d) → ∀ (acc : List D) (m c : Nat), c ≤ (jn (txtL ds)).length → Run true (acc :: stk) ((jn (txtL ds) ++ [41]).take c) m (.bad (m + c)) := by
            intro ds
            induction ds with
            | nil => intro h; exact absurd rfl h
            | cons d ds ihl =>
              intro _ hd acc m c hc
              by_cases h1 : c < (txt d).length
              · have q := ih d (hd d (by simp)) (acc :: stk) m c (by simp; omega) (Or.inl (by simp)) h1
                cases ds with
                | nil =>
                  simp only [txtL, jn]
                  rw [List.take_append_of_le_length (by omega)]
                  exact q
                | cons e r =>
                  have e1 : jn (txtL (d :: e :: r)) = txt d ++ 32 :: jn (txtL (e :: r)) := rfl
                  rw [e1, List.append_assoc, List.take_append_of_le_length (by omega)]
                  exact q
              · have full : ∀ cs, sepOk cs → Run false ((acc ++ [d]) :: stk) cs (m + (txt d).length) (.bad (m + c)) → Run true (acc :: stk) (txt d ++ cs) m (.bad (m + c)) := fun cs hs h => run_txt j d (hd d (by simp)) (acc :: stk) cs m _ (by simp; omega) hs h
                cases ds with
                | nil =>
                  simp only [txtL, jn] at hc ⊢
                  have : c = (txt d).length := by omega
                  subst this
                  rw [List.take_left']
                  · have := full [] (Or.inl rfl) .eof2
                    rw [List.append_nil] at this
                    exact this
                  · rfl
                | cons e r =>
                  have e1 : jn (txtL (d :: e :: r)) = txt d ++ 32 :: jn (txtL (e :: r)) := rfl
                  rw [e1] at hc ⊢
                  rw [List.append_assoc, List.take_append, List.take_of_length_le (by omega), List.cons_append]
                  by_cases h2 : c = (txt d).length
                  · subst h2
                    rw [Nat.sub_self, List.take_zero]
                    exact full [] (Or.inl rfl) .eof2
                  · obtain ⟨c', hc'⟩ : ∃ c', c - (txt d).length = c' + 1 := ⟨c - (txt d).length - 1, by omega⟩
                    rw [hc', List.take_succ_cons]
                    refine full _ (Or.inr (Or.inl ⟨_, rfl⟩)) (.sep ?_)
                    have q := ihl (by simp) (fun x hx => hd x (by simp [hx])) (acc ++ [d]) (m + (txt d).length + 1) c' (by simp at hc; omega)
                    have : m + (txt d).length + 1 + c' = m + c := by omega
                    rw [this] at q
                    exact q
          have q := list (d :: ds) (by simp) hd [] (n + 1) c (by omega)
          have e3 : n + 1 + c = n + (c + 1) := by omega
          rw [e3] at q
          refine .open_ hs2 ?_ q
          by_cases h0 : c = 0
          · subst h0; simp
          · have := jn_head hd (by simp) [41]
            intro h
            apply this
            obtain ⟨c', rfl⟩ : ∃ c', c = c' + 1 := ⟨c - 1, by omega⟩
            cases hx : jn (txtL (d :: ds)) ++ [41] with
            | nil => rw [hx] at h; simp at h
            | cons y ys => rw [hx] at h; simpa using h
theorem jn_len (ls : List (List Nat)) : (jn ls).length ≤ (ls.map (·.length + 1)).sum := by
  induction ls with
  | nil => simp [jn]
  | cons x ls ih =>
    cases ls with
    | nil => simp [jn]
    | cons y r => simp [jn] at ih ⊢; omega
mutual
theorem txt_len : ∀ {j : Nat} (d : D), Tm j d → (txt d).length + 1 ≤ sz d
  | _, .int i, h => by
    cases h with
    | num h => rcases h with rfl | rfl | rfl | rfl | rfl <;> simp [txt, numT, sz]
  | _, .str w, h => by
    cases h with
    | word h => rcases h with rfl | rfl | rfl | rfl | rfl | rfl <;> (simp only [txt, sz]; decide +kernel)
  | _, .tup ds, h => by
    cases h with
    | tup _ hd =>
      have := txtL_len ds hd
      simp [txt, sz]; omega
  | _, .non, h => by cases h
  | _, .bl _, h => by cases h
  | _, .rol _, h => by cases h
  | _, .ref _, h => by cases h
theorem txtL_len : ∀ {j : Nat} (ds : List D), (∀ d ∈ ds, Tm j d) → (jn (txtL ds)).length ≤ szL ds
  | _, [], _ => by simp [txtL, jn]
  | _, d :: ds, h => by
    have a1 := txt_len d (h d (by simp))
    have a2 := txtL_len ds (fun x hx => h x (by simp [hx]))
    cases ds with
    | nil => simp [txtL, jn, szL]; omega
    | cons e r =>
      simp only [txtL, jn, szL, List.length_append, List.length_cons] at a2 ⊢
      omega
end
end Mp.K42
end
section
set_option Elab.async false
set_option linter.all false
set_option maxHeartbeats 0
/-! K42Atom: atom_end, atom, whole. -/
namespace Mp.K42
open PySem L2
theorem line_eq : PySem.sizeLine = 16777216 := by decide
theorem len_str (T : List Nat) (S : Sto) (h : T.length ≤ 16777216) : bltD .len [.str (U T)] S = .ok (.int T.length) S := by
  have h1 : (U T).length = T.length := by simp [U, Str.length]
  have : (U T).length ≤ PySem.sizeLine := by rw [h1, line_eq]; exact h
  show (if (U T).length ≤ PySem.sizeLine then Res.ok (D.int ((U T).length : Nat)) S else Res.stuck) = _
  rw [if_pos this, h1]
theorem ix_str (T : List Nat) (n c : Nat) (S : Sto) (h : T.length ≤ 16777216) (hc : T[n]? = some c) : ixD (.str (U T)) (n : Int) S = some (.str (U [c])) := by
  have h1 : (U T).length = T.length := by simp [U, Str.length]
  have : (U T).length ≤ PySem.sizeLine := by rw [h1, line_eq]; exact h
  have h2 : L2.atI (U T).cps.toList (n : Int) = some c := by rw [atI_nat]; simpa [U] using hc
  simp only [ixD, this, if_true, h2]
  rfl
theorem in_str (c : Nat) (z : Str) (S : Sto) : cmpD .In (.str (U [c])) (.str z) S = some (decide (c ∈ z.cps.toList)) := rfl
theorem notin_str (c : Nat) (z : Str) (S : Sto) : cmpD .NotIn (.str (U [c])) (.str z) S = some (!decide (c ∈ z.cps.toList)) := rfl
theorem cut_nat (T : List Nat) (a b : Nat) (h : b ≤ T.length) (hab : a ≤ b) : cutD T (some (a : Int)) (some (b : Int)) = (T.drop a).take (b - a) := by
  have h1 := HT.sIx_nat T.length 0 a
  have h2 := HT.sIx_nat T.length T.length b
  simp only [cutD, h1, h2, Nat.min_eq_left h, Nat.min_eq_left (Nat.le_trans hab h)]
theorem slc_str (T : List Nat) (a b : Nat) (S : Sto) (hT : T.length ≤ 16777216) (h : b ≤ T.length) (hab : a ≤ b) : slcD (.str (U T)) (some (a : Int)) (some (b : Int)) S = .ok (.str (U ((T.drop a).take (b - a)))) S := by
  have h1 : (U T).length = T.length := by simp [U, Str.length]
  have : (U T).length ≤ PySem.sizeLine := by rw [h1, line_eq]; exact hT
  have h2 : (U T).cps.toList = T := by simp [U]
  simp only [slcD, this, if_true, h2, cut_nat T a b h hab]
  rfl
theorem slc_one (T : List Nat) (a : Nat) (S : Sto) (hT : T.length ≤ 16777216) (h : a ≤ T.length) : slcD (.str (U T)) (some (a : Int)) (some ((a : Int) + 1)) S = .ok (.str (U ((T.drop a).take 1))) S := by
  by_cases h1 : a < T.length
  · have := slc_str T a (a + 1) S hT h1 (by omega)
    rw [show a + 1 - a = 1 by omega] at this
    exact this
  · have h2 : a = T.length := by omega
    have e : T.drop a = [] := by rw [h2]; simp
    have hL : (U T).length = T.length := by simp [U, Str.length]
    have hl : (U T).length ≤ PySem.sizeLine := by rw [hL, line_eq]; exact hT
    have h3 : (U T).cps.toList = T := by simp [U]
    have g1 := HT.sIx_nat T.length 0 a
    have g2 := HT.sIx_nat T.length T.length (a + 1)
    have g3 : (((a + 1 : Nat)) : Int) = (a : Int) + 1 := by omega
    rw [g3] at g2
    simp only [slcD, hl, if_true, h3, cutD, g1, g2, e, Nat.min_eq_left h, List.drop_nil, List.take_nil]
    rfl
theorem con_let : M.prg.con "LETTERS" = some (.str "abcdefghijklmnopqrstuvwxyz") := by kernel_rfl
theorem con_dig : M.prg.con "DIGITS" = some (.str "0123456789") := by kernel_rfl
theorem con_ml : M.prg.con "MOST_LETTERS" = some (.int 12) := by kernel_rfl
theorem con_md : M.prg.con "MOST_DIGITS" = some (.int 9) := by kernel_rfl
theorem fn_aend : M.prg.fn "atom_end" = some ⟨2, 5, c_atom_end⟩ := by kernel_rfl
theorem fn_atom : M.prg.fn "atom" = some ⟨1, 1, c_atom⟩ := by kernel_rfl
theorem fn_whole : M.prg.fn "whole" = some ⟨3, 3, c_whole⟩ := by kernel_rfl
theorem exc_text (m : Int) : M.prg.exc "InvalidText" [.int m] = some [(("position" : Str), .int m)] := by kernel_rfl
def exT (n : Nat) : Ex := ⟨"InvalidText", [(("position" : Str), .int n)]⟩
theorem aend_eof (k : Nat) (T : List Nat) (n : Nat) (S : Sto) (hT : T.length ≤ 100000) (h : T.length = n) : ((lev M.prg (k + 3)).call "atom_end" [.str (U T), .int n] S).Exn fun x S' => x = exT n ∧ S' = S := by
  rw [lev_call _ _ _ _ _ _ fn_aend rfl]
  apply Fl.Exn.res
  subst h
  simp -implicitDefEqProofs [c_atom_end, len_str T _ (by omega), exc_lev, exc_text, exnO, exT]
/-- the walk over a word's or number's signs -/
theorem wh_atom (k : Nat) (T a r : List Nat) (n : Nat) (m : Int) (z : Str) (S : Sto) (hT : T.length ≤ 100000) (hn : T.drop n = a ++ r) (ha : ∀ c ∈ a, c ∈ z.cps.toList) (hl : (a.length : Int) ≤ m) (hr : ∀ c q, r = c :: q → c ∉ z.cps.toList) :
    ∀ d j N, a.length - j = d → j ≤ a.length → d < N → whL (fun ρ2 S2 => (evE (lev M.prg k) none p1_atom_end ρ2 S2).bind fun x S3 => ofO (isBl x) S3) (fun ρ2 S2 => evSs (lev M.prg k) none p2_atom_end ρ2 S2) N
      [some (.str (U T)), some (.int n), some (.str z), some (.int m), some (.int ((n : Int) + (j : Int)))] S = .nx [some (.str (U T)), some (.int n), some (.str z), some (.int m), some (.int ((n : Int) + (a.length : Int)))] S := by
  have hlen : T.length - n = a.length + r.length := by have := congrArg List.length hn; simpa using this
  intro d
  induction d with
  | zero =>
    intro j N hd hj hN
    obtain ⟨N', rfl⟩ : ∃ N', N = N' + 1 := ⟨N - 1, by omega⟩
    have : j = a.length := by omega
    subst this
    rw [whL]
    cases r with
    | nil =>
      simp at hlen
      have h1 : ¬((n : Int) + (a.length : Int) < (T.length : Int)) := by omega
      simp -implicitDefEqProofs [p1_atom_end, len_str T _ (by omega), h1]
    | cons c q =>
      have h1 : (n : Int) + (a.length : Int) < (T.length : Int) := by simp at hlen; omega
      by_cases h2 : (a.length : Int) < m
      · have h3 : T[n + a.length]? = some c := by
          have : (T.drop n)[a.length]? = some c := by rw [hn]; simp
          rw [List.getElem?_drop] at this; exact this
        have h4 := ix_str T (n + a.length) c S (by omega) h3
        rw [show ((n + a.length : Nat) : Int) = (n : Int) + (a.length : Int) by omega] at h4
        have h5 := hr c q rfl
        have h6 : (n : Int) + (a.length : Int) - (n : Int) = (a.length : Int) := by omega
        simp -implicitDefEqProofs only [p1_atom_end, s_evE_and, s_evAnd_cons, s_evAnd_one, s_evE_cmp, s_evE_var, s_evE_blt, s_evEs_cons, s_evEs_nil, s_evE_bin, s_evE_sub, getV_zero, getV_succ, ofO_some, Res.bind_ok, len_str T _ (show T.length ≤ 16777216 by omega), lt_int, sub_int, asInt_int, isBl_bl, h1, h2, h4, h6, decide_true, if_true, in_str, Option.map_some]
        simp [h5]
      · have h2' : ¬((n : Int) + (a.length : Int) - (n : Int) < m) := by omega
        simp -implicitDefEqProofs only [p1_atom_end, s_evE_and, s_evAnd_cons, s_evAnd_one, s_evE_cmp, s_evE_var, s_evE_blt, s_evEs_cons, s_evEs_nil, s_evE_bin, s_evE_sub, getV_zero, getV_succ, ofO_some, Res.bind_ok, len_str T _ (show T.length ≤ 16777216 by omega), lt_int, sub_int, asInt_int, isBl_bl, h1, h2', decide_true, decide_false, if_true, Option.map_some]
        simp
  | succ d ih =>
    intro j N hd hj hN
    obtain ⟨N', rfl⟩ : ∃ N', N = N' + 1 := ⟨N - 1, by omega⟩
    have hja : j < a.length := by omega
    rw [whL]
    have h1 : (n : Int) + (j : Int) < (T.length : Int) := by omega
    have h2 : (n : Int) + (j : Int) - (n : Int) < m := by omega
    have h3 : T[n + j]? = some a[j] := by
      have : (T.drop n)[j]? = some a[j] := by rw [hn, List.getElem?_append_left hja]; exact List.getElem?_eq_getElem hja
      rw [List.getElem?_drop] at this; exact this
    have h4 := ix_str T (n + j) a[j] S (by omega) h3
    rw [show ((n + j : Nat) : Int) = (n : Int) + (j : Int) by omega] at h4
    have h5 := ha a[j] (List.getElem_mem hja)
    have q := ih (j + 1) N' (by omega) (by omega) (by omega)
    rw [show (n : Int) + ((j + 1 : Nat) : Int) = (n : Int) + (j : Int) + 1 by omega] at q
    simp -implicitDefEqProofs only [p1_atom_end, s_evE_and, s_evAnd_cons, s_evAnd_one, s_evE_cmp, s_evE_var, s_evE_blt, s_evEs_cons, s_evEs_nil, s_evE_bin, s_evE_sub, getV_zero, getV_succ, ofO_some, Res.bind_ok, len_str T _ (show T.length ≤ 16777216 by omega), lt_int, sub_int, asInt_int, isBl_bl, h1, h2, h4, h5, decide_true, if_true, in_str, Option.map_some]
    simp -implicitDefEqProofs [p2_atom_end, augD]
    exact q
theorem aend_ok (k : Nat) (T a r : List Nat) (v : D) (n : Nat) (S : Sto) (hT : T.length ≤ 100000) (hn : T.drop n = a ++ r) (ha : AtomT a v) (hr : sepOk r) : (lev M.prg (k + 1)).call "atom_end" [.str (U T), .int n] S = .ok (.int ((n + a.length : Nat) : Int)) S := by
  rw [lev_call _ _ _ _ _ _ fn_aend rfl]
  obtain ⟨c, q, ha0, _⟩ := ha.head
  have hlen : T.length - n = a.length + r.length := by have := congrArg List.length hn; simpa using this
  have hpos : 0 < a.length := by rw [ha0]; simp
  have h0 : ¬((n : Int) = (T.length : Int)) := by omega
  have h3 : T[n]? = some c := by
    have : (T.drop n)[0]? = some c := by rw [hn, ha0]; simp
    rw [List.getElem?_drop] at this; exact this
  have h4 := fun S => ix_str T n c S (by omega) h3
  have sep : ∀ z : Str, (∀ c, c = 32 ∨ c = 41 → c ∉ z.cps.toList) → ∀ c q, r = c :: q → c ∉ z.cps.toList := by
    intro z hz c q hc
    rcases hr with rfl | ⟨q', rfl⟩ | ⟨q', rfl⟩
    · cases hc
    · injection hc with h1 h2; exact hz c (Or.inl h1.symm)
    · injection hc with h1 h2; exact hz c (Or.inr h1.symm)
  cases ha with
  | word a h1 h2 hall =>
    have hcl : c ∈ letL := hall c (by rw [ha0]; simp)
    have hcd : ¬(c ∈ digL) := by
      rw [letL_eq] at hcl; rw [digL_eq]
      simp at hcl ⊢; omega
    have w := wh_atom k T a r n 12 "abcdefghijklmnopqrstuvwxyz" S hT hn hall (by omega) (sep _ (by
      intro c hc hm
      have hm : c ∈ letL := hm
      rw [letL_eq] at hm
      rcases hc with rfl | rfl <;> simp at hm)) a.length 0 wFuel (by omega) (by omega) (by show a.length < 1000000000; omega)
    simp only [Int.natCast_zero, Int.add_zero] at w
    have hcl' : c ∈ (Str.ofString "abcdefghijklmnopqrstuvwxyz").cps.toList := hcl
    have hcd' : ¬(c ∈ (Str.ofString "0123456789").cps.toList) := hcd
    simp -implicitDefEqProofs [c_atom_end, len_str T _ (show T.length ≤ 16777216 by omega), h0, lev_con, con_let, con_ml, con_dig, h4, in_str, notin_str, hcd', hcl']
    rw [w]
    simp
  | zero =>
    have hc : c = 48 := by simp at ha0; exact ha0.1.symm
    subst hc
    have hcd' : 48 ∈ (Str.ofString "0123456789").cps.toList := by decide +kernel
    have he : (U [48] = Str.ofString "0") = True := by simp; decide +kernel
    simp -implicitDefEqProofs [c_atom_end, len_str T _ (show T.length ≤ 16777216 by omega), h0, lev_con, con_let, con_ml, con_dig, con_md, h4, in_str, notin_str, hcd', he]
  | num a i h1 h2 hall hz hi =>
    have hcl : c ∈ digL := hall c (by rw [ha0]; simp)
    have hc48 : c ≠ 48 := by intro h; apply hz; rw [ha0, h]; rfl
    have w := wh_atom k T a r n 9 "0123456789" S hT hn hall (by omega) (sep _ (by
      intro c hc hm
      have hm : c ∈ digL := hm
      rw [digL_eq] at hm
      rcases hc with rfl | rfl <;> simp at hm)) a.length 0 wFuel (by omega) (by omega) (by show a.length < 1000000000; omega)
    simp only [Int.natCast_zero, Int.add_zero] at w
    have hcl' : c ∈ (Str.ofString "0123456789").cps.toList := hcl
    have z0 : Str.ofString "0" = U [48] := by decide +kernel
    have he : (U [c] = Str.ofString "0") = False := by rw [z0, U_inj]; simp [hc48]
    simp -implicitDefEqProofs [c_atom_end, len_str T _ (show T.length ≤ 16777216 by omega), h0, lev_con, con_let, con_ml, con_dig, con_md, h4, in_str, notin_str, hcl', he]
    rw [w]
    simp
theorem atom_ok (k : Nat) (a : List Nat) (v : D) (S : Sto) (ha : AtomT a v) : (lev M.prg (k + 1)).call "atom" [.str (U a)] S = .ok v S := by
  rw [lev_call _ _ _ _ _ _ fn_atom rfl]
  obtain ⟨c, q, ha0, _⟩ := ha.head
  have hl : a.length ≤ 16777216 := by cases ha <;> simp_all <;> omega
  have h4 := fun S => ix_str a 0 c S hl (by rw [ha0]; rfl)
  simp only [Int.natCast_zero] at h4
  cases ha with
  | word a h1 h2 hall =>
    have hcl : c ∈ letL := hall c (by rw [ha0]; simp)
    have hcd : ¬(c ∈ digL) := by
      rw [letL_eq] at hcl; rw [digL_eq]
      simp at hcl ⊢; omega
    have hcd' : ¬(c ∈ (Str.ofString "0123456789").cps.toList) := hcd
    simp -implicitDefEqProofs [c_atom, lev_con, con_dig, h4, in_str, hcd']
  | zero =>
    have hc : c = 48 := by simp at ha0; exact ha0.1.symm
    subst hc
    have hcd' : 48 ∈ (Str.ofString "0123456789").cps.toList := by decide +kernel
    have hi : ∀ S, bltD .int [.str (U [48])] S = .ok (.int 0) S := fun S => by
      have h1 : intText? (U [48]) = some 0 := by kernel_rfl
      have h2 : (U [48]).length ≤ 640 := by decide
      simp [bltD, h1, h2]
    simp -implicitDefEqProofs [c_atom, lev_con, con_dig, h4, in_str, hcd', hi]
  | num a i h1 h2 hall hz hi =>
    have hcl : c ∈ digL := hall c (by rw [ha0]; simp)
    have hcl' : c ∈ (Str.ofString "0123456789").cps.toList := hcl
    have hi : ∀ S, bltD .int [.str (U a)] S = .ok (.int i) S := fun S => by
      have h2 : (U a).length ≤ 640 := by have : (U a).length = a.length := by simp [U, Str.length]
                                         omega
      simp [bltD, hi, h2]
    simp -implicitDefEqProofs [c_atom, lev_con, con_dig, h4, in_str, hcl', hi]
theorem whole_ok (k : Nat) (v : D) (T : List Nat) (S : Sto) (hT : T.length ≤ 100000) : (lev M.prg (k + 1)).call "whole" [v, .str (U T), .int T.length] S = .ok v S := by
  rw [lev_call _ _ _ _ _ _ fn_whole rfl]
  simp -implicitDefEqProofs [c_whole, len_str T _ (show T.length ≤ 16777216 by omega)]
end Mp.K42
end
section
set_option Elab.async false
set_option linter.all false
set_option maxHeartbeats 0
/-! K42Read: read_term. -/
namespace Mp.K42
open PySem L2
/-- the open lists lie in the store, the innermost first -/
structure RS (B : Sto) (L : Nat) (fr : List (Nat × List D)) (S : Sto) (m : Nat) : Prop where
  fm : Fr [] B S
  lL : B.length ≤ L
  top : S[L]? = some (.lst (fr.map fun p => D.ref p.1).reverse)
  its : ∀ p ∈ fr, B.length ≤ p.1 ∧ p.1 ≠ L ∧ p.2.length ≤ m ∧ S[p.1]? = some (.lst p.2)
  nd : (fr.map (·.1)).Nodup
  small : fr.length ≤ 200
theorem RS.mono {B : Sto} {L : Nat} {fr : List (Nat × List D)} {S : Sto} {m m' : Nat} (h : RS B L fr S m) (g : m ≤ m') : RS B L fr S m' :=
  ⟨h.fm, h.lL, h.top, fun p hp => by obtain ⟨a, b, c, d⟩ := h.its p hp; exact ⟨a, b, by omega, d⟩, h.nd, h.small⟩
theorem RS.push {B : Sto} {L : Nat} {fr : List (Nat × List D)} {S : Sto} {m : Nat} (h : RS B L fr S m) (hl : fr.length < 200) :
    RS B L ((S.length, []) :: fr) ((S ++ [O.lst []]).set L (O.lst ((fr.map fun p => D.ref p.1).reverse ++ [D.ref S.length]))) m := by
  have lL := lt_at h.top
  have hB := h.fm.1
  refine ⟨(h.fm.trans (Fr.app _ _ _)).trans_fresh (Fr.set (W := [L]) _ _ (by simp)) (by simp; exact h.lL), h.lL, ?_, ?_, ?_, by simp; omega⟩
  · rw [List.map_cons, List.reverse_cons]
    exact set_self ((Fr.app [] S _).at h.top (by simp)) _
  · intro p hp
    rcases List.mem_cons.1 hp with rfl | hp
    · refine ⟨hB, by simp; omega, by simp, ?_⟩
      exact set_other (by simp) _ (by simp; omega)
    · obtain ⟨a, b, c, d⟩ := h.its p hp
      exact ⟨a, b, c, set_other ((Fr.app [] S _).at d (by simp)) _ (Ne.symm b)⟩
  · simp only [List.map_cons, List.nodup_cons]
    refine ⟨fun hm => ?_, h.nd⟩
    obtain ⟨p, hp, e⟩ := List.mem_map.1 hm
    have := lt_at (h.its p hp).2.2.2
    omega
theorem RS.app {B : Sto} {L r : Nat} {ds : List D} {fr : List (Nat × List D)} {S : Sto} {m : Nat} (h : RS B L ((r, ds) :: fr) S m) (d : D) :
    RS B L ((r, ds ++ [d]) :: fr) (S.set r (O.lst (ds ++ [d]))) (m + 1) := by
  obtain ⟨a, b, c, e⟩ := h.its (r, ds) (by simp)
  have hnd := h.nd
  simp only [List.map_cons, List.nodup_cons] at hnd
  refine ⟨h.fm.trans_fresh (Fr.set (W := [r]) _ _ (by simp)) (by simp; exact a), h.lL, ?_, ?_, h.nd, h.small⟩
  · have := h.top
    exact set_other this _ b
  · intro p hp
    rcases List.mem_cons.1 hp with rfl | hp
    · exact ⟨a, b, by simp at c ⊢; omega, set_self e _⟩
    · obtain ⟨a', b', c', d'⟩ := h.its p (by simp [hp])
      refine ⟨a', b', by omega, set_other d' _ ?_⟩
      intro e1
      exact hnd.1 (List.mem_map.2 ⟨p, hp, e1.symm⟩)
theorem RS.pop {B : Sto} {L r : Nat} {ds : List D} {fr : List (Nat × List D)} {S : Sto} {m : Nat} (h : RS B L ((r, ds) :: fr) S m) :
    RS B L fr (S.set L (O.lst (fr.map fun p => D.ref p.1).reverse)) m ∧ (S.set L (O.lst (fr.map fun p => D.ref p.1).reverse))[r]? = some (.lst ds) := by
  obtain ⟨a, b, c, e⟩ := h.its (r, ds) (by simp)
  have hnd := h.nd
  simp only [List.map_cons, List.nodup_cons] at hnd
  have hsm := h.small
  simp at hsm
  refine ⟨⟨h.fm.trans_fresh (Fr.set (W := [L]) _ _ (by simp)) (by simp; exact h.lL), h.lL, set_self h.top _, ?_, hnd.2, by omega⟩, set_other e _ (Ne.symm b)⟩
  intro p hp
  obtain ⟨a', b', c', d'⟩ := h.its p (by simp [hp])
  exact ⟨a', b', c', set_other d' _ (Ne.symm b')⟩
theorem atI_last {α : Type} (l : List α) (a : α) : L2.atI (l ++ [a]) (-1) = some a := by
  unfold L2.atI L2.ixN
  rw [if_neg (by omega), if_pos (by simp; omega)]
  have : (-1 + ((l.length : Int) + 1)).toNat = l.length := by omega
  simp [this]
theorem RS.last {B : Sto} {L r : Nat} {ds : List D} {fr : List (Nat × List D)} {S : Sto} {m : Nat} (h : RS B L ((r, ds) :: fr) S m) : ixD (.ref L) (-1) S = some (.ref r) := by
  rw [ixD_ref h.top]
  simp only [List.map_cons, List.reverse_cons]
  exact atI_last _ _
theorem RS.popped {B : Sto} {L r : Nat} {ds : List D} {fr : List (Nat × List D)} {S : Sto} {m : Nat} (h : RS B L ((r, ds) :: fr) S m) : bmD .pop (.ref L) [] S = .ok (.ref r) (S.set L (O.lst (fr.map fun p => D.ref p.1).reverse)) := by
  have ht := h.top
  simp only [List.map_cons, List.reverse_cons] at ht
  simp only [bmD, ht]
  simp
theorem bmOk_pop {S : Sto} {n : Nat} {ds : List D} (h : S[n]? = some (.lst ds)) : bmOk .pop (.ref n) S = true := by simp [bmOk, h]
theorem fn_rterm : M.prg.fn "read_term" = some ⟨1, 5, c_read_term⟩ := by kernel_rfl
theorem op_eq : Str.ofString "(" = U [40] := by decide +kernel
theorem cl_eq : Str.ofString ")" = U [41] := by decide +kernel
theorem sp_eq : Str.ofString " " = U [32] := by decide +kernel
theorem con_depth : M.prg.con "MOST_DEPTH" = some (.int 200) := by kernel_rfl
/-- what a run gives -/
def Outp (B : Sto) : Out → Fl → Prop
  | .ret d, r => r.Ret fun x S' => x = d ∧ Fr [] B S'
  | .bad n, r => r.Exn fun x S' => x = exT n ∧ Fr [] B S'
def q3 : CSs :=
 (.cons (.ite (.cmp .NotEq (.slc (.var 0) (.some (.var 2)) (.some (.bin .Add (.var 2) (.int 1)))) (.str " ")) (.cons (.raise "InvalidText" (.cons (.var 2) .nil))
  .nil) .nil)
 (.cons (.aug 2 .Add (.int 1))
 .nil))
def q4 : CSs := .cons (.while_ p2_read_term p3_read_term) q3
noncomputable def otr (C : Cf) (N : Nat) : Env → Sto → Fl := fun ρ S => whL (fun ρ2 S2 => (evE C none p1_read_term ρ2 S2).bind fun x S3 => ofO (isBl x) S3) (fun ρ2 S2 => evSs C none p4_read_term ρ2 S2) N ρ S
noncomputable def inn (C : Cf) (N : Nat) : Env → Sto → Fl := fun ρ S => whL (fun ρ2 S2 => (evE C none p2_read_term ρ2 S2).bind fun x S3 => ofO (isBl x) S3) (fun ρ2 S2 => evSs C none p3_read_term ρ2 S2) N ρ S
theorem otr_succ (C : Cf) (N : Nat) (ρ : Env) (S : Sto) : otr C (N + 1) ρ S = (evSs C none p4_read_term ρ S).turn (otr C N) := by
  show whL _ _ (N + 1) ρ S = _
  rw [whL]
  simp -implicitDefEqProofs [p1_read_term]
  rfl
theorem inn_succ (C : Cf) (N : Nat) (ρ : Env) (S : Sto) : inn C (N + 1) ρ S = ((evE C none p2_read_term ρ S).bind fun x S3 => ofO (isBl x) S3).fl ρ fun b S1 => if b = true then (evSs C none p3_read_term ρ S1).turn (inn C N) else .nx ρ S1 := by
  show whL _ _ (N + 1) ρ S = _
  rw [whL]
  rfl
theorem q4_eq (C : Cf) (ρ : Env) (S : Sto) : evSs C none q4 ρ S = (inn C wFuel ρ S).then_ fun ρ1 S1 => evSs C none q3 ρ1 S1 := by
  rw [q4, evSs_cons, evS_while]; rfl
theorem run_ok (k : Nat) (T : List Nat) (hT : T.length ≤ 100000) (B : Sto) (L : Nat) {f : Bool} {stk : List (List D)} {cs : List Nat} {n : Nat} {o : Out} (h : Run f stk cs n o) :
    ∀ (fr : List (Nat × List D)) (S : Sto) (x3 x4 : Option D), fr.map (·.2) = stk → T.drop n = cs → n ≤ T.length → RS B L fr S n →
    if f then ∀ N, cs.length < N → Outp B o (otr (lev M.prg (k + 3)) N [some (.str (U T)), some (.ref L), some (.int n), x3, x4] S)
    else ∀ N N2, cs.length ≤ N → cs.length < N2 → Outp B o (((inn (lev M.prg (k + 3)) N2 [some (.str (U T)), some (.ref L), some (.int n), x3, x4] S).then_ fun ρ1 S1 => evSs (lev M.prg (k + 3)) none q3 ρ1 S1).turn (otr (lev M.prg (k + 3)) N)) := by
  have hT' : T.length ≤ 16777216 := by omega
  have drop1 : ∀ n c r, T.drop n = c :: r → T.drop (n + 1) = r ∧ n + 1 ≤ T.length := by
    intro n c r h
    have : T.drop (n + 1) = (T.drop n).drop 1 := by rw [List.drop_drop]
    rw [this, h]
    have := congrArg List.length h
    simp at this
    exact ⟨rfl, by omega⟩
  have p4e : p4_read_term = .cons (.ite (.cmp .Eq (.slc (.var 0) (.some (.var 2)) (.some (.bin .Add (.var 2) (.int 1)))) (.str "(")) (.cons (.ite (.cmp .Eq (.blt .len (.cons (.var 1) .nil)) (.glob "MOST_DEPTH")) (.cons (.raise "InvalidText" (.cons (.var 2) .nil))
   .nil) .nil)
  (.cons (.expr (.bm .append (.var 1) (.cons (.lst .nil) .nil)))
  (.cons (.aug 2 .Add (.int 1))
  (.cons (.ite (.cmp .NotEq (.slc (.var 0) (.some (.var 2)) (.some (.bin .Add (.var 2) (.int 1)))) (.str ")")) (.cons .cont
   .nil) .nil)
  .nil)))) (.cons (.asg (.name 3) (.call "atom_end" (.cons (.var 0) (.cons (.var 2) .nil))))
  (.cons (.asg (.name 4) (.call "atom" (.cons (.slc (.var 0) (.some (.var 2)) (.some (.var 3))) .nil)))
  (.cons (.asg (.name 2) (.var 3))
  (.cons (.ite (.cmp .Eq (.blt .len (.cons (.var 1) .nil)) (.int 0)) (.cons (.ret (.call "whole" (.cons (.var 4) (.cons (.var 0) (.cons (.var 2) .nil)))))
   .nil) .nil)
  (.cons (.expr (.bm .append (.sub (.var 1) (.neg (.int 1))) (.cons (.var 4) .nil)))
  .nil)))))) q4 := rfl
  induction h with
  | @eof stk n =>
    intro fr S x3 x4 hst hdr hn rs
    intro N hN
    obtain ⟨N', rfl⟩ : ∃ N', N = N' + 1 := ⟨N - 1, by omega⟩
    rw [otr_succ, p4e]
    have hs := fun S => slc_one T n S hT' hn
    rw [hdr] at hs
    have hl : T.length = n := by have := congrArg List.length hdr; simp at this; omega
    obtain ⟨x, S', e, rfl, rfl⟩ := aend_eof k T n S hT hl
    simp -implicitDefEqProofs [hs, op_eq, U_inj, e]
    exact ⟨_, _, _, rfl, rfl, rs.fm⟩
  | @open0 stk r n o hst hr ih =>
    intro fr S x3 x4 hfr hdr hn rs
    intro N hN
    obtain ⟨N', rfl⟩ : ∃ N', N = N' + 1 := ⟨N - 1, by omega⟩
    obtain ⟨d1, hn1⟩ := drop1 _ _ _ hdr
    have hl : fr.length < 200 := by have := congrArg List.length hfr; simp at this; omega
    have rs' := (rs.push hl).mono (show n ≤ n + 1 by omega)
    have hs := fun S => slc_one T n S hT' hn
    have hs1 := fun S => slc_one T (n + 1) S hT' hn1
    rw [hdr] at hs
    rw [d1] at hs1
    have e1 : ((n + 1 : Nat) : Int) = (n : Int) + 1 := by omega
    have q := ih ((S.length, []) :: fr) _ x3 x4 (by simp [hfr]) d1 hn1 rs' N' wFuel (by simp at hN ⊢; omega) (by show _ < 1000000000; have := congrArg List.length d1; simp at this ⊢; omega)
    have lt := len_ref rs.top
    have hne : ¬((fr.length : Int) = 200) := by omega
    rw [e1] at q hs1
    have hap : ((S ++ [O.lst []])[L]?) = some (.lst (fr.map fun p => D.ref p.1).reverse) := (Fr.app [] S _).at rs.top (by simp)
    have hapl : (fr.map fun p => D.ref p.1).reverse.length < 16777216 := by simp; omega
    rw [otr_succ, p4e]
    simp -implicitDefEqProofs [hs, hs1, op_eq, cl_eq, U_inj, lt, lev_con, con_depth, hne, bmOk_app rs.top, app_ref hap hapl, augD, q4_eq]
    simpa using q
  | @open_ stk r n o hst h41 hr ih =>
    intro fr S x3 x4 hfr hdr hn rs
    intro N hN
    obtain ⟨N', rfl⟩ : ∃ N', N = N' + 1 := ⟨N - 1, by omega⟩
    obtain ⟨d1, hn1⟩ := drop1 _ _ _ hdr
    have hl : fr.length < 200 := by have := congrArg List.length hfr; simp at this; omega
    have rs' := (rs.push hl).mono (show n ≤ n + 1 by omega)
    have hs := fun S => slc_one T n S hT' hn
    have hs1 := fun S => slc_one T (n + 1) S hT' hn1
    rw [hdr] at hs
    rw [d1] at hs1
    have e1 : ((n + 1 : Nat) : Int) = (n : Int) + 1 := by omega
    have q := ih ((S.length, []) :: fr) _ x3 x4 (by simp [hfr]) d1 hn1 rs' N' (by simp at hN ⊢; omega)
    have lt := len_ref rs.top
    have hne : ¬((fr.length : Int) = 200) := by omega
    rw [e1] at q hs1
    have hap : ((S ++ [O.lst []])[L]?) = some (.lst (fr.map fun p => D.ref p.1).reverse) := (Fr.app [] S _).at rs.top (by simp)
    have hapl : (fr.map fun p => D.ref p.1).reverse.length < 16777216 := by simp; omega
    have h41' : ¬(r.take 1 = [41]) := by cases r with
      | nil => simp
      | cons c r => simpa using h41
    rw [otr_succ, p4e]
    simp -implicitDefEqProofs [hs, hs1, op_eq, cl_eq, U_inj, lt, lev_con, con_depth, hne, bmOk_app rs.top, app_ref hap hapl, augD, h41']
    simpa using q
  | @whole a v n ha =>
    intro fr S x3 x4 hfr hdr hn rs
    intro N hN
    obtain ⟨N', rfl⟩ : ∃ N', N = N' + 1 := ⟨N - 1, by omega⟩
    have hfr0 : fr = [] := by simpa using hfr
    subst hfr0
    obtain ⟨c, r, hc, hcs⟩ := ha.head
    have hs := fun S => slc_one T n S hT' hn
    rw [hdr, hc] at hs
    have hc40 : ¬(c = 40) := by rintro rfl; simp [signs, letL_eq, digL_eq] at hcs
    have hlen : n + a.length = T.length := by have := congrArg List.length hdr; simp at this; omega
    have hend := fun S => aend_ok (k + 2) T a [] v n S hT (by rw [hdr, List.append_nil]) ha (Or.inl rfl)
    rw [hlen] at hend
    have hslc := fun S => slc_str T n T.length S hT' (Nat.le_refl _) hn
    have htk : (T.drop n).take (T.length - n) = a := by rw [hdr]; exact List.take_of_length_le (by omega)
    rw [htk] at hslc
    have lt := len_ref rs.top
    simp only [List.map_nil, List.reverse_nil, List.length_nil] at lt
    have hat := fun S => atom_ok (k + 2) a v S ha
    have hw := fun S => whole_ok (k + 2) v T S hT
    rw [otr_succ, p4e]
    simp -implicitDefEqProofs [hs, op_eq, U_inj, hc40, hend, hslc, hat, lt, hw]
    exact ⟨_, _, rfl, rfl, rs.fm⟩
  | @atom top more a v r n o ha hsep hr ih =>
    intro fr S x3 x4 hfr hdr hn rs
    intro N hN
    obtain ⟨N', rfl⟩ : ∃ N', N = N' + 1 := ⟨N - 1, by omega⟩
    obtain ⟨⟨r0, ds⟩, fr', rfl⟩ : ∃ p fr', fr = p :: fr' := by cases fr with
      | nil => simp at hfr
      | cons p fr' => exact ⟨p, fr', rfl⟩
    simp only [List.map_cons, List.cons.injEq] at hfr
    obtain ⟨rfl, rfl⟩ := hfr
    obtain ⟨c, q0, hc, hcs⟩ := ha.head
    have hpos : 0 < a.length := by rw [hc]; simp
    have hs := fun S => slc_one T n S hT' hn
    rw [hdr, hc] at hs
    have hc40 : ¬(c = 40) := by rintro rfl; simp [signs, letL_eq, digL_eq] at hcs
    have hlen : T.length - n = a.length + r.length := by have := congrArg List.length hdr; simpa using this
    have hend := fun S => aend_ok (k + 2) T a r v n S hT hdr ha hsep
    obtain ⟨n', hn'⟩ : ∃ n', n' = n + a.length := ⟨_, rfl⟩
    rw [← hn'] at hend ih
    have hslc := fun S => slc_str T n n' S hT' (by omega) (by omega)
    have htk : (T.drop n).take (n' - n) = a := by
      rw [hdr, hn', Nat.add_sub_cancel_left]; exact List.take_left' rfl
    rw [htk] at hslc
    have d1 : T.drop n' = r := by
      rw [hn', ← List.drop_drop, hdr]; exact List.drop_left' rfl
    have lt := len_ref rs.top
    have hne : ¬((fr'.length : Int) + 1 = 0) := by omega
    have hat := fun S => atom_ok (k + 2) a v S ha
    obtain ⟨i1, i2, i3, i4⟩ := rs.its (r0, ds) (by simp)
    have hal : ds.length < 16777216 := by simp at i3; omega
    have q := ih ((r0, ds ++ [v]) :: fr') _ (some (.int (n' : Nat))) (some v) (by simp) d1 (by omega) ((rs.app v).mono (by omega)) N' wFuel (by simp at hN; omega) (by show _ < 1000000000; omega)
    rw [otr_succ, p4e]
    simp -implicitDefEqProofs [hs, op_eq, U_inj, hc40, hend, hslc, hat, lt, hne, rs.last, bmOk_app i4, app_ref i4 hal, q4_eq]
    exact q
  | @close top nxt more r n o hr ih =>
    intro fr S x3 x4 hfr hdr hn rs
    intro N N2 hN hN2
    obtain ⟨N', rfl⟩ : ∃ N', N2 = N' + 1 := ⟨N2 - 1, by omega⟩
    obtain ⟨⟨r0, ds⟩, ⟨r1, es⟩, fr', rfl⟩ : ∃ p p' fr', fr = p :: p' :: fr' := by
      match fr, hfr with
      | p :: p' :: fr', _ => exact ⟨p, p', fr', rfl⟩
    simp only [List.map_cons, List.cons.injEq] at hfr
    obtain ⟨rfl, rfl, rfl⟩ := hfr
    obtain ⟨d1, hn1⟩ := drop1 _ _ _ hdr
    have hs := fun S => slc_one T n S hT' hn
    rw [hdr] at hs
    obtain ⟨rp, hr0⟩ := rs.pop
    obtain ⟨i1, i2, i3, i4⟩ := rp.its (r1, es) (by simp)
    have hal : es.length < 16777216 := by simp at i3; omega
    have lt := len_ref rp.top
    have hne : ¬((fr'.length : Int) + 1 = 0) := by omega
    have e1 : ((n + 1 : Nat) : Int) = (n : Int) + 1 := by omega
    have q := ih ((r1, es ++ [.tup ds]) :: fr') _ x3 (some (.tup ds)) (by simp) d1 hn1 (rp.app (.tup ds)) N N' (by simp at hN; omega) (by simp at hN2; omega)
    rw [e1] at q
    rw [inn_succ]
    have hpop := rs.popped
    have hlast := rp.last
    generalize S.set L (O.lst (((r1, es) :: fr').map fun p => D.ref p.1).reverse) = S1 at *
    simp -implicitDefEqProofs [p2_read_term, p3_read_term, hs, cl_eq, U_inj, augD, bmOk_pop rs.top, hpop, tuple_ref hr0, lt, hne, hlast, bmOk_app i4, app_ref i4 hal]
    exact q
  | @done top n =>
    intro fr S x3 x4 hfr hdr hn rs
    intro N N2 hN hN2
    obtain ⟨N', rfl⟩ : ∃ N', N2 = N' + 1 := ⟨N2 - 1, by omega⟩
    obtain ⟨⟨r0, ds⟩, rfl⟩ : ∃ p, fr = [p] := by
      match fr, hfr with
      | [p], _ => exact ⟨p, rfl⟩
    simp only [List.map_cons, List.map_nil, List.cons.injEq, and_true] at hfr
    subst hfr
    obtain ⟨d1, hn1⟩ := drop1 _ _ _ hdr
    have hlen : T.length = n + 1 := by have := congrArg List.length d1; simp at this; omega
    have hs := fun S => slc_one T n S hT' hn
    rw [hdr] at hs
    obtain ⟨rp, hr0⟩ := rs.pop
    have lt := len_ref rp.top
    simp only [List.map_nil, List.reverse_nil, List.length_nil] at lt
    have hw := fun S => whole_ok (k + 2) (.tup ds) T S hT
    have e1 : ((n + 1 : Nat) : Int) = (n : Int) + 1 := by omega
    rw [hlen, e1] at hw
    have hpop := rs.popped
    rw [inn_succ]
    simp only [List.map_nil, List.reverse_nil] at hpop hr0 lt rp
    generalize S.set L (O.lst []) = S1 at *
    simp -implicitDefEqProofs [p2_read_term, p3_read_term, hs, cl_eq, U_inj, augD, bmOk_pop rs.top, hpop, tuple_ref hr0, lt, hw]
    exact ⟨_, _, rfl, rfl, rp.fm⟩
  | @sep top more r n o hr ih =>
    intro fr S x3 x4 hfr hdr hn rs
    intro N N2 hN hN2
    obtain ⟨N', rfl⟩ : ∃ N', N2 = N' + 1 := ⟨N2 - 1, by omega⟩
    obtain ⟨d1, hn1⟩ := drop1 _ _ _ hdr
    have hs := fun S => slc_one T n S hT' hn
    rw [hdr] at hs
    have e1 : ((n + 1 : Nat) : Int) = (n : Int) + 1 := by omega
    have q := ih fr S x3 x4 hfr d1 hn1 (rs.mono (by omega)) N (by simp at hN; omega)
    rw [e1] at q
    rw [inn_succ]
    simp -implicitDefEqProofs [p2_read_term, hs, cl_eq, U_inj, q3, sp_eq, augD]
    exact q
  | @eof2 top more n =>
    intro fr S x3 x4 hfr hdr hn rs
    intro N N2 hN hN2
    obtain ⟨N', rfl⟩ : ∃ N', N2 = N' + 1 := ⟨N2 - 1, by omega⟩
    have hs := fun S => slc_one T n S hT' hn
    rw [hdr] at hs
    rw [inn_succ]
    simp -implicitDefEqProofs [p2_read_term, hs, cl_eq, U_inj, q3, sp_eq, exc_lev, exc_text, exnO]
    exact ⟨_, _, _, rfl, rfl, rs.fm⟩
/-- the whole reading -/
theorem rterm_ok (k : Nat) (T : List Nat) (o : Out) (S : Sto) (hT : T.length ≤ 100000) (h : Run true [] T 0 o) :
    match o with
    | .ret d => ((lev M.prg (k + 4)).call "read_term" [.str (U T)] S).Good fun r S' => r = d ∧ Fr [] S S'
    | .bad n => ((lev M.prg (k + 4)).call "read_term" [.str (U T)] S).Exn fun x S' => x = exT n ∧ Fr [] S S' := by
  have q := run_ok k T hT S S.length h [] (S ++ [.lst []]) none none rfl (by simp) (by omega) ⟨Fr.app _ _ _, by omega, by simp, by simp, by simp, by simp⟩ wFuel (by show _ < 1000000000; omega)
  rw [lev_call _ _ _ _ _ _ fn_rterm rfl]
  cases o with
  | ret d =>
    apply Fl.Ret.good
    simp -implicitDefEqProofs [c_read_term]
    apply Fl.Ret.then_
    exact q
  | bad n =>
    apply Fl.Exn.res
    simp -implicitDefEqProofs [c_read_term]
    apply Fl.Exn.then_
    exact q
end Mp.K42
end
section
set_option Elab.async false
set_option linter.all false
set_option maxHeartbeats 0
/-! K42Text: _law_text, write_term, Duel.text. -/
namespace Mp.K42
open PySem L2
theorem U_app (a b : List Nat) : U a ++ U b = U (a ++ b) := by
  show Str.append _ _ = _
  simp [Str.append, U]
theorem U_len (a : List Nat) : (U a).length = a.length := by simp [U, Str.length]
theorem add_str (a b : List Nat) (S : Sto) (h : a.length + b.length ≤ 16777216) : binD .Add (.str (U a)) (.str (U b)) S = .ok (.str (U (a ++ b))) S := by
  have : (U a).length + (U b).length ≤ PySem.sizeLine := by rw [U_len, U_len, line_eq]; exact h
  simp only [binD, addD]
  rw [if_pos this, U_app]
theorem join_U (ls : List (List Nat)) : Txt.join (U [32]) (ls.map U) = U (jn ls) := by
  unfold Txt.join
  rw [StrLaws.glued_eq_join]
  induction ls with
  | nil => rfl
  | cons x ls ih =>
    cases ls with
    | nil => rfl
    | cons y r =>
      have e : Str.join (U [32]) ((x :: y :: r).map U) = U x ++ U [32] ++ Str.join (U [32]) ((y :: r).map U) := rfl
      rw [e, ih, U_app, U_app]
      simp [jn]
theorem strs_U (ls : List (List Nat)) : strsOf (ls.map fun l => D.str (U l)) = some (ls.map U) := by
  induction ls with
  | nil => rfl
  | cons x ls ih => simp [strsOf, ih]
theorem join_ok (ls : List (List Nat)) (S : Sto) (n : Nat) (hn : S[n]? = some (.lst (ls.map fun l => D.str (U l)))) (h : (ls.map (·.length + 1)).sum ≤ 1000000) : bmD .join (.str (U [32])) [.ref n] S = .ok (.str (U (jn ls))) S := by
  have e : ((itemsD (.ref n) S).bind strsOf) = some (ls.map U) := by simp [itemsD, hn, strs_U]
  have hb : ((ls.map U).map (·.length)).sum + (ls.map U).length * (U [32]).length ≤ 16777216 := by
    have h1 : ∀ ls : List (List Nat), ((ls.map U).map (·.length)).sum + (ls.map U).length * (U [32]).length = (ls.map (·.length + 1)).sum := by
      intro ls
      induction ls with
      | nil => rfl
      | cons x ls ih => simp [U_len] at ih ⊢; omega
    rw [h1]; omega
  simp only [bmD, e]
  rw [if_pos hb, join_U]
theorem num_txt {i : Int} (h : NumOk i) (S : Sto) : bltD .str [.int i] S = .ok (.str (U (numT i))) S := by
  have : i.natAbs.log2 < 1920 ∧ Str.ofString (toString i) = U (numT i) := by
    rcases h with rfl | rfl | rfl | rfl | rfl <;> exact ⟨by decide, by decide +kernel⟩
  simp only [bltD]
  rw [if_pos this.1, this.2]
theorem str_str (z : Str) (S : Sto) : bltD .str [.str z] S = .ok (.str z) S := rfl
theorem txtL_sum {j : Nat} (ds : List D) (h : ∀ d ∈ ds, Tm j d) : ((txtL ds).map (·.length + 1)).sum ≤ szL ds := by
  induction ds with
  | nil => simp [txtL]
  | cons d ds ih =>
    have a1 := txt_len d (h d (by simp))
    have := ih fun x hx => h x (by simp [hx])
    simp [txtL, szL]; omega
theorem fn_ltext : M.prg.fn "_law_text" = some ⟨1, 2, c__law_text⟩ := by kernel_rfl
theorem bmOk_join (z : Str) (S : Sto) : bmOk .join (.str z) S = true := rfl
theorem txtL_get (ds : List D) (i : Nat) (h : i < ds.length) : (txtL ds)[i]? = some (txt ds[i]) := by rw [txtL_map]; simp [h]
theorem ltext_ok (k : Nat) : ∀ (j : Nat) (d : D) (S : Sto), Tm j d → sz d ≤ 1000000 → ((lev M.prg (k + j + 1)).call "_law_text" [d] S).Good fun r S' => r = .str (U (txt d)) ∧ Fr [] S S' := by
  have atoms : ∀ (K : Nat) (j : Nat) (d : D) (S : Sto), Tm j d → (∀ ds, d ≠ .tup ds) → ((lev M.prg (K + 1)).call "_law_text" [d] S).Good fun r S' => r = .str (U (txt d)) ∧ Fr [] S S' := by
    intro K j d S h hn
    rw [lev_call _ _ _ _ _ _ fn_ltext rfl]
    cases h with
    | num h => simp -implicitDefEqProofs [c__law_text, num_txt h, txt, Fr.refl]
    | word h => simp -implicitDefEqProofs [c__law_text, str_str, txt, U_tl, Fr.refl]
    | tup _ _ => exact absurd rfl (hn _)
  intro j
  induction j with
  | zero =>
    intro d S h _
    exact atoms k 0 d S h (by rintro ds rfl; cases h)
  | succ j ih =>
    intro d S h hs
    by_cases hd : ∃ ds, d = .tup ds
    · obtain ⟨ds, rfl⟩ := hd
      cases h with
      | tup hl hd =>
        have hsum := txtL_sum ds hd
        have hjl := txtL_len ds hd
        simp only [sz] at hs
        rw [← Nat.add_assoc]
        rw [lev_call _ _ _ _ _ _ fn_ltext rfl]
        apply Fl.Ret.good
        simp -implicitDefEqProofs [c__law_text, bmOk_join]
        apply Fl.Ret.then_
        apply Fl.Ret.then_
        apply Res.Good.ret
        repeat with_reducible apply Res.Good.bind
        refine lc_good ((txtL ds).map fun l => D.str (U l)) (fun _ S' => Fr [] S S') (Fr.refl _ _) (fun _ _ _ => trivial) (by simp [txtL_map]) ?_ ?_
        · intro i hi S1 f1
          simp -implicitDefEqProofs [p1__law_text]
          apply Res.Good.bind
          refine (ih ds[i] S1 (hd _ (List.getElem_mem hi)) (by have := sz_mem hi; omega)).mono ?_
          rintro r S2 ⟨rfl, f2⟩
          simp [txtL_map]
          exact f1.trans f2
        · intro S1 f1
          have hj := join_ok (txtL ds) (S1 ++ [O.lst ((txtL ds).map fun l => D.str (U l))]) S1.length (by simp) (by omega)
          have a1 := add_str [40] (jn (txtL ds)) (S1 ++ [O.lst ((txtL ds).map fun l => D.str (U l))]) (by simp; omega)
          have a2 := add_str ([40] ++ jn (txtL ds)) [41] (S1 ++ [O.lst ((txtL ds).map fun l => D.str (U l))]) (by simp; omega)
          simp -implicitDefEqProofs [op_eq, cl_eq, sp_eq]
          rw [hj]
          simp -implicitDefEqProofs only [Res.good_ok]
          rw [a1]
          simp -implicitDefEqProofs only [Res.good_ok]
          rw [a2]
          simp -implicitDefEqProofs only [Res.good_ok]
          exact ⟨by simp [txt], f1.trans (Fr.app _ _ _)⟩
    · exact atoms (k + (j + 1)) (j + 1) d S h fun ds e => hd ⟨ds, e⟩
/-! ### the program's writing -/
theorem fn_isword : M.prg.fn "is_word" = some ⟨1, 2, c_is_word⟩ := by kernel_rfl
theorem fn_isnum : M.prg.fn "is_number" = some ⟨1, 1, c_is_number⟩ := by kernel_rfl
theorem fn_wpart : M.prg.fn "write_part" = some ⟨2, 4, c_write_part⟩ := by kernel_rfl
theorem fn_wterm : M.prg.fn "write_term" = some ⟨1, 1, c_write_term⟩ := by kernel_rfl
theorem con_mn : M.prg.con "MOST_NUMBER" = some (.int 999999999) := by kernel_rfl
theorem isword_no (k : Nat) (d : D) (S : Sto) (h : ∀ f S, isD f d S (.bi "str") = some false) : (lev M.prg (k + 1)).call "is_word" [d] S = .ok (.bl false) S := by
  rw [lev_call _ _ _ _ _ _ fn_isword rfl]
  simp -implicitDefEqProofs [c_is_word, h]
@[simp] theorem isD_tup_s (f) (ds : List D) (S : Sto) : isD f (.tup ds) S (.bi "str") = some false := by simp [isD, biNames]
theorem word_facts {w : Str} (h : WordOk w) : (∀ c ∈ w.cps.toList, c ∈ letL) ∧ w.length ≤ 12 ∧ ¬(w = Str.ofString "") := by
  rcases h with rfl | rfl | rfl | rfl | rfl | rfl <;> decide +kernel
theorem isword_ok (k : Nat) (w : Str) (S : Sto) (h : WordOk w) : ((lev M.prg (k + 1)).call "is_word" [.str w] S).Good fun r S' => r = .bl true ∧ S' = S := by
  rw [lev_call _ _ _ _ _ _ fn_isword rfl]
  obtain ⟨h1, h2, h3⟩ := word_facts h
  have hl : w.length ≤ PySem.sizeLine := by rw [line_eq]; omega
  have hlen : ∀ S, bltD .len [.str w] S = .ok (.int w.length) S := fun S => by
    show (if w.length ≤ PySem.sizeLine then Res.ok (D.int (w.length : Nat)) S else Res.stuck) = _
    rw [if_pos hl]
  have hseq : ∀ S, seqI (.str w) S = some ⟨signsOf w, fun _ => True⟩ := fun S => by simp only [seqI, if_pos hl]
  have h12 : ¬((12 : Int) < (w.length : Int)) := by omega
  apply Fl.Ret.good
  simp -implicitDefEqProofs [c_is_word, h3, hlen, h12, lev_con, con_ml, hseq]
  apply Fl.Nx.ret
  refine for_nx (fun i ρ S' => S' = S ∧ ∃ x, ρ = [some (.str w), x]) ⟨rfl, none, rfl⟩ (fun _ _ _ _ => trivial) ?_ ?_
  · rintro i hi ρ S1 ⟨rfl, x, rfl⟩
    have hi' : i < w.cps.toList.length := by simpa [signsOf] using hi
    have hg : (signsOf w)[i]'hi = .str (U [w.cps.toList[i]]) := by simp [signsOf, U]
    have hc : w.cps.toList[i] ∈ (Str.ofString "abcdefghijklmnopqrstuvwxyz").cps.toList := h1 _ (List.getElem_mem hi')
    refine ⟨_, rfl, ?_⟩
    rw [hg]
    simp -implicitDefEqProofs only [p1_is_word, s_evSs_cons, s_evS_ite, s_evE_cmp, s_evE_var, s_evE_glob, lev_con, con_let, List.set, getV_zero, getV_succ, ofO_some, Res.bind_ok, notin_str, hc, decide_true, Bool.not_true, Option.map_some, isBl_bl, Res.fl_ok]
    simp -implicitDefEqProofs
  · rintro ρ S1 ⟨rfl, x, rfl⟩
    simp -implicitDefEqProofs
theorem isnum_ok (k : Nat) (i : Int) (S : Sto) (h : NumOk i) : (lev M.prg (k + 1)).call "is_number" [.int i] S = .ok (.bl true) S := by
  rw [lev_call _ _ _ _ _ _ fn_isnum rfl]
  have h1 : 0 ≤ i := by rcases h with rfl | rfl | rfl | rfl | rfl <;> omega
  have h2 : i ≤ 999999999 := by rcases h with rfl | rfl | rfl | rfl | rfl <;> omega
  simp -implicitDefEqProofs [c_is_number, h1, lev_con, con_mn, h2]
theorem isnum_tup (k : Nat) (ds : List D) (S : Sto) : (lev M.prg (k + 1)).call "is_number" [.tup ds] S = .ok (.bl false) S := by
  rw [lev_call _ _ _ _ _ _ fn_isnum rfl]
  simp -implicitDefEqProofs [c_is_number]
theorem wpart_ok (k : Nat) : ∀ (j : Nat) (d : D) (S : Sto) (pp : List D), Tm j d → sz d ≤ 1000000 → pp.length + j ≤ 200 → ((lev M.prg (k + j + 2)).call "write_part" [d, .tup pp] S).Good fun r S' => r = .str (U (txt d)) ∧ Fr [] S S' := by
  have atoms : ∀ (K : Nat) (j : Nat) (d : D) (S : Sto) (pp : List D), Tm j d → (∀ ds, d ≠ .tup ds) → ((lev M.prg (K + 2)).call "write_part" [d, .tup pp] S).Good fun r S' => r = .str (U (txt d)) ∧ Fr [] S S' := by
    intro K j d S pp h hn
    rw [lev_call _ _ _ _ _ _ fn_wpart rfl]
    cases h with
    | @num _ i h =>
      have q1 := isword_no K (.int i) S fun f S => isD_int_s f i S
      simp -implicitDefEqProofs [c_write_part, q1, isnum_ok K i S h, num_txt h, txt, Fr.refl]
    | @word _ w h =>
      obtain ⟨r, S1, q, rfl, rfl⟩ := isword_ok K w S h
      simp -implicitDefEqProofs [c_write_part, q, txt, U_tl, Fr.refl]
    | tup _ _ => exact absurd rfl (hn _)
  intro j
  induction j with
  | zero =>
    intro d S pp h _ _
    exact atoms k 0 d S pp h (by rintro ds rfl; cases h)
  | succ j ih =>
    intro d S pp h hs hp
    by_cases hd : ∃ ds, d = .tup ds
    · obtain ⟨ds, rfl⟩ := hd
      cases h with
      | tup hl hd =>
        have hsum := txtL_sum ds hd
        have hjl := txtL_len ds hd
        simp only [sz] at hs
        rw [show k + (j + 1) + 2 = k + j + 2 + 1 by omega]
        rw [lev_call _ _ _ _ _ _ fn_wpart rfl]
        have q1 := isword_no (k + j + 1) (.tup ds) S fun f S => isD_tup_s f ds S
        have q2 := isnum_tup (k + j + 1) ds S
        have hp2 : ¬((200 : Int) ≤ (pp.length : Int)) := by omega
        apply Fl.Ret.good
        simp -implicitDefEqProofs [c_write_part, q1, q2, hp2, lev_con, con_depth, rangeI_one ds.length (by omega)]
        apply Fl.Nx.ret
        refine for_nx (fun i ρ S1 => ∃ x, ρ = [some (.tup ds), some (.tup pp), some (.ref S.length), x] ∧ S.length < S1.length ∧ Fr [] S S1 ∧ S1[S.length]? = some (.lst (((txtL ds).take i).map fun l => D.str (U l)))) ?_ (fun _ _ _ _ => trivial) ?_ ?_
        · exact ⟨none, rfl, by simp, Fr.app _ _ _, by simp⟩
        · rintro i hi ρ S1 ⟨x, rfl, l1, f1, v1⟩
          have hi' : i < ds.length := by simpa using hi
          refine ⟨_, rfl, ?_⟩
          rw [rangeL_get]
          have hx : L2.atI ds (i : Int) = some ds[i] := by rw [atI_nat]; simp [hi']
          have bl : pp.length + 1 ≤ 16777216 := by omega
          have al : (((txtL ds).take i).map fun l => D.str (U l)).length < 16777216 := by simp; omega
          simp -implicitDefEqProofs [p1_write_part, ixD_tup, hx, add_tup1 _ pp _ bl, bmOk_app v1]
          apply Fl.Nx.then_
          apply Res.Good.nx
          repeat with_reducible apply Res.Good.bind
          refine (ih ds[i] S1 (pp ++ [.int (i : Nat)]) (hd _ (List.getElem_mem hi')) (by have := sz_mem hi'; omega) (by simp; omega)).mono ?_
          rintro r S2 ⟨rfl, f2⟩
          have v2 := f2.at v1 (by simp)
          have hg := txtL_get ds i hi'
          have tk : (txtL ds).take (i + 1) = (txtL ds).take i ++ [txt ds[i]] := by
            have hlt : i < (txtL ds).length := by rw [txtL_map]; simpa using hi'
            rw [List.take_succ_eq_append_getElem hlt]
            rw [List.getElem?_eq_getElem hlt] at hg
            rw [Option.some.inj hg]
          have l2 := f2.1
          simp -implicitDefEqProofs [app_ref v2 al]
          have tk2 : ((txtL ds).map fun l => D.str (U l)).take (i + 1) = ((txtL ds).map fun l => D.str (U l)).take i ++ [D.str (U (txt ds[i]))] := by
            rw [← List.map_take, ← List.map_take, tk]; simp
          rw [tk2]
          refine ⟨by omega, (f1.trans f2).trans_fresh (Fr.set (W := [S.length]) _ _ (by simp)) (by simp), ?_⟩
          simpa using set_self v2 _
        · rintro ρ S1 ⟨x, rfl, l1, f1, v1⟩
          have hll : (txtL ds).length = ds.length := by rw [txtL_map]; simp
          rw [rangeL_len, List.take_of_length_le (by omega)] at v1
          have hj := join_ok (txtL ds) S1 S.length v1 (by omega)
          have a1 := add_str [40] (jn (txtL ds)) S1 (by simp; omega)
          have a2 := add_str ([40] ++ jn (txtL ds)) [41] S1 (by simp; omega)
          simp -implicitDefEqProofs [bmOk_join, op_eq, cl_eq, sp_eq, hj]
          rw [a1]
          simp -implicitDefEqProofs only [Res.bind_ok]
          rw [a2]
          simp -implicitDefEqProofs
          exact ⟨by simp [txt], f1⟩
    · exact atoms (k + (j + 1)) (j + 1) d S pp h fun ds e => hd ⟨ds, e⟩
theorem tm_duel (t : T) (h : t.wf) : Tm (t.dep + 2) (.tup [.str "duel", t.d]) := tm_two _ _ _ (.word (Or.inl rfl)) (tm_T t h).1
theorem fn_dtext : M.prg.fn (mkey "Duel" "text") = some ⟨1, 1, c_Duel_text⟩ := by kernel_rfl
theorem mok_text : M.prg.mok "Duel" "text" = some 0 := by kernel_rfl
theorem met_text {S : Sto} {o : Nat} {t : T} (h : S[o]? = some (.ins "Duel" (duelF t))) (k : Nat) : metD (lev M.prg k).mok (.ref o) "text" 0 S = some ("Duel" : Str) := by
  have h1 : (duelF t).lookup ("text" : Str) = none := by rfl
  rw [lev_mok]
  simp [metD, h, mok_text, h1]
theorem dtext_ok (k : Nat) (S : Sto) (o : Nat) (t : T) (hS : S[o]? = some (.ins "Duel" (duelF t))) (h : t.Fit) :
    ((lev M.prg (k + 30)).call (mkey "Duel" "text") [.ref o] S).Good fun r S' => r = .str (U (txt (.tup [.str "duel", t.d]))) ∧ Fr [] S S' := by
  have := h.dep
  have := h.nn
  have := h.nl
  obtain ⟨_, s1⟩ := tm_T t h.wf
  have hc := cnt_eq t
  rw [lev_call _ _ _ _ _ _ fn_dtext rfl]
  apply Fl.Ret.good
  simp -implicitDefEqProofs [c_Duel_text, fld_tree hS]
  apply Fl.Ret.then_
  apply Res.Good.ret
  rw [lev_call _ _ _ _ _ _ fn_wterm rfl]
  apply Fl.Ret.good
  simp -implicitDefEqProofs [c_write_term]
  apply Fl.Ret.then_
  apply Res.Good.ret
  have q := wpart_ok (k + 4) 22 (.tup [.str "duel", t.d]) S [] ((tm_duel t h.wf).mono (by omega)) (by simp [sz, szL]; omega) (by simp)
  rw [show k + 4 + 22 + 2 = k + 28 from rfl] at q
  refine q.mono ?_
  rintro r S1 ⟨rfl, f1⟩
  simp
  exact f1
end Mp.K42
end
section
set_option Elab.async false
set_option linter.all false
set_option maxHeartbeats 0
/-! K42Dread: Duel.read, _law_read. -/
namespace Mp.K42
open PySem L2
theorem fn_dread : M.prg.fn (mkey "Duel" "read") = some ⟨1, 2, c_Duel_read⟩ := by kernel_rfl
theorem fn_lread : M.prg.fn "_law_read" = some ⟨1, 2, c__law_read⟩ := by kernel_rfl
theorem exc_term (ps : List D) : M.prg.exc "InvalidTerm" [.tup ps] = some [(("path" : Str), .tup ps)] := by kernel_rfl
theorem sub_td : M.prg.sub "InvalidTerm" "InvalidDuel" = some false := by kernel_rfl
theorem sub_tt : M.prg.sub "InvalidTerm" "InvalidTerm" = some true := by kernel_rfl
theorem sub_tq : M.prg.sub "InvalidTerm" "InvalidQuery" = some false := by kernel_rfl
theorem sub_tx : M.prg.sub "InvalidTerm" "InvalidText" = some false := by kernel_rfl
theorem sub_xd : M.prg.sub "InvalidText" "InvalidDuel" = some false := by kernel_rfl
theorem sub_xt : M.prg.sub "InvalidText" "InvalidTerm" = some false := by kernel_rfl
theorem sub_xx : M.prg.sub "InvalidText" "InvalidText" = some true := by kernel_rfl
theorem exf_t : M.prg.exf "InvalidTerm" "path" = true := by kernel_rfl
theorem exf_x : M.prg.exf "InvalidText" "position" = true := by kernel_rfl
theorem dread_ok (k : Nat) (X : List Nat) (t : T) (S : Sto) (hT : X.length ≤ 100000) (hr : Run true [] X 0 (.ret (.tup [.str "duel", t.d]))) (h : t.Fit) :
    ((lev M.prg (k + 26)).call (mkey "Duel" "read") [.str (U X)] S).Good fun r S' => Fr [] S S' ∧ ∃ o', r = .ref o' ∧ S'[o']? = some (.ins "Duel" (duelF t)) := by
  rw [lev_call _ _ _ _ _ _ fn_dread rfl]
  apply Fl.Ret.good
  simp -implicitDefEqProofs [c_Duel_read]
  apply Fl.Nx.ret
  apply Res.Good.nx
  have q : ((lev M.prg (k + 25)).call "read_term" [.str (U X)] S).Good fun r S' => r = .tup [.str "duel", t.d] ∧ Fr [] S S' := rterm_ok (k + 21) X _ S hT hr
  refine q.mono ?_
  rintro r S1 ⟨rfl, f1⟩
  simp -implicitDefEqProofs [ixD_tup]
  apply Fl.Ret.then_
  apply Res.Good.ret
  repeat with_reducible apply Res.Good.bind
  refine (make_ok k t S1 h).mono ?_
  rintro r S2 ⟨rfl, f2, o2⟩
  simp -implicitDefEqProofs [isNon]
  exact ⟨f1.trans f2, o2⟩
theorem dread_bad (k : Nat) (X : List Nat) (d : D) (due : List Nat) (S : Sto) (hT : X.length ≤ 100000) (hr : Run true [] X 0 (.ret (.tup [.str "duel", d]))) (h : Bad 0 d due) :
    ((lev M.prg (k + 29)).call (mkey "Duel" "read") [.str (U X)] S).Exn fun x S' => x = exD (natD due) ∧ Fr [] S S' := by
  rw [lev_call _ _ _ _ _ _ fn_dread rfl]
  apply Fl.Exn.res
  simp -implicitDefEqProofs [c_Duel_read]
  apply Fl.Nx.thenE
  apply Res.Good.nx
  have q : ((lev M.prg (k + 28)).call "read_term" [.str (U X)] S).Good fun r S' => r = .tup [.str "duel", d] ∧ Fr [] S S' := rterm_ok (k + 24) X _ S hT hr
  refine q.mono ?_
  rintro r S1 ⟨rfl, f1⟩
  simp -implicitDefEqProofs [ixD_tup]
  apply Fl.Exn.then_
  apply Res.Exn.fl
  apply Res.Exn.bind
  refine (make_bad k d due S1 h).mono ?_
  rintro x S2 ⟨rfl, f2⟩
  exact ⟨rfl, f1.trans f2⟩
/-- no duel's term -/
def NoDuel (x : D) : Prop := (∃ w, x = .str w) ∨ (∃ ds : List D, x = .tup ds ∧ ds.length ≠ 2) ∨ ∃ w b, x = .tup [.str w, b] ∧ ¬(w = Str.ofString "duel")
theorem dread_no (k : Nat) (X : List Nat) (d : D) (S : Sto) (hT : X.length ≤ 100000) (hr : Run true [] X 0 (.ret d)) (h : NoDuel d) :
    ((lev M.prg (k + 5)).call (mkey "Duel" "read") [.str (U X)] S).Exn fun x S' => x = ⟨"InvalidTerm", [(("path" : Str), .tup [])]⟩ ∧ Fr [] S S' := by
  rw [lev_call _ _ _ _ _ _ fn_dread rfl]
  apply Fl.Exn.res
  simp -implicitDefEqProofs [c_Duel_read]
  apply Fl.Nx.thenE
  apply Res.Good.nx
  have q : ((lev M.prg (k + 4)).call "read_term" [.str (U X)] S).Good fun r S' => r = d ∧ Fr [] S S' := rterm_ok k X _ S hT hr
  refine q.mono ?_
  rintro r S1 ⟨rfl, f1⟩
  rcases h with ⟨w, rfl⟩ | ⟨ds, rfl, hl⟩ | ⟨w, b, rfl, hw⟩
  · simp -implicitDefEqProofs [exc_lev, exc_term, exnO, f1]
  · have hl' : ¬((ds.length : Int) = 2) := by omega
    simp -implicitDefEqProofs [hl', exc_lev, exc_term, exnO, f1]
  · simp -implicitDefEqProofs [ixD_tup, hw, exc_lev, exc_term, exnO, f1]
theorem dread_text (k : Nat) (X : List Nat) (n : Nat) (S : Sto) (hT : X.length ≤ 100000) (hr : Run true [] X 0 (.bad n)) :
    ((lev M.prg (k + 5)).call (mkey "Duel" "read") [.str (U X)] S).Exn fun x S' => x = exT n ∧ Fr [] S S' := by
  rw [lev_call _ _ _ _ _ _ fn_dread rfl]
  apply Fl.Exn.res
  simp -implicitDefEqProofs [c_Duel_read]
  apply Fl.Exn.then_
  apply Res.Exn.fl
  exact rterm_ok k X _ S hT hr
theorem lread_ok (k : Nat) (X : List Nat) (t : T) (S : Sto) (hT : X.length ≤ 100000) (hr : Run true [] X 0 (.ret (.tup [.str "duel", t.d]))) (h : t.Fit) :
    ((lev M.prg (k + 27)).call "_law_read" [.str (U X)] S).Good fun r S' => r = .tup [.str "made", t.d] ∧ Fr [] S S' := by
  rw [lev_call _ _ _ _ _ _ fn_lread rfl]
  apply Fl.Ret.good
  simp -implicitDefEqProofs [c__law_read]
  apply Fl.Ret.then_
  apply Fl.Ret.catch_
  apply Fl.Ret.then_
  apply Res.Good.ret
  repeat with_reducible apply Res.Good.bind
  refine (dread_ok k X t S hT hr h).mono ?_
  rintro r S1 ⟨f1, o1, rfl, h1⟩
  simp -implicitDefEqProofs [fld_tree h1]
  exact f1
theorem lread_bad (k : Nat) (X : List Nat) (d : D) (due : List Nat) (S : Sto) (hT : X.length ≤ 100000) (hr : Run true [] X 0 (.ret (.tup [.str "duel", d]))) (h : Bad 0 d due) :
    ((lev M.prg (k + 30)).call "_law_read" [.str (U X)] S).Good fun r S' => r = .tup [.str "wrong", .tup (natD due)] ∧ Fr [] S S' := by
  rw [lev_call _ _ _ _ _ _ fn_lread rfl]
  apply Fl.Ret.good
  simp -implicitDefEqProofs [c__law_read]
  apply Fl.Ret.then_
  apply Res.Exn.catch_
  repeat with_reducible apply Res.Exn.bind
  refine (dread_bad k X d due S hT hr h).mono ?_
  rintro x S1 ⟨rfl, f1⟩
  simp -implicitDefEqProofs [exD, lev_sub, sub_dd, lev_exf, exf_d, bornOk, Mp.unset, ifO, Fl.unset]
  exact f1
theorem lread_no (k : Nat) (X : List Nat) (d : D) (S : Sto) (hT : X.length ≤ 100000) (hr : Run true [] X 0 (.ret d)) (h : NoDuel d) :
    ((lev M.prg (k + 6)).call "_law_read" [.str (U X)] S).Good fun r S' => r = .tup [.str "term", .tup []] ∧ Fr [] S S' := by
  rw [lev_call _ _ _ _ _ _ fn_lread rfl]
  apply Fl.Ret.good
  simp -implicitDefEqProofs [c__law_read]
  apply Fl.Ret.then_
  apply Res.Exn.catch_
  repeat with_reducible apply Res.Exn.bind
  refine (dread_no k X d S hT hr h).mono ?_
  rintro x S1 ⟨rfl, f1⟩
  simp -implicitDefEqProofs [lev_sub, sub_td, sub_tt, sub_tq, sub_tx, lev_exf, exf_t, bornOk, Mp.unset, ifO, Fl.unset]
  exact f1
theorem lread_text (k : Nat) (X : List Nat) (n : Nat) (S : Sto) (hT : X.length ≤ 100000) (hr : Run true [] X 0 (.bad n)) :
    ((lev M.prg (k + 6)).call "_law_read" [.str (U X)] S).Good fun r S' => r = .tup [.str "text", .int n] ∧ Fr [] S S' := by
  rw [lev_call _ _ _ _ _ _ fn_lread rfl]
  apply Fl.Ret.good
  simp -implicitDefEqProofs [c__law_read]
  apply Fl.Ret.then_
  apply Res.Exn.catch_
  repeat with_reducible apply Res.Exn.bind
  refine (dread_text k X n S hT hr).mono ?_
  rintro x S1 ⟨rfl, f1⟩
  simp -implicitDefEqProofs [exT, lev_sub, sub_xd, sub_xt, sub_xx, lev_exf, exf_x, bornOk, Mp.unset, ifO, Fl.unset]
  exact f1
end Mp.K42
end
section
set_option Elab.async false
set_option linter.all false
set_option maxHeartbeats 0
/-! K42Texts: _law_texts. -/
namespace Mp.K42
open PySem L2
theorem fn_texts : M.prg.fn "_law_texts" = some ⟨3, 7, c__law_texts⟩ := by kernel_rfl
theorem run_all {j : Nat} {d : D} (h : Tm j d) (hj : j ≤ 200) : Run true [] (txt d) 0 (.ret d) := by
  have := run_txt j d h [] [] 0 (.ret d) (by simpa using hj) (Or.inl rfl) ⟨rfl, rfl⟩
  rwa [List.append_nil] at this
theorem pl_nat (p : List Nat) (h : p.length ≤ 1000000) : Pl 1 (.tup (natD p)) := by
  refine .tup (by rw [natD_len]; exact h) ?_
  intro d hd
  obtain ⟨b, _, rfl⟩ := List.mem_map.1 hd
  exact .int _
theorem pl_pair (j : Nat) (x : Str) (d : D) (h : Pl j d) : Pl (j + 1) (.tup [.str x, d]) := by
  refine .tup (by simp) ?_
  intro e he
  simp at he
  rcases he with rfl | rfl
  · exact .str _
  · exact h
theorem more_two (t : T) (h : t.Fit) : ∃ XT : List D, (∀ S, binD .Add t.d (.tup [.int 0, .int 0]) S = .ok (.tup XT) S) ∧ XT.length ≠ 2 ∧ Tm 22 (.tup XT) ∧ sz (.tup XT) ≤ 30000 := by
  obtain ⟨tm0, sz0⟩ := tm_T t h.wf
  have hd := h.dep
  have hnn := h.nn
  have hnl := h.nl
  have hc := cnt_eq t
  rw [t.d_eq] at tm0 sz0 ⊢
  have hl : (dL t.ts).length ≤ 1000 := by
    cases tm0 with
    | tup hl _ => simp at hl; omega
  refine ⟨(.str t.w :: .int (sg t.s) :: dL t.ts) ++ [.int 0, .int 0], fun S => add_tup _ _ S (by simp; omega), by simp, ?_, ?_⟩
  · cases tm0 with
    | tup hl hd =>
      refine .tup (by
        have hw := h.wf
        have : t.ts.length ≤ 12 := by
          cases t with
          | leaf o => simp [T.ts]
          | node s ts => exact hw.2.1
        simp [dL_len]; omega) ?_
      intro d hdd
      rcases List.mem_append.1 hdd with hdd | hdd
      · exact (hd d hdd).mono (by omega)
      · simp at hdd; subst hdd; exact .num (Or.inl rfl)
  · simp only [sz, szL_app] at sz0 ⊢
    simp only [szL, sz] at sz0 ⊢
    omega
theorem wrong_texts (t : T) (h : t.Fit) (XT : List D) (h1 : XT.length ≠ 2) (h2 : Tm 22 (.tup XT)) (h3 : sz (.tup XT) ≤ 30000) (p : Nat) (hp : p < 5) :
    ∃ x, L2.atI [D.tup [.str "duel"], .tup [.str "duel", t.d, .int 0], .tup [.str "dual", t.d], .tup XT, .str "duel"] (p : Int) = some x ∧ Tm 23 x ∧ sz x ≤ 40000 ∧ NoDuel x := by
  obtain ⟨tm0, sz0⟩ := tm_T t h.wf
  have hd := h.dep
  have hnn := h.nn
  have hnl := h.nl
  have hc := cnt_eq t
  have td := tm0.mono (show t.dep + 1 ≤ 22 by omega)
  match p, hp with
  | 0, _ => exact ⟨_, rfl, tm_one 22 _ (.word (Or.inl rfl)), by simp [sz, szL], Or.inr (Or.inl ⟨_, rfl, by simp⟩)⟩
  | 1, _ => exact ⟨_, rfl, .tup (by simp) (by
      intro d hdd
      simp at hdd
      rcases hdd with rfl | rfl | rfl
      · exact .word (Or.inl rfl)
      · exact td
      · exact .num (Or.inl rfl)), by simp [sz, szL]; omega, Or.inr (Or.inl ⟨_, rfl, by simp⟩)⟩
  | 2, _ => exact ⟨_, rfl, tm_two 22 _ _ (.word (Or.inr (Or.inl rfl))) td, by simp [sz, szL]; omega, Or.inr (Or.inr ⟨_, _, rfl, by decide +kernel⟩)⟩
  | 3, _ => exact ⟨_, rfl, h2.mono (by omega), by omega, Or.inr (Or.inl ⟨_, rfl, h1⟩)⟩
  | 4, _ => exact ⟨_, rfl, .word (Or.inl rfl), by simp [sz], Or.inl ⟨_, rfl⟩⟩
theorem cutU (T : List Nat) (c : Nat) (S : Sto) (hT : T.length ≤ 16777216) (h : c ≤ T.length) : slcD (.str (U T)) none (some (c : Int)) S = .ok (.str (U (T.take c))) S := by
  have h1 : (U T).length ≤ PySem.sizeLine := by rw [U_len, line_eq]; exact hT
  have h2 : (U T).cps.toList = T := by simp [U]
  have h3 := HT.sIx_nat T.length T.length c
  simp only [slcD, h1, if_true, h2, cutD, HT.sIx_none, h3, Nat.min_eq_left h, List.drop_zero, Nat.sub_zero]
  rfl
theorem texts_ok (k : Nat) (S : Sto) (s n o : Nat) (t : T) (hs : Stt S s n) (hS : S[o]? = some (.ins "Duel" (duelF t))) (h : t.Fit) :
    ((lev M.prg (k + 52)).call "_law_texts" [.ref s, .ref o, t.d] S).Good fun r S' => r = .bl true ∧ Fr [s] S S' ∧ Stt S' s n := by
  rw [lev_call _ _ _ _ _ _ fn_texts rfl]
  apply Fl.Ret.good
  have hd := h.dep
  have hnn := h.nn
  have hnl := h.nl
  have hc := cnt_eq t
  obtain ⟨tm0, sz0⟩ := tm_T t h.wf
  have hos := (stt_o hs hS).1
  have up : ∀ A B : Sto, Fr [] A B → Fr [s] A B := fun A B f => f.mono (by simp)
  have tmD := (tm_duel t h.wf).mono (show t.dep + 2 ≤ 22 by omega)
  have szD : sz (.tup [.str "duel", t.d]) ≤ 30000 := by simp [sz, szL]; omega
  have lenD := txt_len _ tmD
  have runD := run_all tmD (by omega)
  have cutD' := fun c hc => run_cut 22 _ tmD [] 0 c (by simp) (Or.inr ⟨_, rfl⟩) hc
  obtain ⟨TX, hTX⟩ : ∃ TX, TX = txt (.tup [.str "duel", t.d]) := ⟨_, rfl⟩
  rw [← hTX] at lenD runD cutD'
  have pT := (pl_T t h.wf).mono (show t.dep + 1 ≤ 21 by omega)
  simp -implicitDefEqProofs [c__law_texts]
  apply Fl.Nx.ret
  apply Res.Good.nx
  have q1 := ltext_ok (k + 28) 22 (.tup [.str "duel", t.d]) S tmD (by omega)
  rw [show k + 28 + 22 + 1 = k + 51 from rfl, ← hTX] at q1
  refine q1.mono ?_
  rintro r S1 ⟨rfl, f1⟩
  have hS1 := f1.at hS (by simp)
  simp -implicitDefEqProofs [CEs.len, met_text hS1]
  apply Fl.Nx.ret
  apply Res.Good.nx
  repeat with_reducible apply Res.Good.bind
  have q2 := dtext_ok (k + 21) S1 o t hS1 h
  rw [show k + 21 + 30 = k + 51 from rfl, ← hTX] at q2
  refine q2.mono ?_
  rintro r S2 ⟨rfl, f2⟩
  simp -implicitDefEqProofs
  repeat with_reducible apply Res.Good.bind
  refine (same_self 0 _ (.str _) (k + 50) S2 (by omega)).mono ?_
  rintro r S3 ⟨rfl, f3⟩
  simp -implicitDefEqProofs
  repeat with_reducible apply Res.Good.bind
  have q3 := lread_ok (k + 24) TX t S3 (by omega) runD h
  rw [show k + 24 + 27 = k + 51 from rfl] at q3
  refine q3.mono ?_
  rintro r S4 ⟨rfl, f4⟩
  simp -implicitDefEqProofs
  repeat with_reducible apply Res.Good.bind
  refine (same_self 22 _ (pl_pair 21 _ _ pT) (k + 50) S4 (by omega)).mono ?_
  rintro r S5 ⟨rfl, f5⟩
  have F5 := (((f1.trans f2).trans f3).trans f4).trans f5
  simp -implicitDefEqProofs
  apply Fl.Nx.ret
  apply Res.Good.nx
  refine (spoilt_ok k S5 s n t (hs.keep F5 (by simp) (by simp)) h.wf hd (by omega) (by omega)).mono ?_
  rintro r S6 ⟨f6, s6, w, d', due, rfl, w6, sp⟩
  have F6 := (up _ _ F5).trans f6
  simp -implicitDefEqProofs [ixD_ref w6]
  apply Fl.Nx.ret
  apply Res.Good.nx
  repeat with_reducible apply Res.Good.bind
  have q4 := made_bad (k + 22) S6 d' due sp.bad
  rw [show k + 22 + 29 = k + 51 from rfl] at q4
  refine q4.mono ?_
  rintro r S7 ⟨rfl, f7⟩
  have w7 := f7.at w6 (by simp)
  simp -implicitDefEqProofs [ixD_ref w7]
  repeat with_reducible apply Res.Good.bind
  have pW : Pl 2 (.tup [.str "wrong", .tup (natD due)]) := pl_pair 1 _ _ (pl_nat due (by have := sp.len; omega))
  refine (same_self 2 _ pW (k + 50) S7 (by omega)).mono ?_
  rintro r S8 ⟨rfl, f8⟩
  have w8 := f8.at w7 (by simp)
  have F8 := (F6.trans (up _ _ f7)).trans (up _ _ f8)
  have s8 := (s6.keep f7 (by simp) (by simp)).keep f8 (by simp) (by simp)
  have tmS : Tm 26 (.tup [.str "duel", d']) := tm_two 25 _ _ (.word (Or.inl rfl)) (sp.tm.mono (by omega))
  have szS : sz (.tup [.str "duel", d']) ≤ 35000 := by have := sp.sz; simp [sz, szL]; omega
  have lenS := txt_len _ tmS
  have runS := run_all tmS (by omega)
  simp -implicitDefEqProofs [ixD_ref w8]
  apply Fl.Nx.ret
  apply Res.Good.nx
  repeat with_reducible apply Res.Good.bind
  have q5 := ltext_ok (k + 24) 26 (.tup [.str "duel", d']) S8 tmS (by omega)
  rw [show k + 24 + 26 + 1 = k + 51 from rfl] at q5
  refine q5.mono ?_
  rintro r S9 ⟨rfl, f9⟩
  have w9 := f9.at w8 (by simp)
  generalize txt (.tup [.str "duel", d']) = TS at *
  simp -implicitDefEqProofs
  repeat with_reducible apply Res.Good.bind
  have q6 := lread_bad (k + 21) TS d' due S9 (by omega) runS sp.bad
  rw [show k + 21 + 30 = k + 51 from rfl] at q6
  refine q6.mono ?_
  rintro r S10 ⟨rfl, f10⟩
  have w10 := f10.at w9 (by simp)
  simp -implicitDefEqProofs [ixD_ref w10]
  repeat with_reducible apply Res.Good.bind
  refine (same_self 2 _ pW (k + 50) S10 (by omega)).mono ?_
  rintro r S11 ⟨rfl, f11⟩
  have F11 := ((F8.trans (up _ _ f9)).trans (up _ _ f10)).trans (up _ _ f11)
  have s11 := ((s8.keep f9 (by simp) (by simp)).keep f10 (by simp) (by simp)).keep f11 (by simp) (by simp)
  obtain ⟨XT, hXT, x1, x2, x3⟩ := more_two t h
  simp -implicitDefEqProofs [hXT]
  apply Fl.Nx.ret
  apply Res.Good.nx
  repeat with_reducible apply Res.Good.bind
  refine (pick_good (k + 50) _ s n 5 (s11.keep (Fr.app [] _ _) (by simp) (by simp)) (by omega) (by omega)).mono ?_
  rintro r S12 ⟨p, hp, rfl, f12, s12⟩
  have F12 := (F11.trans (Fr.app _ _ _)).trans f12
  have ls := hs.ls
  have l11 := F11.1
  have l12 : S12[S11.length]? = some (.lst [.tup [.str "duel"], .tup [.str "duel", t.d, .int 0], .tup [.str "dual", t.d], .tup XT, .str "duel"]) := f12.at (by simp) (by simp; omega)
  obtain ⟨x, hx, tmx, szx, hno⟩ := wrong_texts t h XT x1 x2 x3 p hp
  simp -implicitDefEqProofs [ixD_ref l12, hx]
  apply Fl.Nx.ret
  apply Res.Good.nx
  repeat with_reducible apply Res.Good.bind
  have q7 := ltext_ok (k + 27) 23 x S12 tmx (by omega)
  rw [show k + 27 + 23 + 1 = k + 51 from rfl] at q7
  refine q7.mono ?_
  rintro r S13 ⟨rfl, f13⟩
  have lenX := txt_len _ tmx
  have runX := run_all tmx (by omega)
  generalize txt x = TY at *
  simp -implicitDefEqProofs
  repeat with_reducible apply Res.Good.bind
  have q8 := lread_no (k + 45) TY x S13 (by omega) runX hno
  rw [show k + 45 + 6 = k + 51 from rfl] at q8
  refine q8.mono ?_
  rintro r S14 ⟨rfl, f14⟩
  have pE : Pl 2 (.tup [.str "term", .tup []]) := pl_pair 1 _ _ (.tup (by simp) (by simp))
  refine (same_self 2 _ pE (k + 50) S14 (by omega)).mono ?_
  rintro r S15 ⟨rfl, f15⟩
  have F15 := ((F12.trans (up _ _ f13)).trans (up _ _ f14)).trans (up _ _ f15)
  have s15 := ((s12.keep f13 (by simp) (by simp)).keep f14 (by simp) (by simp)).keep f15 (by simp) (by simp)
  have hpos : 0 < TX.length := by rw [hTX]; simp [txt]
  have hlt := fun S => len_str TX S (by omega)
  simp -implicitDefEqProofs [hlt]
  apply Fl.Nx.ret
  apply Res.Good.nx
  refine (pick_good (k + 50) S15 s n TX.length s15 hpos (by omega)).mono ?_
  rintro r S16 ⟨c, hc2, rfl, f16, s16⟩
  have hcut := fun S => cutU TX c S (by omega) (by omega)
  have rc := cutD' c hc2
  rw [Nat.zero_add] at rc
  simp -implicitDefEqProofs [hcut]
  apply Fl.Ret.then_
  apply Res.Good.ret
  repeat with_reducible apply Res.Good.bind
  have q9 := lread_text (k + 45) (TX.take c) c S16 (by rw [List.length_take]; omega) rc
  rw [show k + 45 + 6 = k + 51 from rfl] at q9
  refine q9.mono ?_
  rintro r S17 ⟨rfl, f17⟩
  simp -implicitDefEqProofs
  refine (same_self 1 _ (pl_say _ _) (k + 50) S17 (by omega)).mono ?_
  rintro r S18 ⟨rfl, f18⟩
  simp
  exact ⟨((F15.trans f16).trans (up _ _ f17)).trans (up _ _ f18), (s16.keep f17 (by simp) (by simp)).keep f18 (by simp) (by simp)⟩
end Mp.K42
end
section
set_option Elab.async false
set_option linter.all false
set_option maxHeartbeats 0
/-! K42Chain: _law_chain. -/
namespace Mp.K42
open PySem L2
theorem fn_chain : M.prg.fn "_law_chain" = some ⟨2, 7, c__law_chain⟩ := by kernel_rfl
/-- a chain of i nodes and the path to its innermost leaf -/
structure Chn (i : Nat) (t : T) (p : List Nat) : Prop where
  len : p.length = i
  dep : t.dep = i
  nn : t.nn = i
  nl : t.nl = i + 1
  wf : t.wf
  bad : 1 ≤ i → i ≤ 21 → Bad (21 - i) t.d (p.take (i - 1))
theorem chn_leaf (o : Bool) : Chn 0 (.leaf o) [] := ⟨rfl, rfl, rfl, rfl, trivial, fun h => by omega⟩
theorem chn_two {i : Nat} {t : T} {p : List Nat} (h : Chn i t p) (s o : Bool) : Chn (i + 1) (.node s [t, .leaf o]) (2 :: p) := by
  have d0 : depL [t, .leaf o] = i := by simp [depL, T.dep, h.dep]
  refine ⟨by simp [h.len], by simp [T.dep, d0], by simp [T.nn, nnL, h.nn], by simp [T.nl, nlL, h.nl], ⟨by simp, by simp, h.wf, trivial, trivial⟩, fun _ h21 => ?_⟩
  have e : (T.node s [t, .leaf o]).d = .tup (.str "node" :: .int (sg s) :: (dL [] ++ t.d :: [(T.leaf o).d])) := by simp [T.d, dL]
  rw [e]
  cases i with
  | zero => exact .here (ck_node 20 _ (by omega))
  | succ i =>
    have q := h.bad (by omega) (by omega)
    rw [show 21 - (i + 1) = 21 - (i + 1 + 1) + 1 by omega] at q
    exact .deep s [] [(T.leaf o).d] (by omega) (by simp) trivial (by simp [depL] <;> omega) (by simp [nnL]) (by simp [nlL]) q
theorem chn_three {i : Nat} {t : T} {p : List Nat} (h : Chn i t p) (s o : Bool) : Chn (i + 1) (.node s [.leaf o, t]) (3 :: p) := by
  have d0 : depL [.leaf o, t] = i := by simp [depL, T.dep, h.dep]
  refine ⟨by simp [h.len], by simp [T.dep, d0], by simp [T.nn, nnL, h.nn], by simp [T.nl, nlL, h.nl]; omega, ⟨by simp, by simp, trivial, h.wf, trivial⟩, fun _ h21 => ?_⟩
  have e : (T.node s [.leaf o, t]).d = .tup (.str "node" :: .int (sg s) :: (dL [.leaf o] ++ t.d :: [])) := by simp [T.d, dL]
  rw [e]
  cases i with
  | zero => exact .here (ck_node 20 _ (by omega))
  | succ i =>
    have q := h.bad (by omega) (by omega)
    rw [show 21 - (i + 1) = 21 - (i + 1 + 1) + 1 by omega] at q
    exact .deep s [.leaf o] [] (by omega) (by simp) ⟨trivial, trivial⟩ (by simp [depL, T.dep] <;> omega) (by simp [nnL, T.nn]) (by simp [nlL, T.nl]) q
theorem chain_ok (k : Nat) (S : Sto) (s n lv : Nat) (hs : Stt S s n) (hl : lv ≤ 21) :
    ((lev M.prg (k + 2)).call "_law_chain" [.ref s, .int lv] S).Good fun r S' => Fr [s] S S' ∧ Stt S' s n ∧ ∃ w t p, r = .ref w ∧ S'[w]? = some (.lst [t.d, .tup (natD p)]) ∧ Chn lv t p := by
  rw [lev_call _ _ _ _ _ _ fn_chain rfl]
  apply Fl.Ret.good
  simp -implicitDefEqProofs [c__law_chain]
  apply Fl.Nx.ret
  apply Res.Good.nx
  repeat with_reducible apply Res.Good.bind
  refine (pick_good k S s n 2 hs (by omega) (by omega)).mono ?_
  rintro r S1 ⟨p, hp, rfl, f1, s1⟩
  obtain ⟨o, ho⟩ := sg_pick p hp
  rw [ho]
  simp -implicitDefEqProofs [rangeI_one lv (by omega)]
  apply Fl.Nx.ret
  refine for_nx (fun i ρ S' => Fr [s] S S' ∧ Stt S' s n ∧ ∃ t p x4 x5 x6, ρ = [some (.ref s), some (.int lv), some (T.d t), some (.tup (natD p)), x4, x5, x6] ∧ Chn i t p) ?_ (fun _ _ _ _ => trivial) ?_ ?_
  · exact ⟨f1, s1, .leaf o, [], none, none, none, by simp [T.d, natD], chn_leaf o⟩
  · rintro i hi ρ S2 ⟨f2, s2, t, p, x4, x5, x6, rfl, hc⟩
    have hi' : i < lv := by simpa using hi
    refine ⟨_, rfl, ?_⟩
    have bl : 1 + (natD p).length ≤ 16777216 := by rw [natD_len, hc.len]; omega
    have a2 := fun S => add_tup [D.int 2] (natD p) S (by simpa using bl)
    have a3 := fun S => add_tup [D.int 3] (natD p) S (by simpa using bl)
    simp -implicitDefEqProofs [p1__law_chain]
    apply Fl.Nx.then_
    apply Res.Good.nx
    refine (pick_good k S2 s n 2 s2 (by omega) (by omega)).mono ?_
    rintro r S3 ⟨p3, hp3, rfl, f3, s3⟩
    obtain ⟨o3, ho3⟩ := sg_pick p3 hp3
    rw [ho3]
    simp -implicitDefEqProofs
    apply Fl.Nx.then_
    apply Res.Good.nx
    repeat with_reducible apply Res.Good.bind
    refine (pick_good k S3 s n 2 s3 (by omega) (by omega)).mono ?_
    rintro r S4 ⟨p4, hp4, rfl, f4, s4⟩
    obtain ⟨o4, ho4⟩ := sg_pick p4 hp4
    rw [ho4]
    simp -implicitDefEqProofs
    apply Fl.Nx.then_
    apply Res.Good.nx
    repeat with_reducible apply Res.Good.bind
    refine (pick_good k S4 s n 2 s4 (by omega) (by omega)).mono ?_
    rintro r S5 ⟨p5, hp5, rfl, f5, s5⟩
    have F5 := ((f2.trans f3).trans f4).trans f5
    by_cases h0 : p5 = 0
    · subst h0
      simp -implicitDefEqProofs [a2]
      exact ⟨F5, s5, .node o3 [t, .leaf o4], 2 :: p, by simp [T.d, dL, natD], chn_two hc o3 o4⟩
    · simp -implicitDefEqProofs [h0, a3]
      exact ⟨F5, s5, .node o3 [.leaf o4, t], 3 :: p, by simp [T.d, dL, natD], chn_three hc o3 o4⟩
  · rintro ρ S2 ⟨f2, s2, t, p, x4, x5, x6, rfl, hc⟩
    rw [rangeL_len] at hc
    simp -implicitDefEqProofs
    exact ⟨f2.trans (Fr.app _ _ _), s2.keep (Fr.app [] _ _) (by simp) (by simp), t, p, ⟨rfl, rfl⟩, hc⟩
end Mp.K42
end
section
set_option Elab.async false
set_option linter.all false
set_option maxHeartbeats 0
/-! K42Group: _law_grouped. -/
namespace Mp.K42
open PySem L2
theorem fn_group : M.prg.fn "_law_grouped" = some ⟨3, 9, c__law_grouped⟩ := by kernel_rfl
theorem wfL_td (ts : List T) (a b : Nat) (h : wfL ts) : wfL ((ts.drop a).take b) := by
  have h1 := List.take_append_drop a ts
  have h2 := List.take_append_drop b (ts.drop a)
  rw [← h1] at h
  have h3 := (wfL_app.1 h).2
  rw [← h2] at h3
  exact (wfL_app.1 h3).1
theorem depL_td (ts : List T) (a b : Nat) : depL ((ts.drop a).take b) ≤ depL ts := by
  have h1 := List.take_append_drop a ts
  have h2 := List.take_append_drop b (ts.drop a)
  have e1 : depL ts = max (depL (ts.take a)) (depL (ts.drop a)) := by rw [← depL_app, h1]
  have e2 : depL (ts.drop a) = max (depL ((ts.drop a).take b)) (depL ((ts.drop a).drop b)) := by rw [← depL_app, h2]
  omega
theorem dL_td (ts : List T) (a b : Nat) : ((dL ts).drop a).take b = dL ((ts.drop a).take b) := by simp [dL_map]
theorem slc_ref {S : Sto} {n : Nat} {ds : List D} (h : S[n]? = some (.lst ds)) (a b : Nat) : slcD (.ref n) (some (a : Int)) (some (b : Int)) S = .ok (.ref S.length) (S ++ [.lst (cutD ds (some (a : Int)) (some (b : Int)))]) := by simp [slcD, h]
theorem cut_12 (ds : List D) (a : Nat) (h : a ≤ ds.length) : cutD ds (some (a : Int)) (some ((a : Int) + 12)) = (ds.drop a).take 12 := by
  have h1 := HT.sIx_nat ds.length 0 a
  have h2 := HT.sIx_nat ds.length ds.length (a + 12)
  rw [show ((a + 12 : Nat) : Int) = (a : Int) + 12 by omega] at h2
  simp only [cutD, h1, h2, Nat.min_eq_left h]
  by_cases hc : a + 12 ≤ ds.length
  · rw [Nat.min_eq_left hc, Nat.add_sub_cancel_left]
  · rw [Nat.min_eq_right (by omega)]
    rw [List.take_of_length_le (by simp), List.take_of_length_le (by simp; omega)]
/-- how a list of trees is grouped -/
structure Grp (ts gs : List T) (i : Nat) : Prop where
  len : gs.length = i
  wf : wfL gs
  dep : depL gs ≤ depL ts + 1
  nn : nnL gs = nnL (ts.take (12 * i)) + i
  nl : nlL gs = nlL (ts.take (12 * i))
theorem grp_zero (ts : List T) : Grp ts [] 0 := ⟨rfl, trivial, by simp [depL], by simp [nnL], by simp [nlL]⟩
theorem take_12 (ts : List T) (i : Nat) : ts.take (12 * (i + 1)) = ts.take (12 * i) ++ (ts.drop (12 * i)).take 12 := by
  rw [show 12 * (i + 1) = 12 * i + 12 by omega, List.take_add]
theorem grp_succ {ts gs : List T} {i : Nat} (h : Grp ts gs i) (hw : wfL ts) (hi : 12 * i < ts.length) (s : Bool) : Grp ts (gs ++ [.node s ((ts.drop (12 * i)).take 12)]) (i + 1) := by
  have e := take_12 ts i
  have d := depL_td ts (12 * i) 12
  refine ⟨by simp [h.len], ?_, ?_, ?_, ?_⟩
  · rw [wfL_app]
    exact ⟨h.wf, ⟨by simp; omega, by simp; omega, wfL_td ts _ _ hw⟩, trivial⟩
  · rw [depL_app]; have := h.dep; simp only [depL, T.dep]; omega
  · rw [e, nnL_app, nnL_app, h.nn]; simp only [nnL, T.nn]; omega
  · rw [e, nlL_app, nlL_app, h.nl]; simp only [nlL, T.nl]; omega
/-- one turn of grouping -/
theorem turn_group (k : Nat) (S : Sto) (s n X : Nat) (ts : List T) (x1 x2 x4 x5 x6 x7 x8 : Option D) (hs : Stt S s n) (hX : S[X]? = some (.lst (dL ts))) (hXs : X ≠ s) (hl : ts.length ≤ 1000) (hw : wfL ts) :
    (evSs (lev M.prg (k + 1)) none p2__law_grouped [some (.ref s), x1, x2, some (.ref X), x4, x5, x6, x7, x8] S).Nx fun ρ S' => Fr [s] S S' ∧ Stt S' s n ∧ ∃ Y gs y5 y8, ρ = [some (.ref s), x1, x2, some (.ref Y), x4, y5, x6, x7, y8] ∧ Y ≠ s ∧ S'[Y]? = some (.lst (dL gs)) ∧ Grp ts gs ((ts.length + 11) / 12) := by
  have ls := hs.ls
  have hX1 : (S ++ [O.lst []])[X]? = some (.lst (dL ts)) := (Fr.app [] S _).at hX (by simp)
  obtain ⟨G, hG⟩ : ∃ G, G = (ts.length + 11) / 12 := ⟨_, rfl⟩
  have hdiv : ((ts.length : Int) + 11) / 12 = (G : Int) := by omega
  have hb : G ≤ 1000000 := by omega
  rw [← hG]
  have d12 := fun i S => div_int i 12 S (by omega) (by omega)
  simp -implicitDefEqProofs [p2__law_grouped, len_ref hX1, dL_len, d12, hdiv, rangeI_one _ hb]
  apply Fl.Nx.then_
  refine for_nx (fun i ρ S' => Fr [s] S S' ∧ Stt S' s n ∧ S.length < S'.length ∧ ∃ gs y5, ρ = [some (.ref s), x1, x2, some (.ref X), x4, y5, x6, x7, some (.ref S.length)] ∧ S'[S.length]? = some (.lst (dL gs)) ∧ Grp ts gs i) ?_ (fun _ _ _ _ => trivial) ?_ ?_
  · exact ⟨Fr.app _ _ _, hs.keep (Fr.app [] _ _) (by simp) (by simp), by simp, [], x5, rfl, by simp [dL], grp_zero ts⟩
  · rintro i hi ρ S1 ⟨f1, s1, l1, gs, y5, rfl, g1, hg⟩
    have hi' : i < G := by simpa using hi
    refine ⟨_, rfl, ?_⟩
    rw [rangeL_get]
    have h12 : (12 : Int) * (i : Int) = ((12 * i : Nat) : Int) := by omega
    obtain ⟨a, ha⟩ : ∃ a, a = 12 * i := ⟨_, rfl⟩
    rw [← ha] at h12
    have mul12 := mul_int 12 (i : Int)
    have m12 := fun S => mul12 S (by omega)
    rw [h12] at m12
    simp -implicitDefEqProofs [p1__law_grouped, bmOk_app g1]
    apply Fl.Nx.then_
    apply Res.Good.nx
    repeat with_reducible apply Res.Good.bind
    refine (pick_good k S1 s n 2 s1 (by omega) (by omega)).mono ?_
    rintro r S2 ⟨p, hp, rfl, f2, s2⟩
    obtain ⟨o, ho⟩ := sg_pick p hp
    rw [ho]
    have F2 := f1.trans f2
    have hX2 := F2.at hX (by simp [hXs])
    have g2 := f2.at g1 (by simp; omega)
    have hcut := cut_12 (dL ts) a (by rw [dL_len]; omega)
    rw [dL_td] at hcut
    have hslc : slcD (.ref X) (some (a : Int)) (some ((a : Int) + 12)) S2 = .ok (.ref S2.length) (S2 ++ [.lst (dL ((ts.drop a).take 12))]) := by
      have := slc_ref hX2 a (a + 12)
      rw [show ((a + 12 : Nat) : Int) = (a : Int) + 12 by omega, hcut] at this
      exact this
    have b2 : (dL ((ts.drop a).take 12)).length + 2 ≤ 16777216 := by rw [dL_len]; simp; omega
    have g3 : (S2 ++ [O.lst (dL ((ts.drop a).take 12))])[S.length]? = some (.lst (dL gs)) := (Fr.app [] S2 _).at g2 (by simp)
    have gl : (dL gs).length < 16777216 := by rw [dL_len, hg.len]; omega
    have hgs := grp_succ hg hw (by omega) o
    rw [← ha] at hgs
    have l2 := f2.1
    simp -implicitDefEqProofs [m12, hslc, tuple_new, add_tup2 _ _ _ _ b2, app_ref g3 gl]
    refine ⟨(F2.trans (Fr.app _ _ _)).trans_fresh (Fr.set (W := [S.length]) _ _ (by simp)) (by simp), ?_, by omega, _, ?_, hgs⟩
    · exact (s2.keep (Fr.app [] S2 _) (by simp) (by simp)).keep (Fr.set (W := [S.length]) _ _ (by simp)) (by simp; omega) (by simp; omega)
    · have := set_self g3 (.lst (dL gs ++ [(T.node o ((ts.drop a).take 12)).d]))
      simpa [dL_app, dL, T.d] using this
  · rintro ρ S1 ⟨f1, s1, l1, gs, y5, rfl, g1, hg⟩
    rw [rangeL_len] at hg
    simp -implicitDefEqProofs
    exact ⟨f1, s1, by omega, gs, g1, hg⟩
theorem put_mid1 (a : List D) (x y : D) (b : List D) (i : Nat) (h : a.length = i) : (a ++ x :: b).set i y = a ++ y :: b := by
  subst h
  rw [List.set_append_right _ _ (Nat.le_refl _)]
  simp
theorem grouped_ok (k : Nat) (S : Sto) (s n lv nd : Nat) (hs : Stt S s n) (h1 : 199 ≤ lv) (h2 : lv ≤ 201) (h3 : 20 ≤ nd) (h4 : nd ≤ 201) :
    ((lev M.prg (k + 2)).call "_law_grouped" [.ref s, .int lv, .int nd] S).Good fun r S' => Fr [s] S S' ∧ Stt S' s n ∧ ∃ t, r = T.d t ∧ t.wf ∧ t.dep ≤ 5 ∧ t.nn = nd ∧ t.nl = lv := by
  rw [lev_call _ _ _ _ _ _ fn_group rfl]
  apply Fl.Ret.good
  have ls := hs.ls
  simp -implicitDefEqProofs [c__law_grouped, rangeI_one lv (by omega)]
  apply Fl.Nx.ret
  apply Res.Good.nx
  apply Res.Good.bind
  have key : (lcL (fun _ => True) (fun d S2 => (evE (lev M.prg (k + 1)) none p4__law_grouped [some (.ref s), some (.int lv), some (.int nd), none, none, some d, none, none, none] S2).bind fun y S5 => Res.ok (some y) S5) (rangeL 0 1 lv) S).Good fun ds S' => Fr [s] S S' ∧ Stt S' s n ∧ ∃ ts : List T, ds = dL ts ∧ ts.length = lv ∧ nnL ts = 0 ∧ nlL ts = lv ∧ depL ts = 0 ∧ wfL ts ∧ ∀ t ∈ ts, t.dep = 0 := by
    have gen : ∀ (l : List D) (S1 : Sto), Fr [s] S S1 → Stt S1 s n → (lcL (fun _ => True) (fun d S2 => (evE (lev M.prg (k + 1)) none p4__law_grouped [some (.ref s), some (.int lv), some (.int nd), none, none, some d, none, none, none] S2).bind fun y S5 => Res.ok (some y) S5) l S1).Good fun ds S' => Fr [s] S S' ∧ Stt S' s n ∧ ∃ ts : List T, ds = dL ts ∧ ts.length = l.length ∧ nnL ts = 0 ∧ nlL ts = l.length ∧ depL ts = 0 ∧ wfL ts ∧ ∀ t ∈ ts, t.dep = 0 := by
      intro l
      induction l with
      | nil =>
        intro S1 f1 s1
        unfold lcL
        rw [if_pos trivial]
        exact ⟨_, _, rfl, f1, s1, [], rfl, rfl, rfl, rfl, rfl, trivial, by simp⟩
      | cons d l ih =>
        intro S1 f1 s1
        unfold lcL
        rw [if_pos trivial]
        apply Res.Good.bind
        simp -implicitDefEqProofs [p4__law_grouped]
        repeat with_reducible apply Res.Good.bind
        refine (pick_good k S1 s n 2 s1 (by omega) (by omega)).mono ?_
        rintro r S2 ⟨p, hp, rfl, f2, s2⟩
        obtain ⟨o, ho⟩ := sg_pick p hp
        rw [ho]
        simp -implicitDefEqProofs
        apply Res.Good.bind
        refine (ih S2 (f1.trans f2) s2).mono ?_
        rintro ds S3 ⟨f3, s3, ts, rfl, t1, t2, t3, t4, t5, t6⟩
        simp -implicitDefEqProofs
        refine ⟨f3, s3, .leaf o :: ts, by simp [dL, T.d], by simp [t1], by simp [nnL, T.nn, t2], by simp [nlL, T.nl, t3]; omega, by simp [depL, T.dep, t4], ⟨trivial, t5⟩, ?_⟩
        intro t ht
        rcases List.mem_cons.1 ht with rfl | ht
        · rfl
        · exact t6 t ht
    have q := gen (rangeL 0 1 lv) S (Fr.refl _ _) hs
    simpa using q
  refine key.mono ?_
  rintro ds S1 ⟨f1, s1, ts, rfl, t1, t2, t3, t4, t5, t6⟩
  have l1 := f1.1
  have d12 := fun i S => div_int i 12 S (by omega) (by omega)
  have d144 := fun i S => div_int i 144 S (by omega) (by omega)
  have many : ((lv : Int) + 11) / 12 + ((lv : Int) + 143) / 144 + 1 = 20 := by omega
  have hsub : (nd : Int) - 20 = ((nd - 20 : Nat) : Int) := by omega
  simp -implicitDefEqProofs [d12, d144, many, hsub, rangeI_one (nd - 20) (by omega)]
  apply Fl.Nx.ret
  refine for_nx (fun j ρ S' => Fr [s] S S' ∧ Stt S' s n ∧ ∃ (as bs : List T) (x5 x7 : Option D), ρ = [some (.ref s), some (.int lv), some (.int nd), some (.ref S1.length), some (.int 20), x5, none, x7, none] ∧ S'[S1.length]? = some (.lst (dL (as ++ bs))) ∧
    as.length = j ∧ nnL as = j ∧ nlL as = j ∧ depL as ≤ 1 ∧ wfL as ∧ bs.length = lv - j ∧ nnL bs = 0 ∧ nlL bs = lv - j ∧ depL bs = 0 ∧ wfL bs) ?_ (fun _ _ _ _ => trivial) ?_ ?_
  · exact ⟨f1.trans (Fr.app _ _ _), s1.keep (Fr.app [] _ _) (by simp) (by simp), [], ts, none, none, rfl, by simp, rfl, rfl, rfl, by simp [depL], trivial, by omega, t2, by omega, t4, t5⟩
  · rintro j hj ρ S2 ⟨f2, s2, as, bs, x5, x7, rfl, v2, a1, a2, a3, a4, a5, b1, b2, b3, b4, b5⟩
    have hj' : j < nd - 20 := by simpa using hj
    refine ⟨_, rfl, ?_⟩
    rw [rangeL_get]
    obtain ⟨b, bs', rfl⟩ : ∃ b bs', bs = b :: bs' := by
      cases bs with
      | nil => simp at b1; omega
      | cons b bs' => exact ⟨b, bs', rfl⟩
    simp only [List.length_cons, nnL, nlL, depL] at b1 b2 b3 b4
    have hmod : (j : Int) % (lv : Int) = (j : Int) := Int.emod_eq_of_lt (by omega) (by omega)
    have hm := fun i S => mod_int i (lv : Int) S (by omega)
    have hget : L2.atI (dL (as ++ b :: bs')) (j : Int) = some b.d := by rw [atI_nat]; simp [dL_map, a1]
    have hb0 : b.dep = 0 := by omega
    obtain ⟨o, rfl⟩ : ∃ o, b = .leaf o := by
      cases b with
      | leaf o => exact ⟨o, rfl⟩
      | node _ _ => simp [T.dep] at hb0
    simp only [T.nl, T.nn] at b2 b3
    simp -implicitDefEqProofs [p3__law_grouped, hm, hmod]
    apply Fl.Nx.then_
    apply Res.Good.nx
    repeat with_reducible apply Res.Good.bind
    refine (pick_good k S2 s n 2 s2 (by omega) (by omega)).mono ?_
    rintro r S3 ⟨p, hp, rfl, f3, s3⟩
    obtain ⟨o3, ho⟩ := sg_pick p hp
    rw [ho]
    have v3 := f3.at v2 (by simp; omega)
    have ix3 : L2.ixN (dL (as ++ T.leaf o :: bs')).length (j : Int) = some j := ixN_nat _ _ (by rw [dL_len]; simp [a1])
    have hset : (dL (as ++ T.leaf o :: bs')).set j (.tup [.str "node", .int (sg o3), (T.leaf o).d]) = dL ((as ++ [T.node o3 [T.leaf o]]) ++ bs') := by
      rw [dL_app]
      simp only [dL]
      rw [put_mid1 _ _ _ _ _ (by rw [dL_len]; exact a1)]
      simp [dL_app, dL, T.d]
    simp -implicitDefEqProofs [ixD_ref v3, hget, setD_ref v3, ix3]
    have v4 := set_self v3 (.lst ((dL (as ++ T.leaf o :: bs')).set j (.tup [.str "node", .int (sg o3), (T.leaf o).d])))
    rw [hset] at v4
    rw [hset]
    refine ⟨(f2.trans f3).trans_fresh (Fr.set (W := [S1.length]) _ _ (by simp)) (by simp; omega), s3.keep (Fr.set (W := [S1.length]) _ _ (by simp)) (by simp; omega) (by simp; omega), as ++ [T.node o3 [T.leaf o]], bs', v4, ?_, ?_, ?_, ?_, ?_, by omega, by omega, by omega, by omega, b5.2⟩
    · simp [a1]
    · simp [nnL_app, nnL, T.nn, a2]
    · simp [nlL_app, nlL, T.nl, a3]
    · rw [depL_app]; simp [depL, T.dep]; omega
    · rw [wfL_app]; exact ⟨a5, ⟨by simp, by simp, trivial, trivial⟩, trivial⟩
  · rintro ρ S2 ⟨f2, s2, as, bs, x5, x7, rfl, v2, a1, a2, a3, a4, a5, b1, b2, b3, b4, b5⟩
    rw [rangeL_len] at a1 a2 a3 b1 b3
    obtain ⟨cs, hcs⟩ : ∃ cs, cs = as ++ bs := ⟨_, rfl⟩
    have c1 : cs.length = lv := by rw [hcs]; simp; omega
    have c2 : nnL cs = nd - 20 := by rw [hcs, nnL_app]; omega
    have c3 : nlL cs = lv := by rw [hcs, nlL_app]; omega
    have c4 : depL cs ≤ 1 := by rw [hcs, depL_app]; omega
    have c5 : wfL cs := by rw [hcs, wfL_app]; exact ⟨a5, b5⟩
    rw [← hcs] at v2
    have hfull : ∀ (l : List T) (i : Nat), l.length ≤ 12 * i → l.take (12 * i) = l := fun l i h => List.take_of_length_le h
    have r3 := rangeI_one 3 (by omega)
    simp at r3
    simp -implicitDefEqProofs [r3]
    apply Fl.Nx.ret
    refine for_nx (fun i ρ S' => Fr [s] S S' ∧ Stt S' s n ∧ ∃ X us x5 x6 x7 x8, ρ = [some (.ref s), some (.int lv), some (.int nd), some (.ref X), some (.int 20), x5, x6, x7, x8] ∧ X ≠ s ∧ S'[X]? = some (.lst (dL us)) ∧ wfL us ∧ depL us ≤ i + 1 ∧ nlL us = lv ∧
      (i = 0 → us.length = lv ∧ nnL us = nd - 20) ∧ (i = 1 → us.length = 17 ∧ nnL us = nd - 3) ∧ (i = 2 → us.length = 2 ∧ nnL us = nd - 1) ∧ (i = 3 → us.length = 1 ∧ nnL us = nd)) ?_ (fun _ _ _ _ => trivial) ?_ ?_
    · exact ⟨f2, s2, _, cs, _, _, _, _, rfl, by omega, v2, c5, c4, c3, fun _ => ⟨c1, c2⟩, fun h => by omega, fun h => by omega, fun h => by omega⟩
    · rintro i hi ρ S3 ⟨f3, s3, X, us, x5, x6, x7, x8, rfl, hXs, v3, u1, u2, u3, u4, u5, u6, _⟩
      have hi' : i < 3 := by simpa using hi
      refine ⟨_, rfl, ?_⟩
      have hul : us.length ≤ 1000 := by
        match i, hi' with
        | 0, _ => have := u4 rfl; omega
        | 1, _ => have := u5 rfl; omega
        | 2, _ => have := u6 rfl; omega
      obtain ⟨ρ', S4, e, f4, s4, Y, gs, y5, y8, rfl, hY, v4, hg⟩ := turn_group k S3 s n X us (some (.int lv)) (some (.int nd)) (some (.int 20)) x5 (some ((rangeL 0 1 3)[i]'hi)) x7 x8 s3 v3 hXs hul u1
      have e1 := hfull us ((us.length + 11) / 12) (by omega)
      have g1 := hg.nn
      have g2 := hg.nl
      have g3 := hg.len
      have g4 := hg.dep
      rw [e1] at g1 g2
      refine ⟨_, S4, e, f3.trans f4, s4, Y, gs, _, _, _, _, rfl, hY, v4, hg.wf, by omega, by omega, fun h => by omega, fun h => ?_, fun h => ?_, fun h => ?_⟩
      · have := u4 (by omega); omega
      · have := u5 (by omega); omega
      · have := u6 (by omega); omega
    · rintro ρ S3 ⟨f3, s3, X, us, x5, x6, x7, x8, rfl, hXs, v3, u1, u2, u3, u4, u5, u6, u7⟩
      obtain ⟨u8, u9⟩ := u7 (by simp)
      obtain ⟨t, rfl⟩ : ∃ t, us = [t] := by
        match us, u8 with
        | [t], _ => exact ⟨t, rfl⟩
      simp only [nnL, nlL, depL, dL] at u9 u3 u2 v3
      simp -implicitDefEqProofs [ixD_ref v3]
      exact ⟨f3, s3, t, rfl, u1.1, by simp at u2; omega, by omega, by omega⟩
end Mp.K42
end
section
set_option Elab.async false
set_option linter.all false
set_option maxHeartbeats 0
/-! K42Limits: _law_limits. -/
namespace Mp.K42
open PySem L2
theorem fn_limits : M.prg.fn "_law_limits" = some ⟨1, 6, c__law_limits⟩ := by kernel_rfl
theorem pl_three : Pl 1 (.tup [.int 200, .int 200, .int 20]) := by
  refine .tup (by simp) ?_
  intro d hd
  simp at hd
  rcases hd with rfl | rfl <;> exact .int _
theorem limits_ok (k : Nat) (S : Sto) (s n : Nat) (hs : Stt S s n) :
    ((lev M.prg (k + 52)).call "_law_limits" [.ref s] S).Good fun r S' => r = .bl true ∧ Fr [s] S S' ∧ Stt S' s n := by
  rw [lev_call _ _ _ _ _ _ fn_limits rfl]
  apply Fl.Ret.good
  have ls := hs.ls
  have up : ∀ A B : Sto, Fr [] A B → Fr [s] A B := fun A B f => f.mono (by simp)
  simp -implicitDefEqProofs [c__law_limits, lev_ccon, con_nodes, con_leaves, con_levels]
  apply Fl.Nx.ret
  apply Res.Good.nx
  repeat with_reducible apply Res.Good.bind
  refine (same_self 1 _ pl_three (k + 50) S (by omega)).mono ?_
  rintro r S1 ⟨rfl, f1⟩
  have s1 := hs.keep f1 (by simp) (by simp)
  have F1 := up _ _ f1
  simp -implicitDefEqProofs
  apply Fl.Nx.ret
  apply Res.Good.nx
  repeat with_reducible apply Res.Good.bind
  refine (pick_good (k + 50) S1 s n 2 s1 (by omega) (by omega)).mono ?_
  rintro r S2 ⟨p, hp, rfl, f2, s2⟩
  obtain ⟨lv, hlv⟩ : ∃ lv, lv = 20 + p := ⟨_, rfl⟩
  have e20 : (20 : Int) + (p : Int) = (lv : Int) := by omega
  simp -implicitDefEqProofs [e20]
  refine (chain_ok (k + 49) S2 s n lv s2 (by omega)).mono ?_
  rintro r S3 ⟨f3, s3, w, t, pa, rfl, w3, hc⟩
  have F3 := (F1.trans f2).trans f3
  have pl := hc.len
  -- behind the chain
  have fin : ∀ S4, Fr [s] S S4 → Stt S4 s n → (evSs (lev M.prg (k + 51)) none (.cons (.asg (.name 2) (.bin .Add (.int 199) (.call "_law_pick" (.cons (.var 0) (.cons (.int 3) .nil)))))
 (.cons (.asg (.name 3) (.sub (.lst (.cons (.int 20) (.cons (.int 21) (.cons (.int 150) (.cons (.int 199) (.cons (.int 200) (.cons (.int 201) .nil))))))) (.call "_law_pick" (.cons (.var 0) (.cons (.int 6) .nil)))))
 (.cons (.asg (.name 4) (.call "_law_grouped" (.cons (.var 0) (.cons (.var 2) (.cons (.var 3) .nil)))))
 (.cons (.ite (.and (.cons (.cmp .Lt (.var 2) (.int 201)) (.cons (.cmp .Lt (.var 3) (.int 201)) .nil))) (.cons (.ret (.call "_law_tells" (.cons (.make "Duel" (.cons (.var 4) .nil)) (.cons (.var 4) .nil))))
  .nil) .nil)
 (.cons (.ite (.not (.call "_law_same" (.cons (.call "_law_made" (.cons (.var 4) .nil)) (.cons (.tup (.cons (.str "large") (.cons (.int 0) .nil))) .nil)))) (.cons (.ret (.bl false))
  .nil) .nil)
 (.cons (.asg (.name 5) (.call "_law_spoilt" (.cons (.var 0) (.cons (.var 4) .nil))))
 (.cons (.ret (.call "_law_same" (.cons (.call "_law_made" (.cons (.sub (.var 5) (.int 0)) .nil)) (.cons (.tup (.cons (.str "wrong") (.cons (.sub (.var 5) (.int 1)) .nil))) .nil))))
 .nil))))))) [some (.ref s), some (.ref w), none, none, none, none] S4).Ret fun r S' => r = .bl true ∧ Fr [s] S S' ∧ Stt S' s n := by
    intro S4 F4 s4
    simp -implicitDefEqProofs
    apply Fl.Nx.ret
    apply Res.Good.nx
    repeat with_reducible apply Res.Good.bind
    refine (pick_good (k + 50) S4 s n 3 s4 (by omega) (by omega)).mono ?_
    rintro r S5 ⟨a, ha, rfl, f5, s5⟩
    obtain ⟨le, hle⟩ : ∃ le, le = 199 + a := ⟨_, rfl⟩
    have e199 : (199 : Int) + (a : Int) = (le : Int) := by omega
    simp -implicitDefEqProofs [e199]
    apply Fl.Nx.ret
    apply Res.Good.nx
    repeat with_reducible apply Res.Good.bind
    refine (pick_good (k + 50) _ s n 6 (s5.keep (Fr.app [] _ _) (by simp) (by simp)) (by omega) (by omega)).mono ?_
    rintro r S6 ⟨b, hb, rfl, f6, s6⟩
    have F5 := F4.trans f5
    have F6 := (F5.trans (Fr.app _ _ _)).trans f6
    have q5 := F5.1
    have l6 : S6[S5.length]? = some (.lst [.int 20, .int 21, .int 150, .int 199, .int 200, .int 201]) := f6.at (by simp) (by simp; omega)
    obtain ⟨nd, hnd, n1, n2⟩ : ∃ nd : Nat, L2.atI [D.int 20, .int 21, .int 150, .int 199, .int 200, .int 201] (b : Int) = some (.int nd) ∧ 20 ≤ nd ∧ nd ≤ 201 := by
      match b, hb with
      | 0, _ => exact ⟨20, rfl, by omega, by omega⟩
      | 1, _ => exact ⟨21, rfl, by omega, by omega⟩
      | 2, _ => exact ⟨150, rfl, by omega, by omega⟩
      | 3, _ => exact ⟨199, rfl, by omega, by omega⟩
      | 4, _ => exact ⟨200, rfl, by omega, by omega⟩
      | 5, _ => exact ⟨201, rfl, by omega, by omega⟩
    simp -implicitDefEqProofs [ixD_ref l6, hnd]
    apply Fl.Nx.ret
    apply Res.Good.nx
    refine (grouped_ok (k + 49) S6 s n le nd s6 (by omega) (by omega) n1 n2).mono ?_
    rintro r S7 ⟨f7, s7, g, rfl, g1, g2, g3, g4⟩
    have F7 := F6.trans f7
    by_cases hfit : le < 201 ∧ nd < 201
    · have c1 : (le : Int) < 201 := by omega
      have c2 : (nd : Int) < 201 := by omega
      have fit : g.Fit := ⟨by omega, g1, by omega, by omega⟩
      simp -implicitDefEqProofs [c1, c2]
      apply Fl.Ret.then_
      apply Fl.Ret.then_
      apply Res.Good.ret
      repeat with_reducible apply Res.Good.bind
      have q := make_ok (k + 26) g S7 fit
      rw [show k + 26 + 25 = k + 51 from rfl] at q
      refine q.mono ?_
      rintro r S8 ⟨rfl, f8, o8⟩
      simp -implicitDefEqProofs [isNon]
      have q2 := tells_ok (k + 27) S8 S7.length g o8 fit.dep fit.wf fit.nn fit.nl
      rw [show k + 27 + 24 = k + 51 from rfl] at q2
      refine q2.mono ?_
      rintro r S9 ⟨rfl, f9⟩
      exact ⟨rfl, (F7.trans (up _ _ f8)).trans (up _ _ f9), (s7.keep f8 (by simp) (by simp)).keep f9 (by simp) (by simp)⟩
    · have hc : ¬((le : Int) < 201) ∨ ((le : Int) < 201 ∧ ¬((nd : Int) < 201)) := by omega
      have hbig : 200 < g.nn ∨ 200 < g.nl := by omega
      have rest : (evSs (lev M.prg (k + 51)) none (.cons (.ite (.not (.call "_law_same" (.cons (.call "_law_made" (.cons (.var 4) .nil)) (.cons (.tup (.cons (.str "large") (.cons (.int 0) .nil))) .nil)))) (.cons (.ret (.bl false))
  .nil) .nil)
 (.cons (.asg (.name 5) (.call "_law_spoilt" (.cons (.var 0) (.cons (.var 4) .nil))))
 (.cons (.ret (.call "_law_same" (.cons (.call "_law_made" (.cons (.sub (.var 5) (.int 0)) .nil)) (.cons (.tup (.cons (.str "wrong") (.cons (.sub (.var 5) (.int 1)) .nil))) .nil))))
 .nil))) [some (.ref s), some (.ref w), some (.int le), some (.int nd), some g.d, none] S7).Ret fun r S' => r = .bl true ∧ Fr [s] S S' ∧ Stt S' s n := by
        simp -implicitDefEqProofs
        apply Fl.Nx.ret
        apply Res.Good.nx
        repeat with_reducible apply Res.Good.bind
        have q := made_large (k + 22) S7 g (by omega) g1 (by omega) (by omega) hbig
        rw [show k + 22 + 29 = k + 51 from rfl] at q
        refine q.mono ?_
        rintro r S8 ⟨rfl, f8⟩
        simp -implicitDefEqProofs
        repeat with_reducible apply Res.Good.bind
        refine (same_self 1 _ (pl_say _ _) (k + 50) S8 (by omega)).mono ?_
        rintro r S9 ⟨rfl, f9⟩
        have F9 := (F7.trans (up _ _ f8)).trans (up _ _ f9)
        have s9 := (s7.keep f8 (by simp) (by simp)).keep f9 (by simp) (by simp)
        simp -implicitDefEqProofs
        apply Fl.Nx.ret
        apply Res.Good.nx
        refine (spoilt_ok k S9 s n g s9 g1 (by omega) (by omega) (by omega)).mono ?_
        rintro r S10 ⟨f10, s10, w10, d', due, rfl, v10, sp⟩
        have F10 := F9.trans f10
        simp -implicitDefEqProofs [ixD_ref v10]
        apply Fl.Ret.then_
        apply Res.Good.ret
        repeat with_reducible apply Res.Good.bind
        have q4 := made_bad (k + 22) S10 d' due sp.bad
        rw [show k + 22 + 29 = k + 51 from rfl] at q4
        refine q4.mono ?_
        rintro r S11 ⟨rfl, f11⟩
        have v11 := f11.at v10 (by simp)
        simp -implicitDefEqProofs [ixD_ref v11]
        have pW : Pl 2 (.tup [.str "wrong", .tup (natD due)]) := pl_pair 1 _ _ (pl_nat due (by have := sp.len; omega))
        refine (same_self 2 _ pW (k + 50) S11 (by omega)).mono ?_
        rintro r S12 ⟨rfl, f12⟩
        exact ⟨rfl, (F10.trans (up _ _ f11)).trans (up _ _ f12), (s10.keep f11 (by simp) (by simp)).keep f12 (by simp) (by simp)⟩
      simp -implicitDefEqProofs at rest
      rcases hc with hc | ⟨hc1, hc2⟩
      · simp -implicitDefEqProofs [hc]
        exact rest
      · simp -implicitDefEqProofs [hc1, hc2]
        exact rest
  have nl := natD_len pa
  by_cases h0 : lv = 20
  · have c1 : ¬((lv : Int) = 21) := by omega
    have c2 : ((lv : Int) = 20) := by omega
    have fit : t.Fit := ⟨by rw [hc.dep]; omega, hc.wf, by rw [hc.nn]; omega, by rw [hc.nl]; omega⟩
    simp -implicitDefEqProofs [ixD_ref w3, nl, pl, c1]
    simp -implicitDefEqProofs [c2]
    apply Fl.Nx.ret
    apply Res.Good.nx
    repeat with_reducible apply Res.Good.bind
    have q := make_ok (k + 26) t S3 fit
    rw [show k + 26 + 25 = k + 51 from rfl] at q
    refine q.mono ?_
    rintro r S4 ⟨rfl, f4, o4⟩
    have w4 := f4.at w3 (by simp)
    simp -implicitDefEqProofs [isNon, ixD_ref w4]
    repeat with_reducible apply Res.Good.bind
    have q2 := tells_ok (k + 27) S4 S3.length t o4 fit.dep fit.wf fit.nn fit.nl
    rw [show k + 27 + 24 = k + 51 from rfl] at q2
    refine q2.mono ?_
    rintro r S5 ⟨rfl, f5⟩
    have e := fin S5 ((F3.trans (up _ _ f4)).trans (up _ _ f5)) ((s3.keep f4 (by simp) (by simp)).keep f5 (by simp) (by simp))
    simp -implicitDefEqProofs at e
    simp -implicitDefEqProofs
    exact e
  · have h21 : lv = 21 := by omega
    have c1 : ((lv : Int) = 21) := by omega
    have c2 : ¬((lv : Int) = 20) := by omega
    have hbad := hc.bad (by omega) (by omega)
    rw [show 21 - lv = 0 by omega, show lv - 1 = 20 by omega] at hbad
    have ct := cut_to (natD pa) 20 (by omega)
    have e20' : ((20 : Nat) : Int) = 20 := rfl
    rw [e20'] at ct
    have htk : (natD pa).take 20 = natD (pa.take 20) := by simp [natD]
    rw [htk] at ct
    simp -implicitDefEqProofs [ixD_ref w3, nl, pl]
    simp -implicitDefEqProofs [c1]
    apply Fl.Nx.ret
    apply Res.Good.nx
    repeat with_reducible apply Res.Good.bind
    have q4 := made_bad (k + 22) S3 t.d (pa.take 20) hbad
    rw [show k + 22 + 29 = k + 51 from rfl] at q4
    refine q4.mono ?_
    rintro r S4 ⟨rfl, f4⟩
    have w4 := f4.at w3 (by simp)
    simp -implicitDefEqProofs [ixD_ref w4, ct]
    have pW : Pl 2 (.tup [.str "wrong", .tup (natD (pa.take 20))]) := pl_pair 1 _ _ (pl_nat _ (by rw [List.length_take]; omega))
    repeat with_reducible apply Res.Good.bind
    refine (same_self 2 _ pW (k + 50) S4 (by omega)).mono ?_
    rintro r S5 ⟨rfl, f5⟩
    have w5 := f5.at w4 (by simp)
    have e := fin S5 ((F3.trans (up _ _ f4)).trans (up _ _ f5)) ((s3.keep f4 (by simp) (by simp)).keep f5 (by simp) (by simp))
    simp -implicitDefEqProofs at e
    simp -implicitDefEqProofs [ixD_ref w5, nl, pl, c2]
    exact e
end Mp.K42
end
section
set_option Elab.async false
set_option linter.all false
set_option maxHeartbeats 0
/-! K42Law: the law, behind its drawn duel. -/
namespace Mp.K42
open PySem L2
/-- a drawn outcome for each end -/
theorem draw_ends (k : Nat) (s n E : Nat) (ev : List D) (ρ : Env) (h1 : getV ρ 1 = some (.ref s)) (hρ : ρ.length = 12) (hEs : E ≠ s) : ∀ (l : List D) (S1 : Sto), S1[E]? = some (.lst ev) → Stt S1 s n →
    (lcL (fun S' => S'[E]? = some (.lst ev)) (fun d S2 => (evE (lev M.prg (k + 1)) none p2_law (ρ.set 11 (some d)) S2).bind fun y S5 => Res.ok (some y) S5) l S1).Good fun ds S' => Fr [s] S1 S' ∧ Stt S' s n ∧ ∃ bs : List Bool, ds = esD bs ∧ bs.length = l.length := by
  intro l
  induction l with
  | nil =>
    intro S1 hE s1
    unfold lcL
    rw [if_pos hE]
    exact ⟨_, _, rfl, Fr.refl _ _, s1, [], rfl, rfl⟩
  | cons d l ih =>
    intro S1 hE s1
    unfold lcL
    rw [if_pos hE]
    apply Res.Good.bind
    have hg : getV (ρ.set 11 (some d)) 1 = some (.ref s) := by
      unfold getV at h1 ⊢
      rw [List.getElem?_set_ne (by omega)]
      exact h1
    simp -implicitDefEqProofs [p2_law, hg]
    repeat with_reducible apply Res.Good.bind
    refine (pick_good k S1 s n 2 s1 (by omega) (by omega)).mono ?_
    rintro r S2 ⟨p, hp, rfl, f2, s2⟩
    obtain ⟨o, ho⟩ := sg_pick p hp
    rw [ho]
    simp -implicitDefEqProofs
    apply Res.Good.bind
    refine (ih S2 (f2.at hE (by simp [hEs])) s2).mono ?_
    rintro ds S3 ⟨f3, s3, bs, rfl, hl⟩
    simp -implicitDefEqProofs
    exact ⟨f2.trans f3, s3, o :: bs, by simp [esD], by simp [hl]⟩
def lawB : CSs := match c_law with
  | .cons _ (.cons _ (.cons _ (.cons _ r))) => r
  | r => r
theorem esD_take (bs : List Bool) (i : Nat) : (esD bs).take i = esD (bs.take i) := by simp [esD]
def zD (l : List Int) : List D := l.map .int
theorem esD_z (bs : List Bool) : esD bs = zD (bs.map sg) := by simp [esD, zD]
mutual
theorem nl_pos : ∀ t : T, t.wf → 1 ≤ t.nl
  | .leaf _, _ => by simp [T.nl]
  | .node s ts, h => by
    simp only [T.nl]
    cases ts with
    | nil => have := h.1; simp at this
    | cons t ts => have := nl_pos t h.2.2.1; simp only [nlL]; omega
end
theorem law_rest (S : Sto) (s n o : Nat) (x0 x2 : Option D) (t : T) (hs : Stt S s n) (hS : S[o]? = some (.ins "Duel" (duelF t))) (h : t.Fit) (hn14 : t.nn ≤ 50) :
    (evSs (lev M.prg 99) none lawB [x0, some (.ref s), x2, some t.d, some (.ref o), none, none, none, none, none, none, none] S).Ret fun r S' => r = .bl true := by
  have ls := hs.ls
  have up : ∀ A B : Sto, Fr [] A B → Fr [s] A B := fun A B f => f.mono (by simp)
  have hos := (stt_o hs hS).1
  have hd := h.dep
  have hnn := h.nn
  have hnl := h.nl
  have el : t.es.length = t.nl := by rw [T.es, scan_nl]
  have kO : ∀ S', Fr [s] S S' → S'[o]? = some (.ins "Duel" (duelF t)) := fun S' f => f.at hS (by simp [hos])
  simp -implicitDefEqProofs [lawB, c_law]
  apply Fl.Nx.ret
  apply Res.Good.nx
  repeat with_reducible apply Res.Good.bind
  refine (tells_ok 75 S o t hS hd h.wf hnn hnl).mono ?_
  rintro r S1 ⟨rfl, f1⟩
  have F1 := up _ _ f1
  simp -implicitDefEqProofs
  repeat with_reducible apply Res.Good.bind
  refine (plays_ok 39 S1 s n o t (hs.keep f1 (by simp) (by simp)) (kO _ F1) hd h.wf hn14 hnl).mono ?_
  rintro r S2 ⟨rfl, f2, s2⟩
  have F2 := F1.trans f2
  simp -implicitDefEqProofs
  apply Fl.Nx.ret
  apply Res.Good.nx
  have q2 := F2.1
  have hsc : _root_.Mp.Res.Good _ (ScanOk (S2 ++ [O.lst [], O.lst []]) S2.length (S2.length + 1) [] [] t.rt t.ns t.es) := scan_ok 98 t (S2 ++ [O.lst [], O.lst []]) S2.length (S2.length + 1) [] [] (by omega) (by simp) (by simp) (by omega) (by simp; omega) (by simp; omega)
  refine hsc.mono ?_
  rintro r S3 ⟨rfl, f3, nv, v3, e3, rep⟩
  have F3' : Fr [] S2 S3 := (Fr.app [] S2 _).trans_fresh f3 (by simp)
  have F3 := F2.trans (up _ _ F3')
  have s3 := s2.keep F3' (by simp) (by simp)
  simp at v3 e3
  simp -implicitDefEqProofs [seqI_ref e3]
  apply Fl.Nx.ret
  apply Res.Good.nx
  repeat with_reducible apply Res.Good.bind
  have hdr := draw_ends 98 s n (S2.length + 1) (esD t.es) [x0, some (.ref s), x2, some t.d, some (.ref o), some (.ref S2.length), some (.ref (S2.length + 1)), none, none, none, none, none] rfl rfl (by omega) (esD t.es) S3 e3 s3
  refine hdr.mono ?_
  rintro ds S4 ⟨f4, s4, bs, rfl, hbl⟩
  rw [esD_len, el] at hbl
  have F4 := F3.trans f4
  have e4 := f4.at e3 (by simp; omega)
  simp -implicitDefEqProofs [tuple_new]
  apply Fl.Nx.ret
  apply Res.Good.nx
  have qr := repl_ok bs 98 t (S4 ++ [O.lst (esD bs), O.lst [.int 0]]) (S4.length + 1) 0 (by omega) (by omega) (by simp) (by omega)
  rw [show (98 + 1 : Nat) = 99 from rfl] at qr
  refine qr.mono ?_
  rintro r S5 ⟨rfl, f5', v5⟩
  have f5 : Fr [] S4 S5 := (Fr.app [] S4 _).trans_fresh f5' (by simp)
  have F5 := F4.trans (up _ _ f5)
  have e5 := f5.at e4 (by simp)
  have s5 := s4.keep f5 (by simp) (by simp)
  have h2 := h.put bs 0
  have hpf := put_f bs t 0
  obtain ⟨t2, ht2⟩ : ∃ t2, t2 = t.put bs 0 := ⟨_, rfl⟩
  rw [← ht2] at h2 hpf ⊢
  have hd2 := h2.dep
  have hnn2 := h2.nn
  have hnl2 := h2.nl
  simp -implicitDefEqProofs [CEs.len, met_with (kO _ F5)]
  apply Fl.Nx.ret
  apply Res.Good.nx
  repeat with_reducible apply Res.Good.bind
  have qw := with_ok 73 S5 o t bs (kO _ F5) h hbl
  rw [show (73 + 26 : Nat) = 99 from rfl, ← ht2] at qw
  refine qw.mono ?_
  rintro r S6 ⟨f6, o2, rfl, h6⟩
  simp -implicitDefEqProofs
  repeat with_reducible apply Res.Good.bind
  have qt := tells_ok 75 S6 o2 t2 h6 hd2 h2.wf hnn2 hnl2
  rw [show (75 + 24 : Nat) = 99 from rfl] at qt
  refine qt.mono ?_
  rintro r S7 ⟨rfl, f7⟩
  have f57 := f6.trans f7
  have F7 := F5.trans (up _ _ f57)
  simp -implicitDefEqProofs
  repeat with_reducible apply Res.Good.bind
  have qs := swapped_ok 73 S7 o t (kO _ F7) h
  rw [show (73 + 26 : Nat) = 99 from rfl] at qs
  refine qs.mono ?_
  rintro r S8 ⟨f8, o3, rfl, h8⟩
  try simp -implicitDefEqProofs
  repeat with_reducible apply Res.Good.bind
  have qe := exch_ok 98 t S8 (by omega) (by omega)
  rw [show (98 + 1 : Nat) = 99 from rfl] at qe
  refine qe.mono ?_
  rintro r S9 ⟨rfl, f9⟩
  have h3 := h.flip
  simp -implicitDefEqProofs
  repeat with_reducible apply Res.Good.bind
  have qt2 := tells_ok 75 S9 o3 t.flip (f9.at h8 (by simp)) h3.dep h3.wf h3.nn h3.nl
  rw [show (75 + 24 : Nat) = 99 from rfl] at qt2
  refine qt2.mono ?_
  rintro r S10 ⟨rfl, f10⟩
  have f510 := ((f57.trans f8).trans f9).trans f10
  have F10 := F5.trans (up _ _ f510)
  have e10 := f510.at e5 (by simp)
  have s10 := s5.keep f510 (by simp) (by simp)
  have nlp := nl_pos t h.wf
  simp -implicitDefEqProofs [len_ref e10, esD_len, el]
  apply Fl.Nx.ret
  apply Res.Good.nx
  repeat with_reducible apply Res.Good.bind
  have qp := pick_good 98 S10 s n t.nl s10 (by omega) (by omega)
  rw [show (98 + 1 : Nat) = 99 from rfl] at qp
  refine qp.mono ?_
  rintro r S11 ⟨m, hm, rfl, f11, s11⟩
  have F11 := F10.trans f11
  have ct := cut_to (esD bs) m (by rw [esD_len]; omega)
  have cf := cut_from1 (esD bs) m (by rw [esD_len]; omega)
  have a0 := fun S => add_tup1 (.int 0) (esD bs) S (by rw [esD_len]; omega)
  simp -implicitDefEqProofs [ct, a0]
  apply Fl.Nx.ret
  apply Res.Good.nx
  repeat with_reducible apply Res.Good.bind
  have qp2 := pick_good 98 _ s n 2 (s11.keep (Fr.app [] S11 [O.lst [.int 2, .int (-1)]]) (by simp) (by simp)) (by omega) (by omega)
  rw [show (98 + 1 : Nat) = 99 from rfl] at qp2
  refine qp2.mono ?_
  rintro r S12 ⟨b, hb, rfl, f12, s12⟩
  have q11 := F11.1
  have F12 := (F11.trans (Fr.app _ _ _)).trans f12
  have l12 : S12[S11.length]? = some (.lst [.int 2, .int (-1)]) := f12.at (by simp) (by simp; omega)
  obtain ⟨z, hz, hz2⟩ : ∃ z : Int, L2.atI [D.int 2, .int (-1)] (b : Int) = some (.int z) ∧ ¬(0 ≤ z ∧ z ≤ 1) := by
    match b, hb with
    | 0, _ => exact ⟨2, rfl, by omega⟩
    | 1, _ => exact ⟨-1, rfl, by omega⟩
  have b1 : ((esD bs).take m).length + 1 ≤ 16777216 := by rw [List.length_take, esD_len]; omega
  have b2 : ((esD bs).take m ++ [D.int z]).length + ((esD bs).drop (m + 1)).length ≤ 16777216 := by rw [List.length_append, List.length_take, List.length_drop, esD_len]; simp only [List.length_cons, List.length_nil]; omega
  simp -implicitDefEqProofs [ixD_ref l12, hz, add_tup1 _ _ _ b1, cf]
  have a3 := add_tup ((esD bs).take m ++ [D.int z]) ((esD bs).drop (m + 1)) S12 b2
  obtain ⟨W3, hW3⟩ : ∃ W3, W3 = (esD bs).take m ++ [D.int z] ++ (esD bs).drop (m + 1) := ⟨_, rfl⟩
  rw [← hW3] at a3
  obtain ⟨LL, hLL⟩ : ∃ LL, LL = [D.tup ((esD bs).take m), D.tup (esD bs ++ [D.int 0]), D.tup W3] := ⟨_, rfl⟩
  have hbad : ∀ i (hi : i < LL.length), ∃ zs : List Int, LL[i] = .tup (zs.map .int) ∧ (zs.length ≠ t.nl ∨ ∃ z ∈ zs, ¬(0 ≤ z ∧ z ≤ 1)) := by
    intro i hi
    subst hLL
    match i, hi with
    | 0, _ => exact ⟨(bs.map sg).take m, by simp [esD, Function.comp_def], Or.inl (by simp; omega)⟩
    | 1, _ => exact ⟨bs.map sg ++ [0], by simp [esD, Function.comp_def], Or.inl (by simp; omega)⟩
    | 2, _ => exact ⟨(bs.map sg).take m ++ [z] ++ (bs.map sg).drop (m + 1), by simp [hW3, esD, Function.comp_def], Or.inr ⟨z, by simp, hz2⟩⟩
  have hseq : seqI (.ref S12.length) (S12 ++ [O.lst LL]) = some ⟨LL, fun S' => S'[S12.length]? = some (.lst LL)⟩ := seqI_ref (by simp)
  simp -implicitDefEqProofs [a3]
  rw [← hLL, hseq]
  simp -implicitDefEqProofs
  refine for_nx (fun i ρ S' => Fr [] S12 S' ∧ S'[S12.length]? = some (.lst LL) ∧ ∃ x10, ρ = [x0, some (.ref s), x2, some t.d, some (.ref o), some (.ref S2.length), some (.ref (S2.length + 1)), some (.tup (esD bs)), some t2.d, some (.int m), x10, none]) ?_ (fun _ _ _ h => h.2.1) ?_ ?_
  · exact ⟨Fr.app _ _ _, by simp, none, rfl⟩
  · rintro i hi ρ S13 ⟨f13, v13, x10, rfl⟩
    refine ⟨_, rfl, ?_⟩
    obtain ⟨zs, hzs, hzb⟩ := hbad i hi
    rw [hzs]
    have ql := lwith_bad 72 S13 o t zs (kO _ (F12.trans (up _ _ f13))) hzb
    rw [show (72 + 27 : Nat) = 99 from rfl] at ql
    simp -implicitDefEqProofs [p1_law]
    apply Fl.Nx.then_
    apply Res.Good.nx
    repeat with_reducible apply Res.Good.bind
    refine ql.mono ?_
    rintro r S14 ⟨rfl, f14⟩
    simp -implicitDefEqProofs
    repeat with_reducible apply Res.Good.bind
    have qsm := same_self 1 _ (pl_say "range" 0) 98 S14 (by omega)
    rw [show (98 + 1 : Nat) = 99 from rfl] at qsm
    refine qsm.mono ?_
    rintro r S15 ⟨rfl, f15⟩
    simp -implicitDefEqProofs
    exact ⟨(f13.trans f14).trans f15, (f14.trans f15).at v13 (by simp)⟩
  rintro ρ S13 ⟨f13, v13, x10, rfl⟩
  have F13 := F12.trans (up _ _ f13)
  have s13 := s12.keep f13 (by simp) (by simp)
  have ql := lwith_ok 72 S13 o t bs (kO _ F13) h hbl
  rw [show (72 + 27 : Nat) = 99 from rfl, ← ht2] at ql
  simp -implicitDefEqProofs
  apply Fl.Nx.ret
  apply Res.Good.nx
  repeat with_reducible apply Res.Good.bind
  refine ql.mono ?_
  rintro r S14 ⟨rfl, f14⟩
  simp -implicitDefEqProofs
  repeat with_reducible apply Res.Good.bind
  have pM : Pl 22 (.tup [.str "made", t2.d]) := pl_pair 21 _ _ ((pl_T t2 h2.wf).mono (by omega))
  have qsm := same_self 22 _ pM 98 S14 (by omega)
  rw [show (98 + 1 : Nat) = 99 from rfl] at qsm
  refine qsm.mono ?_
  rintro r S15 ⟨rfl, f15⟩
  have F15 := (F13.trans (up _ _ f14)).trans (up _ _ f15)
  have s15 := (s13.keep f14 (by simp) (by simp)).keep f15 (by simp) (by simp)
  simp -implicitDefEqProofs
  repeat with_reducible apply Res.Good.bind
  have qx := texts_ok 47 S15 s n o t s15 (kO _ F15) h
  rw [show (47 + 52 : Nat) = 99 from rfl] at qx
  refine qx.mono ?_
  rintro r S16 ⟨rfl, f16, s16⟩
  have F16 := F15.trans f16
  have fin : ∀ S17, Fr [s] S S17 → Stt S17 s n → (evSs (lev M.prg 99) none (.cons (.ret (.and (.cons (.call "_law_plays" (.cons (.var 1) (.cons (.make "Duel" (.cons (.var 8) .nil)) (.cons (.var 8) .nil)))) (.cons (.call "_law_tells" (.cons (.var 4) (.cons (.var 3) .nil))) .nil))))
 .nil) [x0, some (.ref s), x2, some t.d, some (.ref o), some (.ref S2.length), some (.ref (S2.length + 1)), some (.tup (esD bs)), some t2.d, some (.int m), x10, none] S17).Ret fun r S' => r = .bl true := by
    intro S17 F17 s17
    simp -implicitDefEqProofs
    apply Fl.Ret.then_
    apply Res.Good.ret
    repeat with_reducible apply Res.Good.bind
    have qm := make_ok 74 t2 S17 h2
    rw [show (74 + 25 : Nat) = 99 from rfl] at qm
    refine qm.mono ?_
    rintro r S18 ⟨rfl, f18, o18⟩
    simp -implicitDefEqProofs [isNon]
    repeat with_reducible apply Res.Good.bind
    have qpl := plays_ok 39 S18 s n S17.length t2 (s17.keep f18 (by simp) (by simp)) o18 hd2 h2.wf (by rw [hpf.2.1]; exact hn14) hnl2
    rw [show (39 + 60 : Nat) = 99 from rfl] at qpl
    refine qpl.mono ?_
    rintro r S19 ⟨rfl, f19, s19⟩
    simp -implicitDefEqProofs
    have qt3 := tells_ok 75 S19 o t (kO _ ((F17.trans (up _ _ f18)).trans f19)) hd h.wf hnn hnl
    rw [show (75 + 24 : Nat) = 99 from rfl] at qt3
    refine qt3.mono ?_
    rintro r S20 ⟨rfl, f20⟩
    rfl
  simp -implicitDefEqProofs
  apply Fl.Nx.ret
  apply Res.Good.nx
  repeat with_reducible apply Res.Good.bind
  have qp3 := pick_good 98 S16 s n 6 s16 (by omega) (by omega)
  rw [show (98 + 1 : Nat) = 99 from rfl] at qp3
  refine qp3.mono ?_
  rintro r S17 ⟨b17, hb17, rfl, f17, s17⟩
  by_cases h0 : b17 = 0
  · subst h0
    simp -implicitDefEqProofs
    repeat with_reducible apply Res.Good.bind
    have qlim := limits_ok 47 S17 s n s17
    rw [show (47 + 52 : Nat) = 99 from rfl] at qlim
    refine qlim.mono ?_
    rintro r S18 ⟨rfl, f18, s18⟩
    have e := fin S18 ((F16.trans f17).trans f18) s18
    simp -implicitDefEqProofs at e
    simp -implicitDefEqProofs
    exact e
  · have e := fin S17 (F16.trans f17) s17
    simp -implicitDefEqProofs at e
    simp -implicitDefEqProofs [h0]
    exact e
end Mp.K42
end
section
set_option Elab.async false
set_option linter.all false
set_option maxHeartbeats 0
/-! K42Plain: the law answers True. -/
namespace Mp.K42
open PySem L2
theorem fn_law : M.prg.fn "law" = some ⟨1, 12, c_law⟩ := by kernel_rfl
theorem law_split (C : Cf) (ρ : Env) (S : Sto) (Q : D → Sto → Prop)
    (h : (evSs C none (.cons (.asg (.name 1) (.call "_law_start" (.cons (.var 0) .nil)))
 (.cons (.asg (.name 2) (.lst (.cons (.sub (.lst (.cons (.int 1) (.cons (.int 2) (.cons (.int 3) (.cons (.int 5) (.cons (.int 8) (.cons (.int 14) .nil))))))) (.call "_law_pick" (.cons (.var 1) (.cons (.int 6) .nil)))) (.cons (.sub (.lst (.cons (.int 1) (.cons (.int 3) (.cons (.int 6) (.cons (.int 11) (.cons (.int 23) .nil)))))) (.call "_law_pick" (.cons (.var 1) (.cons (.int 5) .nil)))) .nil))))
 (.cons (.asg (.name 3) (.call "_law_tree" (.cons (.var 1) (.cons (.sub (.lst (.cons (.int 0) (.cons (.int 1) (.cons (.int 2) (.cons (.int 3) (.cons (.int 4) (.cons (.int 5) (.cons (.int 7) .nil)))))))) (.call "_law_pick" (.cons (.var 1) (.cons (.int 7) .nil)))) (.cons (.var 2) .nil)))))
 (.cons (.asg (.name 4) (.make "Duel" (.cons (.var 3) .nil))) lawB)))) ρ S).Ret Q) : (evSs C none c_law ρ S).Ret Q := h
theorem plain (ns : List Int) (h : ns.length ≤ 63) : ∃ S, (lev M.prg 100).call "law" [.rol (ns.map .int)] [] = .ok (.bl true) S := by
  suffices q : ((lev M.prg 100).call "law" [.rol (ns.map .int)] []).Good fun r S => r = .bl true by
    obtain ⟨r, S, e, rfl⟩ := q
    exact ⟨S, e⟩
  rw [show (100 : Nat) = 99 + 1 from rfl]
  rw [lev_call _ _ _ _ _ _ fn_law rfl]
  apply Fl.Ret.good
  apply law_split
  obtain ⟨d, S0, e0, rfl, l0, s0⟩ := start 98 ns h
  rw [show (98 + 1 : Nat) = 99 from rfl] at e0
  simp -implicitDefEqProofs [e0]
  apply Fl.Nx.ret
  apply Res.Good.nx
  repeat with_reducible apply Res.Good.bind
  have q1 := pick_good 98 _ 1 0 6 (s0.keep (Fr.app [] S0 [O.lst [.int 1, .int 2, .int 3, .int 5, .int 8, .int 14]]) (by simp) (by simp)) (by omega) (by omega)
  rw [show (98 + 1 : Nat) = 99 from rfl] at q1
  refine q1.mono ?_
  rintro r S1 ⟨p1, hp1, rfl, f1, s1⟩
  have k1 : S1[S0.length]? = some (.lst [.int 1, .int 2, .int 3, .int 5, .int 8, .int 14]) := f1.at (by simp) (by simp; omega)
  obtain ⟨a, ha, ha2⟩ : ∃ a : Nat, L2.atI [D.int 1, .int 2, .int 3, .int 5, .int 8, .int 14] (p1 : Int) = some (.int a) ∧ a ≤ 14 := by
    match p1, hp1 with
    | 0, _ => exact ⟨1, rfl, by omega⟩
    | 1, _ => exact ⟨2, rfl, by omega⟩
    | 2, _ => exact ⟨3, rfl, by omega⟩
    | 3, _ => exact ⟨5, rfl, by omega⟩
    | 4, _ => exact ⟨8, rfl, by omega⟩
    | 5, _ => exact ⟨14, rfl, by omega⟩
  have g1 := f1.1
  simp at g1
  simp -implicitDefEqProofs [ixD_ref k1, ha]
  repeat with_reducible apply Res.Good.bind
  have q2 := pick_good 98 _ 1 0 5 (s1.keep (Fr.app [] S1 [O.lst [.int 1, .int 3, .int 6, .int 11, .int 23]]) (by simp) (by simp)) (by omega) (by omega)
  rw [show (98 + 1 : Nat) = 99 from rfl] at q2
  refine q2.mono ?_
  rintro r S2 ⟨p2, hp2, rfl, f2, s2⟩
  have k2 : S2[S1.length]? = some (.lst [.int 1, .int 3, .int 6, .int 11, .int 23]) := f2.at (by simp) (by simp; omega)
  obtain ⟨b, hb, hb2⟩ : ∃ b : Nat, L2.atI [D.int 1, .int 3, .int 6, .int 11, .int 23] (p2 : Int) = some (.int b) ∧ b ≤ 23 := by
    match p2, hp2 with
    | 0, _ => exact ⟨1, rfl, by omega⟩
    | 1, _ => exact ⟨3, rfl, by omega⟩
    | 2, _ => exact ⟨6, rfl, by omega⟩
    | 3, _ => exact ⟨11, rfl, by omega⟩
    | 4, _ => exact ⟨23, rfl, by omega⟩
  have g2 := f2.1
  simp at g2
  simp -implicitDefEqProofs [ixD_ref k2, hb]
  apply Fl.Nx.ret
  apply Res.Good.nx
  repeat with_reducible apply Res.Good.bind
  have q3 := pick_good 98 _ 1 0 7 (s2.keep (Fr.app [] S2 [O.lst [.int a, .int b], O.lst [.int 0, .int 1, .int 2, .int 3, .int 4, .int 5, .int 7]]) (by simp) (by simp)) (by omega) (by omega)
  rw [show (98 + 1 : Nat) = 99 from rfl] at q3
  refine q3.mono ?_
  rintro r S3 ⟨p3, hp3, rfl, f3, s3⟩
  have k3 : S3[S2.length + 1]? = some (.lst [.int 0, .int 1, .int 2, .int 3, .int 4, .int 5, .int 7]) := f3.at (by simp) (by simp only [List.mem_singleton]; omega)
  have r3 : S3[S2.length]? = some (.lst [.int a, .int b]) := f3.at (by simp) (by simp; omega)
  obtain ⟨lv, hlv, hlv2⟩ : ∃ lv : Nat, L2.atI [D.int 0, .int 1, .int 2, .int 3, .int 4, .int 5, .int 7] (p3 : Int) = some (.int lv) ∧ lv ≤ 7 := by
    match p3, hp3 with
    | 0, _ => exact ⟨0, rfl, by omega⟩
    | 1, _ => exact ⟨1, rfl, by omega⟩
    | 2, _ => exact ⟨2, rfl, by omega⟩
    | 3, _ => exact ⟨3, rfl, by omega⟩
    | 4, _ => exact ⟨4, rfl, by omega⟩
    | 5, _ => exact ⟨5, rfl, by omega⟩
    | 6, _ => exact ⟨7, rfl, by omega⟩
  simp -implicitDefEqProofs [ixD_ref k3, hlv]
  have q4 := tree_ok 97 S3 1 0 S2.length lv a b (by omega) s3 r3 (by omega) (by omega)
  rw [show (97 + 2 : Nat) = 99 from rfl] at q4
  refine q4.mono ?_
  rintro r S4 ⟨t, a', b', rfl, d4, w4, f4, s4, r4, n4, m4⟩
  have fit : t.Fit := ⟨by omega, w4, by omega, by omega⟩
  apply Fl.Nx.ret
  apply Res.Good.nx
  repeat with_reducible apply Res.Good.bind
  have q5 := make_ok 74 t S4 fit
  rw [show (74 + 25 : Nat) = 99 from rfl] at q5
  refine q5.mono ?_
  rintro r S5 ⟨rfl, f5, o5⟩
  simp -implicitDefEqProofs [isNon]
  exact law_rest S5 1 0 S4.length _ _ t (s4.keep f5 (by simp) (by simp)) o5 fit (by omega)
end Mp.K42
end
section
set_option Elab.async false
set_option linter.all false
set_option maxRecDepth 100000
set_option maxHeartbeats 0
namespace Mp.K42
open PySem L2
theorem hent : M.ent "law" = some ec_law := by kernel_rfl
end Mp.K42
open PySem PySem.W PySem.Calls PyProof.Rows
theorem PySem.Challenge.cw_pathschosen_k42_winners_and_plans_holds : PySem.Challenge.rw_pathschosen_k42_winners_and_plans.Holds := by
  w_on; o_law
  refine HandSHeadRun.head_any (r := OpenLaw.row PySem.Challenge.rw_pathschosen_k42_winners_and_plans) (q := view (OpenLaw.row PySem.Challenge.rw_pathschosen_k42_winners_and_plans).prog [68]) (H := Mp.K42.hk) (ob := Mp.K42.ob) (M := 20000) (loose := Mp.K42.nms) (d := HandSHeadRun.topDef (OpenLaw.row PySem.Challenge.rw_pathschosen_k42_winners_and_plans).prog 68) (kwd := []) Mp.K42.ob_eq
    (by kernel_rfl) (fun s => by kernel_rfl) Mp.K42.run (by kernel_rfl) (by kernel_rfl) (by kernel_rfl) (by rfl) (by first | assumption | decide +kernel) (by decide +kernel) ⟨rfl, rfl, rfl, rfl, rfl, by decide +kernel⟩ ?hw ?hc
  case hw => w_witness2
  case hc =>
    exact Mp.walk_end (M := Mp.K42.M) (n := 63) (k := 100) (l := PySem.Challenge.rw_pathschosen_k42_winners_and_plans) rfl (by decide) (by kernel_rfl) ⟨rfl, by decide, by decide⟩ (by kernel_rfl) Mp.K42.okT Mp.K42.be Mp.K42.bi Mp.K42.bx Mp.K42.hent rfl rfl (by kernel_rfl) Mp.K42.plain
end
