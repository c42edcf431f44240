import PyProof.Rows.All
import Wide.All
import OpenK.AllK
import Wide.FinOn
import HandS.ForMost
import HandS.ForExc
import HandS.IsInst
import HandS.Deep
import HandS.TupAny
import HandS.TupMul
import HandS.Style
import HandS.Flow
import HandS.HeadHook4
import KE.GoesMore
import HandS.ExcIs
import HandS.TryMany
import HandS.HeadEnd
import HandS.EndBits
import KE.KStateDown
import HandS.Head0
import HandS.Head1
import HandS.Head2
import PySem.Challenge.RW_prooforplace_k20_terms_put_in
section
set_option Elab.async false
set_option linter.all false
set_option maxRecDepth 100000
/-! A small interpreter over plain data. -/
namespace Pl
open PySem L2

/-- plain data: lists that nobody changes any more are data; what is changed and shared stands in the store -/
inductive D where
  | non
  | bl (b : Bool)
  | int (i : Int)
  | str (s : Str)
  | tup (xs : List D)
  | lst (xs : List D)
  | dic (ks : List Str) (ds : List D)
  | ref (n : Nat)
  | glo (x : Str)

mutual
def D.deq : (a b : D) → Decidable (a = b)
  | .non, .non => Decidable.isTrue rfl
  | .bl a, .bl b => if h : a = b then Decidable.isTrue (by rw [h]) else Decidable.isFalse (fun e => h (D.bl.inj e))
  | .int a, .int b => if h : a = b then Decidable.isTrue (by rw [h]) else Decidable.isFalse (fun e => h (D.int.inj e))
  | .str a, .str b => if h : a = b then Decidable.isTrue (by rw [h]) else Decidable.isFalse (fun e => h (D.str.inj e))
  | .tup a, .tup b => match D.deqs a b with
    | Decidable.isTrue h => Decidable.isTrue (by rw [h])
    | Decidable.isFalse h => Decidable.isFalse (fun e => h (D.tup.inj e))
  | .lst a, .lst b => match D.deqs a b with
    | Decidable.isTrue h => Decidable.isTrue (by rw [h])
    | Decidable.isFalse h => Decidable.isFalse (fun e => h (D.lst.inj e))
  | .dic k a, .dic l b => if hk : k = l then (match D.deqs a b with
    | Decidable.isTrue h => Decidable.isTrue (by rw [h, hk])
    | Decidable.isFalse h => Decidable.isFalse (fun e => h (D.dic.inj e).2)) else Decidable.isFalse (fun e => hk (D.dic.inj e).1)
  | .ref a, .ref b => if h : a = b then Decidable.isTrue (by rw [h]) else Decidable.isFalse (fun e => h (D.ref.inj e))
  | .glo a, .glo b => if h : a = b then Decidable.isTrue (by rw [h]) else Decidable.isFalse (fun e => h (D.glo.inj e))
  | .non, .bl _ | .non, .int _ | .non, .str _ | .non, .tup _ | .non, .lst _ | .non, .dic _ _ | .non, .ref _ | .non, .glo _ => Decidable.isFalse (fun e => nomatch e)
  | .bl _, .non | .bl _, .int _ | .bl _, .str _ | .bl _, .tup _ | .bl _, .lst _ | .bl _, .dic _ _ | .bl _, .ref _ | .bl _, .glo _ => Decidable.isFalse (fun e => nomatch e)
  | .int _, .non | .int _, .bl _ | .int _, .str _ | .int _, .tup _ | .int _, .lst _ | .int _, .dic _ _ | .int _, .ref _ | .int _, .glo _ => Decidable.isFalse (fun e => nomatch e)
  | .str _, .non | .str _, .bl _ | .str _, .int _ | .str _, .tup _ | .str _, .lst _ | .str _, .dic _ _ | .str _, .ref _ | .str _, .glo _ => Decidable.isFalse (fun e => nomatch e)
  | .tup _, .non | .tup _, .bl _ | .tup _, .int _ | .tup _, .str _ | .tup _, .lst _ | .tup _, .dic _ _ | .tup _, .ref _ | .tup _, .glo _ => Decidable.isFalse (fun e => nomatch e)
  | .lst _, .non | .lst _, .bl _ | .lst _, .int _ | .lst _, .str _ | .lst _, .tup _ | .lst _, .dic _ _ | .lst _, .ref _ | .lst _, .glo _ => Decidable.isFalse (fun e => nomatch e)
  | .dic _ _, .non | .dic _ _, .bl _ | .dic _ _, .int _ | .dic _ _, .str _ | .dic _ _, .tup _ | .dic _ _, .lst _ | .dic _ _, .ref _ | .dic _ _, .glo _ => Decidable.isFalse (fun e => nomatch e)
  | .ref _, .non | .ref _, .bl _ | .ref _, .int _ | .ref _, .str _ | .ref _, .tup _ | .ref _, .lst _ | .ref _, .dic _ _ | .ref _, .glo _ => Decidable.isFalse (fun e => nomatch e)
  | .glo _, .non | .glo _, .bl _ | .glo _, .int _ | .glo _, .str _ | .glo _, .tup _ | .glo _, .lst _ | .glo _, .dic _ _ | .glo _, .ref _ => Decidable.isFalse (fun e => nomatch e)
def D.deqs : (a b : List D) → Decidable (a = b)
  | [], [] => Decidable.isTrue rfl
  | [], _ :: _ => Decidable.isFalse (fun e => nomatch e)
  | _ :: _, [] => Decidable.isFalse (fun e => nomatch e)
  | x :: xs, y :: ys => match D.deq x y, D.deqs xs ys with
    | Decidable.isTrue h, Decidable.isTrue k => Decidable.isTrue (by rw [h, k])
    | Decidable.isFalse h, _ => Decidable.isFalse (fun e => h (List.cons.inj e).1)
    | Decidable.isTrue _, Decidable.isFalse k => Decidable.isFalse (fun e => k (List.cons.inj e).2)
end
instance : DecidableEq D := D.deq

/-- what an expression gives: data; a new list that nobody else has; a list that a name of the frame has for itself -/
inductive EV where
  | d (x : D)
  | own (xs : List D)
  | brw (xs : List D)
  deriving DecidableEq

/-- a shared object that is changed -/
inductive Ob where
  | lst (xs : List D)
  deriving DecidableEq
abbrev Sto := List Ob
abbrev Env := List (Option EV)

inductive Res (α : Type) where
  | ok (a : α) (S : Sto)
  | exc (c : Str) (S : Sto)
  | stuck
def Res.bind {α β : Type} (r : Res α) (f : α → Sto → Res β) : Res β := match r with
  | .ok a S => f a S
  | .exc c S => .exc c S
  | .stuck => .stuck
@[simp] theorem Res.bind_ok {α β : Type} (a : α) (S : Sto) (f : α → Sto → Res β) : (Res.ok a S).bind f = f a S := rfl
@[simp] theorem Res.bind_exc {α β : Type} (c : Str) (S : Sto) (f : α → Sto → Res β) : (Res.exc c S : Res α).bind f = .exc c S := rfl
@[simp] theorem Res.bind_stuck {α β : Type} (f : α → Sto → Res β) : (Res.stuck : Res α).bind f = .stuck := rfl
/-- no exception -/
def Res.calm {α : Type} (r : Res α) : Res α := match r with
  | .exc _ _ => .stuck
  | r => r
@[simp] theorem Res.calm_ok {α : Type} (a : α) (S : Sto) : (Res.ok a S).calm = .ok a S := rfl
@[simp] theorem Res.calm_stuck {α : Type} : (Res.stuck : Res α).calm = .stuck := rfl
theorem Res.bind_assoc {α β γ : Type} (r : Res α) (f : α → Sto → Res β) (g : β → Sto → Res γ) : (r.bind f).bind g = r.bind fun a S => (f a S).bind g := by cases r <;> rfl
def optR {α : Type} (o : Option α) (S : Sto) : Res α := match o with
  | some a => .ok a S
  | none => .stuck
@[simp] theorem optR_some {α : Type} (a : α) (S : Sto) : optR (some a) S = .ok a S := rfl
@[simp] theorem optR_none {α : Type} (S : Sto) : optR (none : Option α) S = .stuck := rfl

/-- as data: a new list is left alone from now on -/
def EV.val : EV → Option D
  | .d x => some x
  | .own xs => some (.lst xs)
  | .brw _ => none
@[simp] theorem EV.val_d (x : D) : (EV.d x).val = some x := rfl
@[simp] theorem EV.val_own (xs : List D) : (EV.own xs).val = some (.lst xs) := rfl

/-- the items of a list -/
def EV.items (S : Sto) : EV → Option (List D)
  | .own xs => some xs
  | .brw xs => some xs
  | .d (.lst xs) => some xs
  | .d (.ref n) => (match S[n]? with
    | some (.lst xs) => some xs
    | none => none)
  | .d _ => none
@[simp] theorem EV.items_own (S : Sto) (xs : List D) : (EV.own xs).items S = some xs := rfl
@[simp] theorem EV.items_brw (S : Sto) (xs : List D) : (EV.brw xs).items S = some xs := rfl
@[simp] theorem EV.items_lst (S : Sto) (xs : List D) : (EV.d (.lst xs)).items S = some xs := rfl
/-- .. of a list or a tuple -/
def EV.seq (S : Sto) : EV → Option (List D)
  | .d (.tup xs) => some xs
  | v => v.items S
@[simp] theorem EV.seq_own (S : Sto) (xs : List D) : (EV.own xs).seq S = some xs := rfl
@[simp] theorem EV.seq_brw (S : Sto) (xs : List D) : (EV.brw xs).seq S = some xs := rfl
@[simp] theorem EV.seq_lst (S : Sto) (xs : List D) : (EV.d (.lst xs)).seq S = some xs := rfl
@[simp] theorem EV.seq_tup (S : Sto) (xs : List D) : (EV.d (.tup xs)).seq S = some xs := rfl

/-! ### as the model's plain data -/
mutual
def D.py : D → Option PyData
  | .non => some .none
  | .bl b => some (.bool b)
  | .int i => some (.int i)
  | .str s => some (.str s)
  | .tup xs => (D.pys xs).map .tuple
  | .lst xs => (D.pys xs).map .list
  | _ => none
def D.pys : List D → Option (List PyData)
  | [] => some []
  | x :: xs => match D.py x, D.pys xs with
    | some p, some ps => some (p :: ps)
    | _, _ => none
end
def EV.py (S : Sto) : EV → Option PyData
  | .own xs => (D.pys xs).map .list
  | .brw xs => (D.pys xs).map .list
  | .d (.ref n) => (match S[n]? with
    | some (.lst xs) => (D.pys xs).map .list
    | none => none)
  | .d x => x.py

inductive BI where
  | len | abs | int | repr | max | min | all | any | tuple | list
  deriving DecidableEq

inductive LT where
  | name (i : Nat)
  | names (is : List Nat)
  deriving DecidableEq

inductive LE where
  | var (i : Nat)
  | cst (d : D)
  | glob (x : Str)
  | nopart
  | tup (es : List LE)
  | lst (es : List LE)
  | bin (op : Operator) (a b : LE)
  | neg (a : LE)
  | cmp (op : CmpOp) (a b : LE)
  | chain (op op' : CmpOp) (a b c : LE)
  | and2 (a b : LE)
  | or2 (a b : LE)
  | one (a : LE)
  | not1 (a : LE)
  | ite (c a b : LE)
  | idx (a i : LE)
  | didx (ks : List Str) (ns : List Int) (i : LE)
  | slice (a lo hi : LE)
  | call (f : Str) (es : List LE)
  | bi1 (f : BI) (a : LE)
  | bi2 (f : BI) (a b : LE)
  | join (s e : LE)
  | isi (a : LE) (t : String)
  | comp (elt : LE) (tg : LT) (it tst : LE) (own : List (Str × Nat))
  | rng1 (a : LE)
  | rng2 (a b : LE)
  | enum (a : LE)
  | share (a : LE)
  | tru (a : LE)
  | pt (a : LE)
  | sq (a : LE)

/-! ### operations on values -/
def CMulB (i j : Int) : Bool := decide ((-(2 ^ 64) < i ∧ i < 2 ^ 64) ∨ (-(2 ^ 64) < j ∧ j < 2 ^ 64))
def addD : D → D → Option D
  | .int i, .int j => some (.int (i + j))
  | .str x, .str y => if x.length + y.length ≤ sizeLine then some (.str (x ++ y)) else none
  | .tup xs, .tup ys => if xs.length + ys.length ≤ sizeLine then some (.tup (xs ++ ys)) else none
  | _, _ => none
def binV (op : Operator) (S : Sto) (x y : EV) : Option EV := match op, x, y with
  | .Add, x, y => (match x.items S, y.items S with
    | some xs, some ys => if xs.length + ys.length ≤ sizeLine then some (.own (xs ++ ys)) else none
    | _, _ => (match x, y with
      | .d a, .d b => (addD a b).map .d
      | _, _ => none))
  | .Sub, .d (.int i), .d (.int j) => some (.d (.int (i - j)))
  | .Mult, .d (.int i), .d (.int j) => if CMulB i j then some (.d (.int (i * j))) else none
  | .FloorDiv, .d (.int i), .d (.int j) => if 0 < j ∧ j < 1073741824 then some (.d (.int (i / j))) else none
  | .Mod, .d (.int i), .d (.int j) => if 0 < j then some (.d (.int (i % j))) else none
  | _, _, _ => none
/-- equality, as data -/
def eqV (S : Sto) (x y : EV) : Option Bool := match x.py S, y.py S with
  | some p, some q => if SeqAt.shaped p && SeqAt.shaped q then some (PyData.eqv p q) else none
  | _, _ => none
def inV (S : Sto) (x y : EV) : Option Bool := match x, y with
  | .d (.str z), .d (.dic ks _) => some (ks.contains z)
  | .d (.str z), .d (.str w) => some (!(Builtin.Str.occurrences w z 0 w.length 1).isEmpty)
  | x, y => (match x.py S, y.seq S with
    | some p, some ys => (match D.pys ys with
      | some qs => if SeqAt.shaped p && SeqAt.shaped (.list qs) then some (qs.any fun q => PyData.eqv q p) else none
      | none => none)
    | _, _ => none)
def isV : EV → EV → Option Bool
  | .d (.bl a), .d (.bl b) => some (a == b)
  | x, .d .non => some (decide (x = .d .non))
  | _, .d (.bl _) => some false
  | _, _ => none
def ordV (op : CmpOp) (x y : EV) : Option Bool := match op, x, y with
  | .Lt, .d (.int i), .d (.int j) => some (decide (i < j))
  | .LtE, .d (.int i), .d (.int j) => some (decide (i ≤ j))
  | .Gt, .d (.int i), .d (.int j) => some (decide (j < i))
  | .GtE, .d (.int i), .d (.int j) => some (decide (j ≤ i))
  | .Lt, .d (.str i), .d (.str j) => some (decide (i.cps.toList < j.cps.toList))
  | .LtE, .d (.str i), .d (.str j) => some (!decide (j.cps.toList < i.cps.toList))
  | .Gt, .d (.str i), .d (.str j) => some (decide (j.cps.toList < i.cps.toList))
  | .GtE, .d (.str i), .d (.str j) => some (!decide (i.cps.toList < j.cps.toList))
  | _, _, _ => none
def cmpV (op : CmpOp) (S : Sto) (x y : EV) : Option Bool := match op with
  | .Eq => eqV S x y
  | .NotEq => (eqV S x y).map (!·)
  | .In => inV S x y
  | .NotIn => (inV S x y).map (!·)
  | .Is => isV x y
  | .IsNot => (isV x y).map (!·)
  | op => ordV op x y
def truV (S : Sto) : EV → Option Bool
  | .d .non => some false
  | .d (.bl b) => some b
  | .d (.int i) => some (i != 0)
  | .d (.str z) => if z.length ≤ sizeLine then some ((z.length : Int) != 0) else none
  | v => (v.seq S).map (!·.isEmpty)
def idxV (S : Sto) (x i : EV) : Option D := match x, i with
  | .d (.dic ks ds), .d (.str z) => (ks.zip ds).lookup z
  | .d (.str z), .d (.int i) => if z.length ≤ sizeLine then (atI z.cps.toList i).map fun c => .str ⟨#[c]⟩ else none
  | x, .d (.int i) => (x.seq S).bind fun xs => atI xs i
  | _, _ => none
def cut {α : Type} (xs : List α) (lo hi : Option Int) : List α := (xs.drop (HT.sIx xs.length 0 lo)).take (HT.sIx xs.length xs.length hi - HT.sIx xs.length 0 lo)
def partV : Option EV → Option (Option Int)
  | none => some none
  | some (.d (.int i)) => some (some i)
  | some _ => none
def sliceV (S : Sto) (x : EV) (lo hi : Option Int) : Option EV := match x with
  | .d (.tup xs) => some (.d (.tup (cut xs lo hi)))
  | x => (x.items S).map fun xs => .own (cut xs lo hi)
def tyD : EV → Option String
  | .own _ => some "list"
  | .brw _ => some "list"
  | .d .non => some "NoneType"
  | .d (.bl _) => some "bool"
  | .d (.int _) => some "int"
  | .d (.str _) => some "str"
  | .d (.tup _) => some "tuple"
  | .d (.lst _) => some "list"
  | .d (.dic _ _) => some "dict"
  | .d (.ref _) => some "list"
  | .d (.glo _) => none
def isiV (x : EV) (t : String) : Option Bool := (tyD x).bind fun u => kitB u t
def blsOf : List D → Option (List Bool)
  | [] => some []
  | .bl b :: r => (blsOf r).map (b :: ·)
  | _ :: _ => none
def strsOf : List D → Option (List Str)
  | [] => some []
  | .str z :: r => (strsOf r).map (z :: ·)
  | _ :: _ => none
def lenV (S : Sto) : EV → Option Int
  | .d (.str z) => if z.length ≤ sizeLine then some z.length else none
  | v => (v.seq S).map fun xs => (xs.length : Int)
def reprV (S : Sto) (x : EV) : Option Str := match x.py S with
  | some p => if p.showable && decide (p.depth ≤ 60) && decide (p.shown.length ≤ sizeLine) && !p.hasDict then some p.shown else none
  | none => none
def bi1V (f : BI) (S : Sto) (x : EV) : Option EV := match f with
  | .len => (lenV S x).map fun n => .d (.int n)
  | .abs => (match x with
    | .d (.int i) => some (.d (.int (if i < 0 then -i else i)))
    | _ => none)
  | .int => (match x with
    | .d (.int i) => some (.d (.int i))
    | .d (.bl b) => some (.d (.int (if b then 1 else 0)))
    | _ => none)
  | .repr => (reprV S x).map fun z => .d (.str z)
  | .all => ((x.items S).bind blsOf).map fun bs => .d (.bl (bs.all id))
  | .any => ((x.items S).bind blsOf).map fun bs => .d (.bl (bs.any id))
  | .tuple => (x.seq S).map fun xs => .d (.tup xs)
  | .list => (x.seq S).map fun xs => .own xs
  | .max => none
  | .min => none
def bi2V (f : BI) (x y : EV) : Option EV := match f, x, y with
  | .max, .d (.int i), .d (.int j) => some (.d (.int (if j > i then j else i)))
  | .min, .d (.int i), .d (.int j) => some (.d (.int (if j < i then j else i)))
  | _, _, _ => none
def joinV (S : Sto) (x y : EV) : Option EV := match x with
  | .d (.str a) => ((y.seq S).bind strsOf).bind fun ys => if (ys.map (·.length)).sum + ys.length * a.length ≤ 16777216 then some (.d (.str (Txt.join a ys))) else none
  | _ => none

/-! ### frames -/
def wipeE (ρ : Env) : List Nat → Env
  | [] => ρ
  | v :: vs => (wipeE ρ vs).set v none
def bindNames : List Nat → List D → Env → Option Env
  | [], [], ρ => some ρ
  | i :: is, x :: xs, ρ => if i < ρ.length then bindNames is xs (ρ.set i (some (.d x))) else none
  | _, _, _ => none
def bindT (t : LT) (x : D) (ρ : Env) : Option Env := match t, x with
  | .name i, x => if i < ρ.length then some (ρ.set i (some (.d x))) else none
  | .names is, .tup xs => bindNames is xs ρ
  | .names _, _ => none
/-- what a loop walks: the items, and the shared list that they stand in -/
abbrev Its := List D × Option Nat
def stays (S : Sto) (xs : List D) : Option Nat → Bool
  | none => true
  | some n => decide (S[n]? = some (.lst xs))
def itsV (S : Sto) : EV → Option Its
  | .d (.str z) => some (z.cps.toList.map fun c => .str ⟨#[c]⟩, none)
  | .d (.tup xs) => some (xs, none)
  | .d (.lst xs) => some (xs, none)
  | .own xs => some (xs, none)
  | .brw xs => some (xs, none)
  | .d (.ref n) => (match S[n]? with
    | some (.lst xs) => some (xs, some n)
    | none => none)
  | _ => none
def enumV : EV → Option (List D)
  | .d (.tup xs) => some xs
  | .d (.lst xs) => some xs
  | .own xs => some xs
  | .brw xs => some xs
  | _ => none
def rngD (lo : Int) (n : Nat) : List D := (List.range n).map fun (i : Nat) => .int (lo + (i : Int))
def enumD (xs : List D) : List D := xs.zipIdx.map fun p => .tup [.int (p.2 : Nat), p.1]

def compLoop (elt : Env → Sto → Res EV) (tst : Env → Sto → Res Bool) (tg : LT) (ρ : Env) (src : Sto → Bool) : List D → Sto → List D → Res EV
  | [], S, acc => if src S then .ok (.own acc) S else .stuck
  | x :: xs, S, acc => if src S && decide (acc.length < sizeLine) then
      (match bindT tg x ρ with
      | none => .stuck
      | some ρ1 => (tst ρ1 S).calm.bind fun b S1 => if b then (elt ρ1 S1).calm.bind fun y S2 => (optR y.val S2).bind fun y S2 => compLoop elt tst tg ρ src xs S2 (acc ++ [y]) else compLoop elt tst tg ρ src xs S1 acc)
    else .stuck

structure Gd where
  consts : List (Str × D)
  excs : List Str
  sub : Str → Str → Bool

abbrev Call := Str → List D → Sto → Res EV

section
variable (G : Gd) (call : Call)
mutual
def evalE : LE → Env → Sto → Res EV
  | .var i, ρ, S => (match ρ[i]? with
    | some (some (.d x)) => .ok (.d x) S
    | some (some (.own xs)) => .ok (.brw xs) S
    | _ => .stuck)
  | .cst x, _, S => .ok (.d x) S
  | .glob x, _, S => (optR (G.consts.lookup x) S).bind fun d S => .ok (.d d) S
  | .tup es, ρ, S => (evalVs es ρ S).bind fun xs S => if xs.length ≤ sizeLine then .ok (.d (.tup xs)) S else .stuck
  | .lst es, ρ, S => (evalVs es ρ S).bind fun xs S => if xs.length ≤ sizeLine then .ok (.own xs) S else .stuck
  | .bin op a b, ρ, S => (evalE a ρ S).bind fun x S => (evalE b ρ S).bind fun y S => optR (binV op S x y) S
  | .neg a, ρ, S => (evalE a ρ S).bind fun x S => (match x with
    | .d (.int i) => .ok (.d (.int (-i))) S
    | _ => .stuck)
  | .cmp op a b, ρ, S => (evalE a ρ S).bind fun x S => (evalE b ρ S).bind fun y S => (optR (cmpV op S x y) S).bind fun b S => .ok (.d (.bl b)) S
  | .chain op op' a b c, ρ, S => (evalE a ρ S).bind fun x S => (evalE b ρ S).bind fun y S => (optR (cmpV op S x y) S).bind fun k S =>
      if k then (evalE c ρ S).bind fun z S => (optR (cmpV op' S y z) S).bind fun b S => .ok (.d (.bl b)) S else .ok (.d (.bl false)) S
  | .and2 a b, ρ, S => (evalE a ρ S).bind fun x S => (match x with
    | .d (.bl true) => evalE b ρ S
    | .d (.bl false) => .ok (.d (.bl false)) S
    | _ => .stuck)
  | .or2 a b, ρ, S => (evalE a ρ S).bind fun x S => (match x with
    | .d (.bl true) => .ok (.d (.bl true)) S
    | .d (.bl false) => evalE b ρ S
    | _ => .stuck)
  | .one a, ρ, S => evalE a ρ S
  | .not1 a, ρ, S => (evalE a ρ S).bind fun x S => (match x with
    | .d (.bl b) => .ok (.d (.bl (!b))) S
    | _ => .stuck)
  | .ite c a b, ρ, S => (evalT c ρ S).bind fun k S => if k then evalE a ρ S else evalE b ρ S
  | .idx a i, ρ, S => (evalE a ρ S).bind fun x S => (evalE i ρ S).bind fun y S => (optR (idxV S x y) S).bind fun d S => .ok (.d d) S
  | .didx ks ns i, ρ, S => (evalE i ρ S).bind fun y S => (match y with
    | .d (.str z) => (optR ((ks.zip ns).lookup z) S).bind fun n S => .ok (.d (.int n)) S
    | _ => .stuck)
  | .slice a lo hi, ρ, S => (evalE a ρ S).bind fun x S => (evalP lo ρ S).bind fun l S => (evalP hi ρ S).bind fun h S => optR (sliceV S x l h) S
  | .call f es, ρ, S => (evalVs es ρ S).bind fun xs S => call f xs S
  | .bi1 f a, ρ, S => (evalE a ρ S).bind fun x S => optR (bi1V f S x) S
  | .bi2 f a b, ρ, S => (evalE a ρ S).bind fun x S => (evalE b ρ S).bind fun y S => optR (bi2V f x y) S
  | .join a b, ρ, S => (evalE a ρ S).bind fun x S => (match x with
    | .d (.str z) => (evalE b ρ S).bind fun y S => optR (joinV S (.d (.str z)) y) S
    | _ => .stuck)
  | .isi a t, ρ, S => (evalE a ρ S).bind fun x S => (optR (isiV x t) S).bind fun b S => .ok (.d (.bl b)) S
  | .comp elt tg it tst own, ρ, S => (evalI it ρ S).bind fun p S =>
      compLoop (fun ρ S => evalE elt ρ S) (fun ρ S => evalT tst ρ S) tg (wipeE ρ (own.map (·.2))) (fun S => stays S p.1 p.2) p.1 S []
  | .share a, ρ, S => (evalE a ρ S).bind fun x S => (match x with
    | .own xs => .ok (.d (.ref S.length)) (S ++ [.lst xs])
    | _ => .stuck)
  | .nopart, _, _ => .stuck
  | .rng1 _, _, _ => .stuck
  | .rng2 _ _, _, _ => .stuck
  | .enum _, _, _ => .stuck
  | .tru _, _, _ => .stuck
  | .pt _, _, _ => .stuck
  | .sq _, _, _ => .stuck
def evalVs : List LE → Env → Sto → Res (List D)
  | [], _, S => .ok [] S
  | e :: es, ρ, S => (evalE e ρ S).bind fun x S => (optR x.val S).bind fun x S => (evalVs es ρ S).bind fun xs S => .ok (x :: xs) S
def evalP : LE → Env → Sto → Res (Option Int)
  | .nopart, _, S => .ok none S
  | .pt e, ρ, S => (evalE e ρ S).bind fun x S => (match x with
    | .d (.int i) => .ok (some i) S
    | _ => .stuck)
  | _, _, _ => .stuck
def evalT : LE → Env → Sto → Res Bool
  | .not1 a, ρ, S => (evalT a ρ S).bind fun b S => .ok (!b) S
  | .and2 a b, ρ, S => (evalT a ρ S).bind fun k S => if k then evalT b ρ S else .ok false S
  | .or2 a b, ρ, S => (evalT a ρ S).bind fun k S => if k then .ok true S else evalT b ρ S
  | .one a, ρ, S => evalT a ρ S
  | .cmp op a b, ρ, S => (evalE a ρ S).bind fun x S => (evalE b ρ S).bind fun y S => optR (cmpV op S x y) S
  | .chain op op' a b c, ρ, S => (evalE a ρ S).bind fun x S => (evalE b ρ S).bind fun y S => (optR (cmpV op S x y) S).bind fun k S =>
      if k then (evalE c ρ S).bind fun z S => optR (cmpV op' S y z) S else .ok false S
  | .tru e, ρ, S => (evalE e ρ S).bind fun x S => optR (truV S x) S
  | .nopart, _, S => .ok true S
  | _, _, _ => .stuck
def evalI : LE → Env → Sto → Res Its
  | .sq e, ρ, S => (evalE e ρ S).bind fun x S => optR (itsV S x) S
  | .rng1 a, ρ, S => (evalE a ρ S).bind fun x S => (match x with
    | .d (.int j) => if -(2 ^ 62) ≤ j ∧ j < 2 ^ 62 then .ok (rngD 0 j.toNat, none) S else .stuck
    | _ => .stuck)
  | .rng2 a b, ρ, S => (evalE a ρ S).bind fun x S => (evalE b ρ S).bind fun y S => (match x, y with
    | .d (.int i), .d (.int j) => if -(2 ^ 62) ≤ i ∧ i < 2 ^ 62 ∧ -(2 ^ 62) ≤ j ∧ j < 2 ^ 62 then .ok (rngD i (j - i).toNat, none) S else .stuck
    | _, _ => .stuck)
  | .enum e, ρ, S => (evalE e ρ S).bind fun x S => (optR (enumV x) S).bind fun xs S => .ok (enumD xs, none) S
  | _, _, _ => .stuck
end
/-- what a for walks: a new list is left alone from there on -/
def evalJ : LE → Env → Sto → Res Its
  | .sq e, ρ, S => ((evalE G call e ρ S).bind fun x S => optR x.val S).bind fun d S => optR (itsV S (.d d)) S
  | .rng1 a, ρ, S => (evalE G call a ρ S).bind fun x S => (match x with
    | .d (.int j) => if -(2 ^ 62) ≤ j ∧ j < 2 ^ 62 then .ok (rngD 0 j.toNat, none) S else .stuck
    | _ => .stuck)
  | .rng2 a b, ρ, S => (evalE G call a ρ S).bind fun x S => (evalE G call b ρ S).bind fun y S => (match x, y with
    | .d (.int i), .d (.int j) => if -(2 ^ 62) ≤ i ∧ i < 2 ^ 62 ∧ -(2 ^ 62) ≤ j ∧ j < 2 ^ 62 then .ok (rngD i (j - i).toNat, none) S else .stuck
    | _, _ => .stuck)
  | .enum e, ρ, S => ((evalE G call e ρ S).bind fun x S => optR x.val S).bind fun d S => (optR (enumV (.d d)) S).bind fun xs S => .ok (enumD xs, none) S
  | _, _, _ => .stuck
end
/-! ### statements -/
/-- what an except suite gives back, by the class of what it holds -/
inductive LX where
  | cst (d : D)
  | tup (es : List LX)
  | ite (c a b : LX)
  | isi (x : Str)
  | not1 (a : LX)
inductive LS where
  | expr (e : LE)
  | set (t : LT) (e : LE)
  | setIx (o : Nat) (i e : LE)
  | app (o : Nat) (e : LE)
  | ext (o : Nat) (e : LE)
  | ifS (c : LE) (a b : List LS)
  | forS (t : LT) (it : LE) (b : List LS)
  | ret (e : LE)
  | retV (i : Nat)
  | retN
  | raise (c : Str)
  | pass
  | brk
  | cont
  | tryS (b : List LS) (hs : List (Str × Nat × LX))
  | freeze (i : Nat)

inductive SR where
  | next (ρ : Env) (S : Sto)
  | ret (v : EV) (S : Sto)
  | brk (ρ : Env) (S : Sto)
  | cont (ρ : Env) (S : Sto)
  | exc (c : Str) (ρ : Env) (S : Sto)
  | stuck
/-- an expression's end in a statement -/
def Res.to {α : Type} (r : Res α) (ρ : Env) (f : α → Sto → SR) : SR := match r with
  | .ok a S => f a S
  | .exc c S => .exc c ρ S
  | .stuck => .stuck
@[simp] theorem Res.to_ok {α : Type} (a : α) (S : Sto) (ρ : Env) (f : α → Sto → SR) : (Res.ok a S).to ρ f = f a S := rfl
@[simp] theorem Res.to_exc {α : Type} (c : Str) (S : Sto) (ρ : Env) (f : α → Sto → SR) : (Res.exc c S : Res α).to ρ f = .exc c ρ S := rfl
@[simp] theorem Res.to_stuck {α : Type} (ρ : Env) (f : α → Sto → SR) : (Res.stuck : Res α).to ρ f = .stuck := rfl
def SR.andThen (r : SR) (f : Env → Sto → SR) : SR := match r with
  | .next ρ S => f ρ S
  | r => r
@[simp] theorem SR.andThen_next (ρ : Env) (S : Sto) (f : Env → Sto → SR) : (SR.next ρ S).andThen f = f ρ S := rfl
@[simp] theorem SR.andThen_ret (v : EV) (S : Sto) (f : Env → Sto → SR) : (SR.ret v S).andThen f = .ret v S := rfl
@[simp] theorem SR.andThen_brk (ρ : Env) (S : Sto) (f : Env → Sto → SR) : (SR.brk ρ S).andThen f = .brk ρ S := rfl
@[simp] theorem SR.andThen_cont (ρ : Env) (S : Sto) (f : Env → Sto → SR) : (SR.cont ρ S).andThen f = .cont ρ S := rfl
@[simp] theorem SR.andThen_exc (c : Str) (ρ : Env) (S : Sto) (f : Env → Sto → SR) : (SR.exc c ρ S).andThen f = .exc c ρ S := rfl
@[simp] theorem SR.andThen_stuck (f : Env → Sto → SR) : SR.stuck.andThen f = .stuck := rfl

def forLoop (body : D → Env → Sto → SR) (src : Sto → Bool) : List D → Env → Sto → SR
  | [], ρ, S => if src S then .next ρ S else .stuck
  | x :: xs, ρ, S => if src S then (match body x ρ S with
    | .next ρ S => forLoop body src xs ρ S
    | .cont ρ S => forLoop body src xs ρ S
    | .brk ρ S => .next ρ S
    | r => r) else .stuck

def setE (t : LT) (v : EV) (ρ : Env) : Option Env := match t, v with
  | .name i, .d x => if i < ρ.length then some (ρ.set i (some (.d x))) else none
  | .name i, .own xs => if i < ρ.length then some (ρ.set i (some (.own xs))) else none
  | .names is, .d (.tup xs) => bindNames is xs ρ
  | _, _ => none
/-- a list that stands in a name's slot, or a shared one, gets new items -/
def slotL (ρ : Env) (i : Nat) : Bool := match ρ[i]? with
  | some (some (.own _)) => true
  | some (some (.d (.ref _))) => true
  | _ => false
def putL (i : Nat) (f : List D → Option (List D)) (ρ : Env) (S : Sto) : SR := match ρ[i]? with
  | some (some (.own xs)) => (match f xs with
    | some ys => .next (ρ.set i (some (.own ys))) S
    | none => .stuck)
  | some (some (.d (.ref n))) => (match S[n]? with
    | some (.lst xs) => (match f xs with
      | some ys => .next ρ (S.set n (.lst ys))
      | none => .stuck)
    | none => .stuck)
  | _ => .stuck
mutual
def evalX (G : Gd) (c : Str) : LX → Option D
  | .cst d => some d
  | .tup es => (evalXs G c es).bind fun xs => if xs.length ≤ sizeLine then some (.tup xs) else none
  | .ite k a b => (match evalX G c k with
    | some (.bl true) => evalX G c a
    | some (.bl false) => evalX G c b
    | _ => none)
  | .isi x => if G.excs.contains c && G.excs.contains x then some (.bl (G.sub c x)) else none
  | .not1 a => (match evalX G c a with
    | some (.bl b) => some (.bl (!b))
    | _ => none)
def evalXs (G : Gd) (c : Str) : List LX → Option (List D)
  | [] => some []
  | e :: es => (match evalX G c e, evalXs G c es with
    | some x, some xs => some (x :: xs)
    | _, _ => none)
end
def handle (G : Gd) (c : Str) (ρ : Env) (S : Sto) : List (Str × Nat × LX) → SR
  | [] => .exc c ρ S
  | (x, _, e) :: hs => if G.excs.contains c && G.excs.contains x then (if G.sub c x then (match evalX G c e with
    | some d => .ret (.d d) S
    | none => .stuck) else handle G c ρ S hs) else .stuck

section
variable (G : Gd) (call : Call)
mutual
def exec : LS → Env → Sto → SR
  | .expr e, ρ, S => (evalE G call e ρ S).to ρ fun _ S => .next ρ S
  | .set t e, ρ, S => (evalE G call e ρ S).to ρ fun v S => (match setE t v ρ with
    | some ρ1 => .next ρ1 S
    | none => .stuck)
  | .setIx o i e, ρ, S => if slotL ρ o then ((evalE G call e ρ S).bind fun x S => optR x.val S).to ρ fun v S => (evalE G call i ρ S).to ρ fun iv S => (match iv with
    | .d (.int k) => putL o (fun xs => (ixN xs.length k).map fun j => xs.set j v) ρ S
    | _ => .stuck) else .stuck
  | .app o e, ρ, S => if slotL ρ o then ((evalE G call e ρ S).bind fun x S => optR x.val S).to ρ fun v S => putL o (fun xs => if xs.length < sizeLine then some (xs ++ [v]) else none) ρ S else .stuck
  | .ext o e, ρ, S => if slotL ρ o then (evalE G call e ρ S).to ρ fun v S => (match v with
    | .own ys => putL o (fun xs => if xs.length + ys.length ≤ sizeLine then some (xs ++ ys) else none) ρ S
    | _ => .stuck) else .stuck
  | .ifS c a b, ρ, S => (evalT G call c ρ S).to ρ fun k S => if k then execs a ρ S else execs b ρ S
  | .forS t it b, ρ, S => (evalJ G call it ρ S).to ρ fun p S =>
      forLoop (fun x ρ S => (match bindT t x ρ with
        | some ρ1 => execs b ρ1 S
        | none => .stuck)) (fun S => stays S p.1 p.2) p.1 ρ S
  | .ret e, ρ, S => (evalE G call e ρ S).to ρ fun v S => (match v with
    | .brw _ => .stuck
    | v => .ret v S)
  | .retV i, ρ, S => (match ρ[i]? with
    | some (some (.own xs)) => .ret (.own xs) S
    | some (some (.d x)) => .ret (.d x) S
    | _ => .stuck)
  | .retN, ρ, S => .ret (.d .non) S
  | .raise c, ρ, S => if G.excs.contains c then .exc c ρ S else .stuck
  | .pass, ρ, S => .next ρ S
  | .brk, ρ, S => .brk ρ S
  | .cont, ρ, S => .cont ρ S
  | .tryS b hs, ρ, S => (match execs b ρ S with
    | .exc c ρ S => handle G c ρ S hs
    | r => r)
  | .freeze i, ρ, S => (match ρ[i]? with
    | some (some (.own xs)) => .next (ρ.set i (some (.d (.lst xs)))) S
    | _ => .next ρ S)
def execs : List LS → Env → Sto → SR
  | [], ρ, S => .next ρ S
  | s :: ss, ρ, S => (exec s ρ S).andThen fun ρ S => execs ss ρ S
end
end

/-! ### defs -/
structure Fn where
  name : Str
  ps : List Str
  N : List Str
  body : List LS
  deriving Inhabited
mutual
/-- no shared object from n on -/
def D.under (n : Nat) : D → Bool
  | .ref k => decide (k < n)
  | .tup xs => D.unders n xs
  | .lst xs => D.unders n xs
  | .dic _ xs => D.unders n xs
  | _ => true
def D.unders (n : Nat) : List D → Bool
  | [] => true
  | x :: xs => D.under n x && D.unders n xs
end
def EV.under (n : Nat) : EV → Bool
  | .d x => x.under n
  | .own xs => D.unders n xs
  | .brw xs => D.unders n xs
/-- behind a call: what is new and cannot be reached is forgotten -/
def gcE (S : Sto) (v : EV) (S' : Sto) : Res EV := if S'.take S.length = S ∧ v.under S.length = true then .ok v S else .ok v S'
def gcX (S : Sto) (c : Str) (S' : Sto) : Res EV := if S'.take S.length = S then .exc c S else .exc c S'
def startE (N : List Str) (xs : List D) : Env := xs.map (fun x => some (.d x)) ++ List.replicate (N.length - xs.length) none
def runFn (G : Gd) (call : Call) (f : Fn) (xs : List D) (S : Sto) : Res EV :=
  if xs.length = f.ps.length then (match execs G call f.body (startE f.N xs) S with
    | .ret v S' => gcE S v S'
    | .next _ S' => gcE S (.d .non) S'
    | .exc c _ S' => gcX S c S'
    | _ => .stuck) else .stuck
def run (G : Gd) (fs : List Fn) : Nat → Call
  | 0 => fun _ _ _ => .stuck
  | k + 1 => fun x xs S => match fs.find? (fun f => f.name = x) with
    | some f => runFn G (run G fs k) f xs S
    | none => .stuck
end Pl
end

section
set_option Elab.async false
set_option linter.all false
set_option maxRecDepth 100000
/-! How data stands in the heap. -/
namespace Pl
open PySem PySem.Spec PyProof.Rows L2

/-! ### values -/
/-- a list that is never changed again: frozen, or of the written part -/
def SqF (K : PySem.W.Frag) (H : Hp) (a : Addr) (xs : List V) : Prop :=
  (∃ o, H a = some (.frz o (.lst xs))) ∨
    ∃ (its : Array Value) (n : Nat), K.lookup a = some { cls := .type "list", data := .seq its n } ∧ its.size ≤ sizeLine ∧ Vals xs its.toList
theorem SqF.l {K : PySem.W.Frag} {H : Hp} {a : Addr} {xs : List V} (h : SqF K H a xs) : SqL K H a xs := by
  rcases h with ⟨o, h⟩ | ⟨its, n, h1, h2, h3⟩
  · exact .inl (.inr ⟨o, h⟩)
  · exact .inr ⟨_, its, n, h1, rfl, rfl, rfl, h2, h3⟩

/-- a table of the written part with text keys -/
structure DicAt (K : PySem.W.Frag) (w : World) (a : Addr) (ks : List Str) (vs : List V) : Prop where
  ex : ∃ es n, KDict K w a es n
  len : ks.length = vs.length
  hit : ∀ z v, (ks.zip vs).lookup z = some v → ∃ u, PySem.W.nsIn K a z = some (some u) ∧ RelV v u
  miss : ∀ z, (ks.zip vs).lookup z = none → PySem.W.nsIn K a z = some none

mutual
def Rep (K : PySem.W.Frag) (w : World) (μ : List Addr) (H : Hp) : D → V → Prop
  | .non, v => v = .non
  | .bl b, v => v = .bl b
  | .int i, v => v = .int i
  | .str s, v => v = .str s
  | .tup xs, v => ∃ a vs, v = .ref a ∧ SqT K H a vs ∧ RepL K w μ H xs vs
  | .lst xs, v => ∃ a vs, v = .ref a ∧ SqF K H a vs ∧ RepL K w μ H xs vs
  | .dic ks ds, v => ∃ a vs, v = .ref a ∧ DicAt K w a ks vs ∧ RepL K w μ H ds vs
  | .ref n, v => ∃ a, v = .ref a ∧ μ[n]? = some a
  | .glo x, v => v = .ref (He.ga K x)
def RepL (K : PySem.W.Frag) (w : World) (μ : List Addr) (H : Hp) : List D → List V → Prop
  | [], vs => vs = []
  | x :: xs, vs => ∃ v r, vs = v :: r ∧ Rep K w μ H x v ∧ RepL K w μ H xs r
end

/-- what is not changed stays -/
def Kp (H H' : Hp) : Prop := ∀ b o, H b = some o → ¬ Mut (some o) → H' b = some o
section
variable {K : PySem.W.Frag} {w : World} {μ μ' : List Addr} {H H' : Hp}
theorem Kp.t (k : Kp H H') {a : Addr} {xs : List V} (h : SqT K H a xs) : SqT K H' a xs := by
  rcases h with (h | ⟨o, h⟩) | h
  · exact .inl (.inl (k _ _ h (fun z => z)))
  · exact .inl (.inr ⟨o, k _ _ h (fun z => z)⟩)
  · exact .inr h
theorem Kp.f (k : Kp H H') {a : Addr} {xs : List V} (h : SqF K H a xs) : SqF K H' a xs := by
  rcases h with ⟨o, h⟩ | h
  · exact .inl ⟨o, k _ _ h (fun z => z)⟩
  · exact .inr h
theorem pre_get {μ μ' : List Addr} (p : μ <+: μ') {n : Nat} {a : Addr} (h : μ[n]? = some a) : μ'[n]? = some a := by
  obtain ⟨t, rfl⟩ := p
  have hl := (List.getElem?_eq_some_iff.mp h).1
  rw [List.getElem?_append_left hl]
  exact h
mutual
theorem Rep.mono (p : μ <+: μ') (k : Kp H H') : ∀ (d : D) (v : V), Rep K w μ H d v → Rep K w μ' H' d v
  | .non, _, h => by unfold Rep at h ⊢; exact h
  | .bl _, _, h => by unfold Rep at h ⊢; exact h
  | .int _, _, h => by unfold Rep at h ⊢; exact h
  | .str _, _, h => by unfold Rep at h ⊢; exact h
  | .glo _, _, h => by unfold Rep at h ⊢; exact h
  | .ref n, _, h => by
    unfold Rep at h ⊢
    obtain ⟨a, e, q⟩ := h
    exact ⟨a, e, pre_get p q⟩
  | .tup xs, _, h => by
    unfold Rep at h ⊢
    obtain ⟨a, vs, e, q, r⟩ := h
    exact ⟨a, vs, e, k.t q, RepL.mono p k xs vs r⟩
  | .lst xs, _, h => by
    unfold Rep at h ⊢
    obtain ⟨a, vs, e, q, r⟩ := h
    exact ⟨a, vs, e, k.f q, RepL.mono p k xs vs r⟩
  | .dic ks ds, _, h => by
    unfold Rep at h ⊢
    obtain ⟨a, vs, e, q, r⟩ := h
    exact ⟨a, vs, e, q, RepL.mono p k ds vs r⟩
theorem RepL.mono (p : μ <+: μ') (k : Kp H H') : ∀ (xs : List D) (vs : List V), RepL K w μ H xs vs → RepL K w μ' H' xs vs
  | [], _, h => by unfold RepL at h ⊢; exact h
  | x :: xs, _, h => by
    unfold RepL at h ⊢
    obtain ⟨v, r, e, q, z⟩ := h
    exact ⟨v, r, e, Rep.mono p k x v q, RepL.mono p k xs r z⟩
end
theorem RepL.length : ∀ {xs : List D} {vs : List V}, RepL K w μ H xs vs → vs.length = xs.length
  | [], _, h => by unfold RepL at h; rw [h]; rfl
  | x :: xs, _, h => by
    unfold RepL at h
    obtain ⟨v, r, e, q, z⟩ := h
    rw [e, List.length_cons, List.length_cons, RepL.length z]
theorem RepL.get : ∀ {xs : List D} {vs : List V} {i : Nat} {x : D}, RepL K w μ H xs vs → xs[i]? = some x → ∃ v, vs[i]? = some v ∧ Rep K w μ H x v
  | [], _, _, _, _, e => by simp at e
  | y :: ys, _, 0, x, h, e => by
    unfold RepL at h
    obtain ⟨v, r, rfl, q, z⟩ := h
    simp at e
    subst e
    exact ⟨v, rfl, q⟩
  | y :: ys, _, i + 1, x, h, e => by
    unfold RepL at h
    obtain ⟨v, r, rfl, q, z⟩ := h
    obtain ⟨u, e1, e2⟩ := RepL.get (i := i) z (by simpa using e)
    exact ⟨u, by simpa using e1, e2⟩
theorem RepL.app : ∀ {xs ys : List D} {vs us : List V}, RepL K w μ H xs vs → RepL K w μ H ys us → RepL K w μ H (xs ++ ys) (vs ++ us)
  | [], _, _, _, h, k => by unfold RepL at h; rw [h]; exact k
  | x :: xs, _, _, _, h, k => by
    unfold RepL at h
    obtain ⟨v, r, rfl, q, z⟩ := h
    show RepL K w μ H (x :: (xs ++ _)) (v :: (r ++ _))
    unfold RepL
    exact ⟨v, _, rfl, q, RepL.app z k⟩
theorem RepL.one {x : D} {v : V} (h : Rep K w μ H x v) : RepL K w μ H [x] [v] := by
  unfold RepL
  exact ⟨v, [], rfl, h, by unfold RepL; rfl⟩
theorem RepL.nil : RepL K w μ H [] [] := by unfold RepL; rfl
theorem RepL.cons {x : D} {v : V} {xs : List D} {vs : List V} (h : Rep K w μ H x v) (k : RepL K w μ H xs vs) : RepL K w μ H (x :: xs) (v :: vs) := by
  unfold RepL
  exact ⟨v, vs, rfl, h, k⟩
theorem RepL.drop : ∀ (n : Nat) {xs : List D} {vs : List V}, RepL K w μ H xs vs → RepL K w μ H (xs.drop n) (vs.drop n)
  | 0, _, _, h => h
  | n + 1, [], _, h => by unfold RepL at h; rw [h]; exact RepL.nil
  | n + 1, x :: xs, _, h => by
    unfold RepL at h
    obtain ⟨v, r, rfl, q, z⟩ := h
    exact RepL.drop n z
theorem RepL.take : ∀ (n : Nat) {xs : List D} {vs : List V}, RepL K w μ H xs vs → RepL K w μ H (xs.take n) (vs.take n)
  | 0, _, _, h => RepL.nil
  | n + 1, [], _, h => by unfold RepL at h; rw [h]; exact RepL.nil
  | n + 1, x :: xs, _, h => by
    unfold RepL at h
    obtain ⟨v, r, rfl, q, z⟩ := h
    exact RepL.cons q (RepL.take n z)
theorem RepL.set : ∀ (n : Nat) {xs : List D} {vs : List V} {x : D} {v : V}, RepL K w μ H xs vs → Rep K w μ H x v → RepL K w μ H (xs.set n x) (vs.set n v)
  | _, [], _, _, _, h, _ => by unfold RepL at h; rw [h]; exact RepL.nil
  | 0, x :: xs, _, _, _, h, k => by
    unfold RepL at h
    obtain ⟨v, r, rfl, q, z⟩ := h
    exact RepL.cons k z
  | n + 1, x :: xs, _, _, _, h, k => by
    unfold RepL at h
    obtain ⟨v, r, rfl, q, z⟩ := h
    exact RepL.cons q (RepL.set n z k)
end

/-! ### the store, the frame -/
structure StOk (K : PySem.W.Frag) (w : World) (μ : List Addr) (H : Hp) (S : Sto) : Prop where
  len : μ.length = S.length
  nd : μ.Nodup
  ob : ∀ (n : Nat) (a : Addr), μ[n]? = some a → ∃ xs vs, S[n]? = some (.lst xs) ∧ H a = some (.lst vs) ∧ RepL K w μ H xs vs
def RepEV (K : PySem.W.Frag) (w : World) (μ : List Addr) (H : Hp) : EV → V → Prop
  | .d x, v => Rep K w μ H x v
  | .own xs, v => ∃ a vs, v = .ref a ∧ H a = some (.lst vs) ∧ RepL K w μ H xs vs ∧ a ∉ μ
  | .brw xs, v => ∃ a vs, v = .ref a ∧ H a = some (.lst vs) ∧ RepL K w μ H xs vs ∧ a ∉ μ
structure EnvOk (K : PySem.W.Frag) (w : World) (μ : List Addr) (H : Hp) (ρ : Env) (σ : L2.St) : Prop where
  len : ρ.length = σ.length
  at_ : ∀ (i : Nat) (e : EV), ρ[i]? = some (some e) → ∃ v, σ[i]? = some (some v) ∧ RepEV K w μ H e v
  apart : ∀ (i j : Nat) (a : Addr) (xs ys : List D), ρ[i]? = some (some (.own xs)) → ρ[j]? = some (some (.own ys)) → σ[i]? = some (some (V.ref a)) → σ[j]? = some (some (V.ref a)) → i = j
  nobrw : ∀ (i : Nat) (xs : List D), ρ[i]? ≠ some (some (.brw xs))
/-- the store's objects may have changed, new ones are there; all else is as it was -/
structure Stp (μ : List Addr) (H : Hp) (μ' : List Addr) (H' : Hp) : Prop where
  pre : μ <+: μ'
  keep : ∀ b o, H b = some o → b ∉ μ → H' b = some o
  new : ∀ b, b ∈ μ' → b ∈ μ ∨ H b = none
section
variable {K : PySem.W.Frag} {w : World} {μ μ' μ'' : List Addr} {H H' H'' : Hp} {S S' : Sto} {ρ : Env} {σ : L2.St}
theorem StOk.mut (h : StOk K w μ H S) {a : Addr} (m : a ∈ μ) : ∃ vs, H a = some (.lst vs) := by
  obtain ⟨n, hn, e⟩ := List.mem_iff_getElem.mp m
  obtain ⟨xs, vs, _, q, _⟩ := h.ob n a (by rw [List.getElem?_eq_getElem hn, e])
  exact ⟨vs, q⟩
theorem Stp.refl : Stp μ H μ H := ⟨List.prefix_refl _, fun _ _ h _ => h, fun _ h => .inl h⟩
theorem Stp.kp (st : Stp μ H μ' H') (h : StOk K w μ H S) : Kp H H' := fun b o e m => st.keep b o e fun z => by
  obtain ⟨vs, q⟩ := h.mut z
  rw [e] at q
  cases q
  exact m trivial
/-- what is free behind was free ahead -/
theorem Stp.free (st : Stp μ H μ' H') (h' : StOk K w μ' H' S') {b : Addr} (e : H' b = none) : H b = none := by
  cases q : H b with
  | none => rfl
  | some o =>
    by_cases m : b ∈ μ
    · obtain ⟨vs, z⟩ := h'.mut (st.pre.subset m)
      rw [e] at z
      cases z
    · rw [st.keep b o q m] at e
      cases e
theorem Stp.trans (a : Stp μ H μ' H') (h' : StOk K w μ' H' S') (b : Stp μ' H' μ'' H'') : Stp μ H μ'' H'' := by
  refine ⟨a.pre.trans b.pre, fun c o e m => b.keep c o (a.keep c o e m) fun z => ?_, fun c m => ?_⟩
  · rcases a.new c z with q | q
    · exact m q
    · rw [e] at q; cases q
  · rcases b.new c m with q | q
    · exact a.new c q
    · exact .inr (a.free h' q)
theorem Stp.out (st : Stp μ H μ' H') {a : Addr} {o : HO} (e : H a = some o) (m : a ∉ μ) : a ∉ μ' := fun z => by
  rcases st.new a z with q | q
  · exact m q
  · rw [e] at q; cases q
theorem RepEV.stp (st : Stp μ H μ' H') (h : StOk K w μ H S) {v : EV} {u : V} (r : RepEV K w μ H v u) : RepEV K w μ' H' v u := by
  cases v with
  | d x => exact Rep.mono st.pre (st.kp h) x u r
  | own xs =>
    obtain ⟨a, vs, e, q, z, m⟩ := r
    exact ⟨a, vs, e, st.keep _ _ q m, RepL.mono st.pre (st.kp h) xs vs z, st.out q m⟩
  | brw xs =>
    obtain ⟨a, vs, e, q, z, m⟩ := r
    exact ⟨a, vs, e, st.keep _ _ q m, RepL.mono st.pre (st.kp h) xs vs z, st.out q m⟩
theorem EnvOk.stp (st : Stp μ H μ' H') (h : StOk K w μ H S) (r : EnvOk K w μ H ρ σ) : EnvOk K w μ' H' ρ σ :=
  ⟨r.len, fun i e q => let ⟨v, a, b⟩ := r.at_ i e q; ⟨v, a, b.stp st h⟩, r.apart, r.nobrw⟩
/-- one more object is laid -/
theorem Stp.laid {p : Addr} {o : HO} (h : StOk K w μ H S) (hp : H p = none) : Stp μ H μ (upd H p o) :=
  ⟨List.prefix_refl _, fun b u e _ => by rw [upd_ne (ne_of_none e hp)]; exact e, fun _ m => .inl m⟩
theorem StOk.laid {p : Addr} {o : HO} (h : StOk K w μ H S) (hp : H p = none) : StOk K w μ (upd H p o) S := by
  refine ⟨h.len, h.nd, fun n a e => ?_⟩
  obtain ⟨xs, vs, e1, e2, r⟩ := h.ob n a e
  refine ⟨xs, vs, e1, ?_, RepL.mono (List.prefix_refl _) ((Stp.laid (o := o) h hp).kp h) xs vs r⟩
  rw [upd_ne (ne_of_none e2 hp)]
  exact e2
theorem StOk.notin (h : StOk K w μ H S) {p : Addr} (hp : H p = none) : p ∉ μ := fun m => by
  obtain ⟨vs, e⟩ := h.mut m
  rw [hp] at e; cases e
/-- a list that nobody shares is frozen -/
theorem StOk.frz {a : Addr} {o : Obj} {vs : List V} (h : StOk K w μ H S) (e : H a = some (.lst vs)) (m : a ∉ μ) : StOk K w μ (upd H a (.frz o (.lst vs))) S := by
  have k : Kp H (upd H a (.frz o (.lst vs))) := fun b u q n => by
    rw [upd_ne (fun z => n (by rw [z, e] at q; cases q; trivial))]
    exact q
  refine ⟨h.len, h.nd, fun n b q => ?_⟩
  obtain ⟨xs, us, e1, e2, r⟩ := h.ob n b q
  refine ⟨xs, us, e1, ?_, RepL.mono (List.prefix_refl _) k xs us r⟩
  rw [upd_ne (fun z => m (by rw [← z]; exact List.mem_of_getElem? q))]
  exact e2
theorem kp_frz {a : Addr} {o : Obj} {vs : List V} (e : H a = some (.lst vs)) : Kp H (upd H a (.frz o (.lst vs))) := fun b u q n => by
  rw [upd_ne (fun z => n (by rw [z, e] at q; cases q; trivial))]
  exact q
end

/-! ### freezing, in the machine's terms -/
section
variable {X : Cx} {pins : List (Addr × Obj)} {σ : L2.St} {H : Hp} {s : Shared}
theorem Inv.freeze {a : Addr} {vs : List V} (I : Inv X pins σ H s) (e : H a = some (.lst vs)) : ∃ o, Inv X pins σ (upd H a (.frz o (.lst vs))) s := by
  obtain ⟨hz, its, n, r, g⟩ := (show ObjOk X.prog X.w H s.heap a (.lst vs) from I.hok a _ e)
  refine ⟨{ cls := .type "list", data := .seq its.toArray n }, ?_⟩
  have ne : ∀ b u, H b = some u → (∀ xs, u ≠ .lst xs) → b ≠ a := fun b u q nu z => by
    rw [z, e] at q
    exact nu vs (Option.some.inj q).symm
  have hok : HOk X.prog X.w (upd H a (.frz { cls := .type "list", data := .seq its.toArray n } (.lst vs))) s.heap := fun b u q => by
    by_cases hb : b = a
    · subst hb
      rw [upd_same] at q
      cases q
      exact ⟨g, hz, its, n, r, g⟩
    · rw [upd_ne hb] at q
      exact (I.hok b u q).stay (fun c v _ z => z) (fun c z => by rw [upd_ne (ne c _ z fun _ y => nomatch y)]; exact z) fun c xs z => by
        rw [upd_ne (ne c _ z fun _ y => nomatch y)]; exact z
  have un : Un X.fs [] H (upd H a (.frz { cls := .type "list", data := .seq its.toArray n } (.lst vs))) s.heap s.heap := by
    refine ⟨fun b o q _ _ _ => q, fun b o q _ _ _ => ⟨o.slots, q⟩, fun b o _ z _ => ?_, fun b o q _ => ⟨o, q⟩, fun b xs z => ?_, fun b o u z => ?_, fun b ps z => ⟨#[], ?_⟩⟩
    · rw [upd_ne (fun y => by rw [y, e] at z; cases z)]
      exact z
    · rw [upd_ne (ne b _ z fun _ y => nomatch y)]
      exact z
    · rw [upd_ne (ne b _ z fun _ y => nomatch y)]
      exact z
    · rw [upd_ne (ne b _ z fun _ y => nomatch y), z]
      simp
  exact I.un (h' := s.heap) (t' := s.toks) un hok
/-- the list's own object -/
theorem Inv.lx {a : Addr} {vs : List V} (I : Inv X pins σ H s) (h : H a = some (.lst vs) ∨ SqF X.K H a vs) :
    ∃ (its : List Value) (n : Nat), Vals vs its ∧ vs.length ≤ sizeLine ∧ s.heap.get? a = some { cls := .type "list", data := .seq its.toArray n } := by
  rcases h with h | ⟨o, h⟩ | ⟨its, n, h1, h2, h3⟩
  · obtain ⟨z, its, n, r, e⟩ := (show ObjOk X.prog X.w H s.heap a (.lst vs) from I.hok a _ h)
    exact ⟨its, n, r, z, e⟩
  · obtain ⟨_, z, its, n, r, e⟩ := (show ObjOk X.prog X.w H s.heap a (.frz o (.lst vs)) from I.hok a _ h)
    exact ⟨its, n, r, z, e⟩
  · refine ⟨its.toList, n, h3, ?_, by simpa using I.kIn a _ h1⟩
    have e := h3.length
    simp only [Array.length_toList] at e
    omega
/-- an expression's value, frozen where it is a new list -/
def tFrz (t : TE) : TE := fun σ H Q => t σ H fun x H1 => Q x H1 ∨ ∃ a vs, x = .ref a ∧ H1 a = some (.lst vs) ∧ ∀ o, Q x (upd H1 a (.frz o (.lst vs)))
theorem pe_frz {e : Expr} {t : TE} (h : PE X e t) : PE X e (tFrz t) := by
  refine ⟨fun pins s σ H Q I q => ?_⟩
  refine thn (h.run pins s σ H _ I q) fun u s1 ⟨x, H1, I1, r1, q1⟩ => ?_
  rcases q1 with q1 | ⟨a, vs, rfl, e1, q1⟩
  · exact ⟨x, H1, I1, r1, q1⟩
  · obtain ⟨o, I2⟩ := Inv.freeze I1 e1
    exact ⟨_, _, I2, r1, q1 o⟩
end
end Pl
end

section
set_option Elab.async false
set_option linter.all false
set_option maxRecDepth 100000
/-! Operations on values. -/
namespace Pl
open PySem PySem.Spec PyProof.Rows L2

/-- what the interpreter stands over: the written part, the world, the constants, the calls, what is wished of an exception -/
structure Px where
  K : PySem.W.Frag
  w : World
  G : Gd
  call : Call
  W : WX
abbrev clsV (K : PySem.W.Frag) (c : Str) : Value := .ref (He.ga K c)

section
variable (p : Px) (σ : L2.St)
/-- wherever the interpreter's answer stands, Q holds -/
def Wp {α β : Type} (R : Hp → α → List Addr → Hp → β → Prop) (μ : List Addr) (H : Hp) (r : Res α) (Q : β → Hp → Prop) : Prop := match r with
  | .ok a S' => ∀ u μ' H', Stp μ H μ' H' → StOk p.K p.w μ' H' S' → R H a μ' H' u → Q u H'
  | .exc c S' => ∀ μ' H', Stp μ H μ' H' → StOk p.K p.w μ' H' S' → p.W (clsV p.K c) none σ H'
  | .stuck => False
def RE : Hp → EV → List Addr → Hp → V → Prop := fun H0 v μ H u => RepEV p.K p.w μ H v u ∧ ∀ xs, v = .own xs → ∀ a, u = .ref a → H0 a = none
def RV : Hp → D → List Addr → Hp → V → Prop := fun _ v μ H u => Rep p.K p.w μ H v u
def RVs : Hp → List D → List Addr → Hp → List V → Prop := fun _ v μ H u => RepL p.K p.w μ H v u
def RB {α : Type} : Hp → α → List Addr → Hp → α → Prop := fun _ b _ _ k => k = b
end
/-- what a relation must bear: a later start -/
def Late {α β : Type} (R : Hp → α → List Addr → Hp → β → Prop) : Prop := ∀ H H1 a μ' H' u, (∀ b, H1 b = none → H b = none) → R H1 a μ' H' u → R H a μ' H' u
section
variable {p : Px} {σ : L2.St} {μ μ1 : List Addr} {H H1 : Hp} {S S1 : Sto} {ρ : Env}
theorem late_E : Late (RE p) := fun H H1 a μ' H' u k r => ⟨r.1, fun xs e b q => k b (r.2 xs e b q)⟩
theorem late_V : Late (RV p) := fun H H1 a μ' H' u k r => r
theorem late_Vs : Late (RVs p) := fun H H1 a μ' H' u k r => r
theorem late_B {α : Type} : Late (RB (α := α)) := fun H H1 a μ' H' u k r => r
theorem Wp.shift {α β : Type} {R : Hp → α → List Addr → Hp → β → Prop} {r : Res α} {Q : β → Hp → Prop} (hR : Late R) (h : Wp p σ R μ H r Q) (st : Stp μ H μ1 H1) (hS1 : StOk p.K p.w μ1 H1 S1) : Wp p σ R μ1 H1 r Q := by
  cases r with
  | ok a S' => exact fun u μ' H' st' hS' q => h u μ' H' (st.trans hS1 st') hS' (hR _ _ _ _ _ _ (fun b e => st.free hS1 e) q)
  | exc c S' => exact fun μ' H' st' hS' => h μ' H' (st.trans hS1 st') hS'
  | stuck => exact h
theorem Wp.imp {α β : Type} {R : Hp → α → List Addr → Hp → β → Prop} {r : Res α} {Q Q' : β → Hp → Prop} (h : Wp p σ R μ H r Q) (k : ∀ u H', Q u H' → Q' u H') : Wp p σ R μ H r Q' := by
  cases r with
  | ok a S' => exact fun u μ' H' st' hS' q => k _ _ (h u μ' H' st' hS' q)
  | exc c S' => exact h
  | stuck => exact h
/-- behind a part of the work -/
structure Mid {α β : Type} (p : Px) (σ : L2.St) (ρ : Env) (R : Hp → α → List Addr → Hp → β → Prop) (μ : List Addr) (H : Hp) (a : α) (S1 : Sto) (μ1 : List Addr) (u : β) (H1 : Hp) : Prop where
  st : Stp μ H μ1 H1
  S : StOk p.K p.w μ1 H1 S1
  E : EnvOk p.K p.w μ1 H1 ρ σ
  r : R H a μ1 H1 u
theorem Wp.bind {α β α' β' : Type} {R : Hp → α → List Addr → Hp → β → Prop} {R' : Hp → α' → List Addr → Hp → β' → Prop} {r : Res α} {f : α → Sto → Res α'} {Q : β' → Hp → Prop} (hR : Late R') (h : Wp p σ R' μ H (r.bind f) Q)
    (hS : StOk p.K p.w μ H S) (hρ : EnvOk p.K p.w μ H ρ σ) : Wp p σ R μ H r (fun u H1 => ∃ a S1 μ1, Mid p σ ρ R μ H a S1 μ1 u H1 ∧ Wp p σ R' μ1 H1 (f a S1) Q) := by
  cases r with
  | ok a S' => exact fun u μ' H' st' hS' q => ⟨a, S', μ', ⟨st', hS', hρ.stp st' hS, q⟩, Wp.shift hR h st' hS'⟩
  | exc c S' => exact h
  | stuck => exact h
theorem Wp.opt {α β : Type} {R : Hp → α → List Addr → Hp → β → Prop} {o : Option α} {Q : β → Hp → Prop} (h : Wp p σ R μ H (optR o S) Q) : ∃ a, o = some a ∧ Wp p σ R μ H (.ok a S) Q := by
  cases o with
  | none => exact h.elim
  | some a => exact ⟨a, rfl, h⟩
/-- .. of an option, what follows behind it -/
theorem Wp.optB {α α' β' : Type} {R' : Hp → α' → List Addr → Hp → β' → Prop} {o : Option α} {f : α → Sto → Res α'} {Q : β' → Hp → Prop} (h : Wp p σ R' μ H ((optR o S).bind f) Q) : ∃ a, o = some a ∧ Wp p σ R' μ H (f a S) Q := by
  cases o with
  | none => exact h.elim
  | some a => exact ⟨a, rfl, h⟩
theorem Wp.here {α β : Type} {R : Hp → α → List Addr → Hp → β → Prop} {a : α} {u : β} {Q : β → Hp → Prop} (h : Wp p σ R μ H (.ok a S) Q) (hS : StOk p.K p.w μ H S) (r : R H a μ H u) : Q u H := h u μ H Stp.refl hS r
theorem Wp.data {x : D} {u : V} {Q : VK} (h : Wp p σ (RE p) μ H (.ok (.d x) S) Q) (hS : StOk p.K p.w μ H S) (r : Rep p.K p.w μ H x u) : Q u H := h.here hS ⟨r, fun _ e => nomatch e⟩
theorem Wp.newL {xs : List D} {vs : List V} {a : Addr} {Q : VK} (h : Wp p σ (RE p) μ H (.ok (.own xs) S) Q) (hS : StOk p.K p.w μ H S) (r : RepL p.K p.w μ H xs vs) (ha : H a = none) : Q (.ref a) (upd H a (.lst vs)) := by
  have st := Stp.laid (o := .lst vs) hS ha
  refine h (.ref a) μ _ st (hS.laid ha) ⟨⟨a, vs, rfl, upd_same, RepL.mono st.pre (st.kp hS) _ _ r, hS.notin ha⟩, fun _ _ b e => ?_⟩
  cases e
  exact ha
theorem Wp.newT {xs : List D} {vs : List V} {a : Addr} {Q : VK} (h : Wp p σ (RE p) μ H (.ok (.d (.tup xs)) S) Q) (hS : StOk p.K p.w μ H S) (r : RepL p.K p.w μ H xs vs) (ha : H a = none) : Q (.ref a) (upd H a (.tup vs)) := by
  have st := Stp.laid (o := .tup vs) hS ha
  refine h (.ref a) μ _ st (hS.laid ha) ⟨?_, fun _ e => nomatch e⟩
  show Rep p.K p.w μ _ (.tup xs) (.ref a)
  unfold Rep
  exact ⟨a, vs, rfl, SqT.of upd_same, RepL.mono st.pre (st.kp hS) _ _ r⟩
end

/-! ### reading values -/
section
variable {K : PySem.W.Frag} {w : World} {μ : List Addr} {H : Hp} {S : Sto}
theorem rep_int {i : Int} {u : V} (h : Rep K w μ H (.int i) u) : u = .int i := by unfold Rep at h; exact h
theorem rep_bl {i : Bool} {u : V} (h : Rep K w μ H (.bl i) u) : u = .bl i := by unfold Rep at h; exact h
theorem rep_str {i : Str} {u : V} (h : Rep K w μ H (.str i) u) : u = .str i := by unfold Rep at h; exact h
theorem rep_non {u : V} (h : Rep K w μ H .non u) : u = .non := by unfold Rep at h; exact h
theorem rep_tup {xs : List D} {u : V} (h : Rep K w μ H (.tup xs) u) : ∃ a vs, u = .ref a ∧ SqT K H a vs ∧ RepL K w μ H xs vs := by unfold Rep at h; exact h
theorem rep_lst {xs : List D} {u : V} (h : Rep K w μ H (.lst xs) u) : ∃ a vs, u = .ref a ∧ SqF K H a vs ∧ RepL K w μ H xs vs := by unfold Rep at h; exact h
theorem rep_dic {ks : List Str} {xs : List D} {u : V} (h : Rep K w μ H (.dic ks xs) u) : ∃ a vs, u = .ref a ∧ DicAt K w a ks vs ∧ RepL K w μ H xs vs := by unfold Rep at h; exact h
theorem rep_ref {n : Nat} {u : V} (h : Rep K w μ H (.ref n) u) : ∃ a, u = .ref a ∧ μ[n]? = some a := by unfold Rep at h; exact h
theorem of_int {i : Int} : Rep K w μ H (.int i) (.int i) := by unfold Rep; rfl
theorem of_bl {i : Bool} : Rep K w μ H (.bl i) (.bl i) := by unfold Rep; rfl
theorem of_str {i : Str} : Rep K w μ H (.str i) (.str i) := by unfold Rep; rfl
theorem of_non : Rep K w μ H .non .non := by unfold Rep; rfl
theorem ev_int {i : Int} {u : V} (h : RepEV K w μ H (.d (.int i)) u) : u = .int i := rep_int (K := K) (w := w) (μ := μ) (H := H) h
theorem ev_bl {i : Bool} {u : V} (h : RepEV K w μ H (.d (.bl i)) u) : u = .bl i := rep_bl (K := K) (w := w) (μ := μ) (H := H) h
theorem ev_str {i : Str} {u : V} (h : RepEV K w μ H (.d (.str i)) u) : u = .str i := rep_str (K := K) (w := w) (μ := μ) (H := H) h
theorem ev_non {u : V} (h : RepEV K w μ H (.d .non) u) : u = .non := rep_non (K := K) (w := w) (μ := μ) (H := H) h
theorem ev_tup {xs : List D} {u : V} (h : RepEV K w μ H (.d (.tup xs)) u) : ∃ a vs, u = .ref a ∧ SqT K H a vs ∧ RepL K w μ H xs vs := rep_tup (K := K) (w := w) (μ := μ) (H := H) h
theorem ev_lst {xs : List D} {u : V} (h : RepEV K w μ H (.d (.lst xs)) u) : ∃ a vs, u = .ref a ∧ SqF K H a vs ∧ RepL K w μ H xs vs := rep_lst (K := K) (w := w) (μ := μ) (H := H) h
theorem ev_dic {ks : List Str} {xs : List D} {u : V} (h : RepEV K w μ H (.d (.dic ks xs)) u) : ∃ a vs, u = .ref a ∧ DicAt K w a ks vs ∧ RepL K w μ H xs vs := rep_dic (K := K) (w := w) (μ := μ) (H := H) h
theorem ev_ref {n : Nat} {u : V} (h : RepEV K w μ H (.d (.ref n)) u) : ∃ a, u = .ref a ∧ μ[n]? = some a := rep_ref (K := K) (w := w) (μ := μ) (H := H) h
/-- a list's items are there -/
theorem items_at {v : EV} {u : V} {xs : List D} (hS : StOk K w μ H S) (r : RepEV K w μ H v u) (e : v.items S = some xs) : ∃ a vs, u = .ref a ∧ (H a = some (.lst vs) ∨ SqF K H a vs) ∧ RepL K w μ H xs vs := by
  cases v with
  | own ys =>
    cases e
    obtain ⟨a, vs, h1, h2, h3, _⟩ := r
    exact ⟨a, vs, h1, .inl h2, h3⟩
  | brw ys =>
    cases e
    obtain ⟨a, vs, h1, h2, h3, _⟩ := r
    exact ⟨a, vs, h1, .inl h2, h3⟩
  | d x =>
    cases x with
    | lst ys =>
      cases e
      obtain ⟨a, vs, h1, h2, h3⟩ := ev_lst r
      exact ⟨a, vs, h1, .inr h2, h3⟩
    | ref n =>
      obtain ⟨a, h1, h2⟩ := ev_ref r
      obtain ⟨ys, vs, h3, h4, h5⟩ := hS.ob n a h2
      have e' : (match S[n]? with | some (.lst xs) => some xs | none => none) = some xs := e
      rw [h3] at e'
      cases e'
      exact ⟨a, vs, h1, .inl h4, h5⟩
    | _ => cases e
theorem sql_of {a : Addr} {vs : List V} (h : H a = some (.lst vs) ∨ SqF K H a vs) : SqL K H a vs := h.elim (fun h => SqL.of h) (fun h => h.l)
theorem seq_at {v : EV} {u : V} {xs : List D} (hS : StOk K w μ H S) (r : RepEV K w μ H v u) (e : v.seq S = some xs) : ∃ a vs, u = .ref a ∧ (SqL K H a vs ∨ SqT K H a vs) ∧ RepL K w μ H xs vs := by
  by_cases h : ∃ ys, v = .d (.tup ys)
  · obtain ⟨ys, rfl⟩ := h
    cases e
    obtain ⟨a, vs, h1, h2, h3⟩ := ev_tup r
    exact ⟨a, vs, h1, .inr h2, h3⟩
  · have e' : v.items S = some xs := by
      unfold EV.seq at e
      split at e
      · rename_i ys
        exact absurd ⟨ys, rfl⟩ h
      · exact e
    obtain ⟨a, vs, h1, h2, h3⟩ := items_at hS r e'
    exact ⟨a, vs, h1, .inl (sql_of h2), h3⟩
mutual
theorem py_at : ∀ (x : D) (u : V) (q : PyData), Rep K w μ H x u → x.py = some q → Dp K H u q
  | .non, u, q, h, e => by rw [rep_non h]; simp only [D.py, Option.some.injEq] at e; subst e; exact .non
  | .bl b, u, q, h, e => by rw [rep_bl h]; simp only [D.py, Option.some.injEq] at e; subst e; exact .bl b
  | .int b, u, q, h, e => by rw [rep_int h]; simp only [D.py, Option.some.injEq] at e; subst e; exact .int b
  | .str b, u, q, h, e => by rw [rep_str h]; simp only [D.py, Option.some.injEq] at e; subst e; exact .str b
  | .tup xs, u, q, h, e => by
    obtain ⟨a, vs, rfl, h2, h3⟩ := rep_tup h
    simp only [D.py, Option.map_eq_some_iff] at e
    obtain ⟨ps, e, rfl⟩ := e
    exact .tup h2 (pys_at xs vs ps h3 e)
  | .lst xs, u, q, h, e => by
    obtain ⟨a, vs, rfl, h2, h3⟩ := rep_lst h
    simp only [D.py, Option.map_eq_some_iff] at e
    obtain ⟨ps, e, rfl⟩ := e
    exact .lst h2.l (pys_at xs vs ps h3 e)
  | .dic _ _, _, _, _, e => by simp [D.py] at e
  | .ref _, _, _, _, e => by simp [D.py] at e
  | .glo _, _, _, _, e => by simp [D.py] at e
theorem pys_at : ∀ (xs : List D) (vs : List V) (qs : List PyData), RepL K w μ H xs vs → D.pys xs = some qs → DpAll K H vs qs
  | [], vs, qs, h, e => by
    unfold RepL at h
    rw [h]
    simp only [D.pys, Option.some.injEq] at e
    subst e
    exact .nil
  | x :: xs, vs, qs, h, e => by
    unfold RepL at h
    obtain ⟨v, r, rfl, h1, h2⟩ := h
    unfold D.pys at e
    cases e1 : x.py with
    | none => rw [e1] at e; cases e
    | some q =>
      cases e2 : D.pys xs with
      | none => rw [e1, e2] at e; cases e
      | some qs' =>
        rw [e1, e2] at e
        cases e
        exact .cons (py_at x v q h1 e1) (pys_at xs r qs' h2 e2)
end
theorem evpy_at {v : EV} {u : V} {q : PyData} (hS : StOk K w μ H S) (r : RepEV K w μ H v u) (e : v.py S = some q) : Dp K H u q := by
  cases v with
  | own ys =>
    obtain ⟨a, vs, rfl, h2, h3, _⟩ := r
    simp only [EV.py, Option.map_eq_some_iff] at e
    obtain ⟨ps, e, rfl⟩ := e
    exact .lst (SqL.of h2) (pys_at ys vs ps h3 e)
  | brw ys =>
    obtain ⟨a, vs, rfl, h2, h3, _⟩ := r
    simp only [EV.py, Option.map_eq_some_iff] at e
    obtain ⟨ps, e, rfl⟩ := e
    exact .lst (SqL.of h2) (pys_at ys vs ps h3 e)
  | d x =>
    cases x with
    | ref n =>
      obtain ⟨a, rfl, h2⟩ := ev_ref r
      obtain ⟨ys, vs, h3, h4, h5⟩ := hS.ob n a h2
      have e' : (match S[n]? with | some (.lst xs) => (D.pys xs).map PyData.list | none => none) = some q := e
      rw [h3] at e'
      simp only [Option.map_eq_some_iff] at e'
      obtain ⟨ps, e5, rfl⟩ := e'
      exact .lst (SqL.of h4) (pys_at ys vs ps h5 e5)
    | _ => exact py_at _ u q r e
end

/-! ### the operators -/
section
variable {X : Cx} {p : Px}
/-- two values' answer -/
def rOp (p : Px) (f : Sto → EV → EV → Option EV) : R2 := fun x y H Q => ∃ σ μ S v1 v2, StOk p.K p.w μ H S ∧ RepEV p.K p.w μ H v1 x ∧ RepEV p.K p.w μ H v2 y ∧ Wp p σ (RE p) μ H (optR (f S v1 v2) S) Q
theorem op_catL (hK : X.K = p.K) : ∀ (pins : List (Addr × Obj)) (s : Shared) (σ : L2.St) (H : Hp) (a b : Addr) (xs zs : List V) (Q : VK), Inv X pins σ H s → (H a = some (.lst xs) ∨ SqF p.K H a xs) → (H b = some (.lst zs) ∨ SqF p.K H b zs) →
    xs.length + zs.length ≤ sizeLine → (∀ q, H q = none → Q (.ref q) (upd H q (.lst (xs ++ zs)))) → wpAny (model X.prog X.w) X.A (binaryOp .Add (.ref a) (.ref b)) (EP X pins σ Q) X.xe s := by
  intro pins s σ H a b xs zs Q I ha hb hz q
  rw [← hK] at ha hb
  obtain ⟨its, n, r, z, e⟩ := Inv.lx I ha
  obtain ⟨its2, n2, r2, z2, e2⟩ := Inv.lx I hb
  have hl := r.length
  have hl2 := r2.length
  refine PySem.P.add_list e e2 ?_ (by rw [List.size_toArray, List.size_toArray]; omega)
  have ea : its.toArray ++ its2.toArray = (its ++ its2).toArray := by simp
  rw [ea]
  exact ⟨.ref _, _, I.lnew (t' := s.toks) (r.append r2) (by rw [List.length_append]; omega), rfl, q _ I.fresh⟩
theorem rel_ref {a : Addr} {u : Value} (r : RelV (.ref a) u) : u = .ref a := r
theorem op_binV (hK : X.K = p.K) (op : Operator) : OpR X (binaryOp op) (rOp p (binV op)) := by
  intro pins s σ H x y v u Q I rx ry h
  obtain ⟨σ0, μ, S, v1, v2, hS, r1, r2, h⟩ := h
  obtain ⟨ev, e, h⟩ := h.opt
  unfold binV at e
  split at e
  · -- add
    split at e
    · rename_i xs ys e1 e2
      split at e
      · rename_i hz
        cases e
        obtain ⟨a, vs, rfl, h1, g1⟩ := items_at hS r1 e1
        obtain ⟨b, us, rfl, h2, g2⟩ := items_at hS r2 e2
        cases rx
        cases ry
        exact op_catL hK pins s σ H a b vs us Q I h1 h2 (by rw [g1.length, g2.length]; exact hz) fun q hq => h.newL hS (g1.app g2) hq
      · cases e
    · split at e
      · rename_i a b _
        simp only [Option.map_eq_some_iff] at e
        obtain ⟨d, e, rfl⟩ := e
        unfold addD at e
        split at e
        · cases e
          have e1 := ev_int r1
          have e2 := ev_int r2
          exact op_add pins s σ H x y v u Q I rx ry ⟨_, _, e1, e2, h.data hS of_int⟩
        · split at e
          · rename_i hz
            cases e
            exact op_add_str pins s σ H x y v u Q I rx ry ⟨_, _, ev_str r1, ev_str r2, hz, h.data hS of_str⟩
          · cases e
        · split at e
          · rename_i xs ys hz
            cases e
            obtain ⟨a, vs, rfl, h1, g1⟩ := ev_tup r1
            obtain ⟨b, us, rfl, h2, g2⟩ := ev_tup r2
            refine op_catA pins s σ H _ _ v u Q I rx ry ⟨a, b, vs, us, rfl, rfl, hK ▸ h1, hK ▸ h2, by rw [g1.length, g2.length]; exact hz, fun z => ?_, fun _ z => ?_, fun _ _ q hq => h.newT hS (g1.app g2) hq⟩
            · subst z
              refine h.data hS ?_
              unfold Rep
              exact ⟨b, us, rfl, h2, g1.app g2⟩
            · subst z
              refine h.data hS ?_
              unfold Rep
              refine ⟨a, vs, rfl, h1, ?_⟩
              have := g1.app g2
              rwa [List.append_nil] at this
          · cases e
        · cases e
      · cases e
  · cases e
    exact op_sub pins s σ H x y v u Q I rx ry ⟨_, _, ev_int r1, ev_int r2, h.data hS of_int⟩
  · split at e
    · rename_i hc
      cases e
      exact op_mul pins s σ H x y v u Q I rx ry ⟨_, _, ev_int r1, ev_int r2, (by unfold CMulB at hc; exact (of_decide_eq_true hc : _ ∨ _)), h.data hS of_int⟩
    · cases e
  · split at e
    · rename_i hc
      cases e
      exact op_fdiv pins s σ H x y v u Q I rx ry ⟨_, _, ev_int r1, ev_int r2, hc, h.data hS of_int⟩
    · cases e
  · split at e
    · rename_i hc
      cases e
      exact op_mod pins s σ H x y v u Q I rx ry ⟨_, _, ev_int r1, ev_int r2, hc, h.data hS of_int⟩
    · cases e
  · cases e
/-! ### comparisons -/
def rCmp (p : Px) (op : CmpOp) : R2 := fun x y H Q => ∃ μ S v1 v2 b, StOk p.K p.w μ H S ∧ RepEV p.K p.w μ H v1 x ∧ RepEV p.K p.w μ H v2 y ∧ cmpV op S v1 v2 = some b ∧ Q (.bl b) H
theorem eq_of (hK : X.K = p.K) (hu : X.A.units + 65 < cLine) {pins : List (Addr × Obj)} {s : Shared} {σ : L2.St} {H : Hp} {x y : V} {v u : Value} {μ : List Addr} {S : Sto} {v1 v2 : EV} {b : Bool} (I : Inv X pins σ H s) (rx : RelV x v) (ry : RelV y u)
    (hS : StOk p.K p.w μ H S) (r1 : RepEV p.K p.w μ H v1 x) (r2 : RepEV p.K p.w μ H v2 y) (e : eqV S v1 v2 = some b) : ∃ d f, Dp X.K H x d ∧ Dp X.K H y f ∧ SeqAt.shaped d = true ∧ SeqAt.shaped f = true ∧ PyData.eqv d f = b := by
  unfold eqV at e
  cases e1 : v1.py S with
  | none => rw [e1] at e; cases e
  | some d =>
    cases e2 : v2.py S with
    | none => rw [e1, e2] at e; cases e
    | some f =>
      rw [e1, e2] at e
      simp only at e
      split at e
      · rename_i hs
        cases e
        obtain ⟨h1, h2⟩ := Bool.and_eq_true_iff.mp hs
        rw [hK]
        exact ⟨d, f, evpy_at hS r1 e1, evpy_at hS r2 e2, h1, h2, rfl⟩
      · cases e
theorem zip_lookup_isSome {α : Type} : ∀ {ks : List Str} {vs : List α} {z : Str}, ks.length = vs.length → ((ks.zip vs).lookup z).isSome = ks.contains z
  | [], [], _, _ => rfl
  | [], _ :: _, _, h => by simp at h
  | _ :: _, [], _, h => by simp at h
  | k :: ks, v :: vs, z, h => by
    show (List.lookup z ((k, v) :: ks.zip vs)).isSome = _
    rw [List.lookup_cons, List.contains_cons]
    cases hb : z == k with
    | true => simp
    | false => simpa using zip_lookup_isSome (z := z) (by simpa using h)
theorem dic_in {K : PySem.W.Frag} {w : World} {a : Addr} {ks : List Str} {vs : List V} (d : DicAt K w a ks vs) (z : Str) : ∃ r, PySem.W.nsIn K a z = some r ∧ r.isSome = ks.contains z := by
  have e := zip_lookup_isSome (z := z) d.len
  cases q : (ks.zip vs).lookup z with
  | none =>
    rw [q] at e
    exact ⟨none, d.miss z q, e⟩
  | some v =>
    obtain ⟨u, h1, _⟩ := d.hit z v q
    rw [q] at e
    exact ⟨some u, h1, e⟩
/-- in, not in -/
theorem in_of (hK : X.K = p.K) (hw : X.w = p.w) (hu : X.A.units + 65 < cLine) (neg : Bool) : OpR X (compareOp (if neg then .NotIn else .In)) (fun x y H Q => ∃ μ S v1 v2 b, StOk p.K p.w μ H S ∧ RepEV p.K p.w μ H v1 x ∧ RepEV p.K p.w μ H v2 y ∧ inV S v1 v2 = some b ∧ Q (.bl (if neg then !b else b)) H) := by
  intro pins s σ H x y v u Q I rx ry h
  obtain ⟨μ, S, v1, v2, b, hS, r1, r2, e, q⟩ := h
  unfold inV at e
  split at e
  · rename_i z ks ds
    cases e
    have e1 := ev_str r1
    obtain ⟨a, vs, e2, dic, _⟩ := ev_dic r2
    obtain ⟨es, n, kd⟩ := dic.ex
    obtain ⟨r, h1, h2⟩ := dic_in dic z
    have kd' : KDict X.K X.w a es n := by rw [hK, hw]; exact kd
    cases neg with
    | false => exact op_in_kd kd' pins s σ H x y v u Q I rx ry ⟨z, r, e1, e2, hK ▸ h1, by rw [h2]; exact q⟩
    | true => exact op_notIn_kd kd' pins s σ H x y v u Q I rx ry ⟨z, r, e1, e2, hK ▸ h1, by rw [h2]; exact q⟩
  · rename_i z z'
    cases e
    cases neg with
    | false => exact op_in_str pins s σ H x y v u Q I rx ry ⟨_, _, ev_str r1, ev_str r2, q⟩
    | true => exact op_notin_str pins s σ H x y v u Q I rx ry ⟨_, _, ev_str r1, ev_str r2, q⟩
  · cases e1 : v1.py S with
    | none => rw [e1] at e; cases e
    | some d =>
      cases e2 : v2.seq S with
      | none => rw [e1, e2] at e; cases e
      | some ys =>
        rw [e1, e2] at e
        simp only at e
        cases e3 : D.pys ys with
        | none => rw [e3] at e; cases e
        | some qs =>
          rw [e3] at e
          simp only at e
          split at e
          · rename_i hs
            cases e
            obtain ⟨hs1, hs2⟩ := Bool.and_eq_true_iff.mp hs
            obtain ⟨a, vs, rfl, h1, g1⟩ := seq_at hS r2 e2
            have dx := evpy_at hS r1 e1
            have dys := pys_at ys vs qs g1 e3
            rw [← hK] at dx dys h1
            obtain ⟨as, rd⟩ := Dp.reads I d x v dx rx
            have hd := SeqAt.canLay_of_shaped hs1
            have hz : PyData.canLayAll0 qs = true := by
              have := SeqAt.canLay_of_shaped hs2
              simpa only [PyData.canLay0] using this
            have hn : PyData.depthAll qs ≤ 63 := by
              have := SeqAt.depth_of_shaped hs2
              simp only [PyData.depth] at this
              omega
            have room : X.A.units + 1 + min (PyData.depthAll qs) d.depth < cLine := by
              have := Nat.min_le_left (PyData.depthAll qs) d.depth
              omega
            have ru : u = .ref a := ry
            subst ru
            rcases h1 with h1 | h1
            · obtain ⟨bs, rc⟩ := Dp.reads I (.list qs) (.ref a) (.ref a) (.lst h1 dys) rfl
              cases neg with
              | false => exact SeqAt.in_list_reads rc rd hz hd room ⟨.bl _, H, I, rfl, q⟩
              | true => exact SeqAt.notIn_list_reads rc rd hz hd room ⟨.bl _, H, I, rfl, q⟩
            · obtain ⟨bs, rc⟩ := Dp.reads I (.tuple qs) (.ref a) (.ref a) (.tup h1 dys) rfl
              cases neg with
              | false => exact SeqAt.in_tuple_reads rc rd hz hd room ⟨.bl _, H, I, rfl, q⟩
              | true => exact SeqAt.notIn_tuple_reads rc rd hz hd room ⟨.bl _, H, I, rfl, q⟩
          · cases e
/-- is, is not, of None and the truth values -/
theorem is_of (neg : Bool) : OpR X (compareOp (if neg then .IsNot else .Is)) (fun x y H Q => ∃ μ v1 v2 b, RepEV p.K p.w μ H v1 x ∧ RepEV p.K p.w μ H v2 y ∧ isV v1 v2 = some b ∧ Q (.bl (if neg then !b else b)) H) := by
  intro pins s σ H x y v u Q I rx ry h
  obtain ⟨μ, v1, v2, b, r1, r2, e, q⟩ := h
  unfold isV at e
  split at e
  · rename_i a c
    cases e
    have e1 := ev_bl r1
    have e2 := ev_bl r2
    have d : decide (a = c) = (a == c) := by cases a <;> cases c <;> rfl
    cases neg with
    | false => exact op_isBl pins s σ H x y v u Q I rx ry ⟨_, _, e1, e2, by rw [d]; exact q⟩
    | true => exact op_notBl pins s σ H x y v u Q I rx ry ⟨_, _, e1, e2, by rw [d]; exact q⟩
  · cases e
    have e2 := ev_non r2
    have d : decide (x = .non) = decide (v1 = .d .non) := by
      by_cases z : v1 = .d .non
      · subst z
        rw [decide_eq_true rfl, decide_eq_true (ev_non r1)]
      · rw [decide_eq_false z]
        refine decide_eq_false fun w => z ?_
        subst w
        cases v1 with
        | own xs => obtain ⟨a, vs, h1, _⟩ := r1; cases h1
        | brw xs => obtain ⟨a, vs, h1, _⟩ := r1; cases h1
        | d y =>
          have r1' : Rep p.K p.w μ H y .non := r1
          unfold Rep at r1'
          cases y with
          | non => rfl
          | bl _ => cases r1'
          | int _ => cases r1'
          | str _ => cases r1'
          | glo _ => cases r1'
          | tup _ => obtain ⟨_, _, h1, _⟩ := r1'; cases h1
          | lst _ => obtain ⟨_, _, h1, _⟩ := r1'; cases h1
          | dic _ _ => obtain ⟨_, _, h1, _⟩ := r1'; cases h1
          | ref _ => obtain ⟨_, h1, _⟩ := r1'; cases h1
    cases neg with
    | false => exact op_isN pins s σ H x y v u Q I rx ry ⟨e2, by rw [d]; exact q⟩
    | true => exact op_notN pins s σ H x y v u Q I rx ry ⟨e2, by rw [d]; exact q⟩
  · rename_i v0 c hno
    cases e
    have e2 := ev_bl r2
    subst e2
    have ru : u = .bool c := ry
    subst ru
    have key : ∀ v : Value, RelV x v → plainIs v (.bool c) = true ∧ v ≠ .bool c := by
      intro v rx
      have nb : ∀ k, x ≠ .bl k := fun k z => by
        subst z
        cases v1 with
        | own xs => obtain ⟨a, vs, h1, _⟩ := r1; cases h1
        | brw xs => obtain ⟨a, vs, h1, _⟩ := r1; cases h1
        | d y =>
          have r1' : Rep p.K p.w μ H y (.bl k) := r1
          unfold Rep at r1'
          cases y with
          | non => cases r1'
          | bl j => exact hno j rfl
          | int _ => cases r1'
          | str _ => cases r1'
          | glo _ => cases r1'
          | tup _ => obtain ⟨_, _, h1, _⟩ := r1'; cases h1
          | lst _ => obtain ⟨_, _, h1, _⟩ := r1'; cases h1
          | dic _ _ => obtain ⟨_, _, h1, _⟩ := r1'; cases h1
          | ref _ => obtain ⟨_, h1, _⟩ := r1'; cases h1
      cases x with
      | non => cases (show v = Value.none from rx); exact ⟨rfl, fun z => nomatch z⟩
      | bl k => exact absurd rfl (nb k)
      | int i => obtain ⟨t, rfl⟩ := (show ∃ t, v = Value.int i t from rx); exact ⟨rfl, fun z => nomatch z⟩
      | str i => obtain ⟨t, rfl⟩ := (show ∃ t, v = Value.str i t from rx); exact ⟨rfl, fun z => nomatch z⟩
      | byt i => obtain ⟨t, rfl⟩ := (show ∃ t, v = Value.bytes i t from rx); exact ⟨rfl, fun z => nomatch z⟩
      | flt i => obtain ⟨t, rfl⟩ := (show ∃ t, v = Value.float i t from rx); exact ⟨rfl, fun z => nomatch z⟩
      | ref i => cases (show v = Value.ref i from rx); exact ⟨rfl, fun z => nomatch z⟩
      | ty i => cases (show v = Value.type i from rx); exact ⟨rfl, fun z => nomatch z⟩
    obtain ⟨k1, k2⟩ := key v rx
    cases neg with
    | false => exact wpAny_is_other k1 k2 ⟨.bl false, H, I, rfl, q⟩
    | true => exact wpAny_isNot_other k1 k2 ⟨.bl true, H, I, rfl, q⟩
  · cases e
theorem ord_of (op : CmpOp) : OpR X (compareOp op) (fun x y H Q => ∃ μ v1 v2 b, RepEV p.K p.w μ H v1 x ∧ RepEV p.K p.w μ H v2 y ∧ ordV op v1 v2 = some b ∧ Q (.bl b) H) := by
  intro pins s σ H x y v u Q I rx ry h
  obtain ⟨μ, v1, v2, b, r1, r2, e, q⟩ := h
  unfold ordV at e
  split at e <;> first | (cases e; done) | skip
  · cases e; exact op_lt pins s σ H x y v u Q I rx ry ⟨_, _, ev_int r1, ev_int r2, q⟩
  · cases e; exact op_le pins s σ H x y v u Q I rx ry ⟨_, _, ev_int r1, ev_int r2, q⟩
  · cases e; exact op_gt pins s σ H x y v u Q I rx ry ⟨_, _, ev_int r1, ev_int r2, q⟩
  · cases e; exact op_ge pins s σ H x y v u Q I rx ry ⟨_, _, ev_int r1, ev_int r2, q⟩
  · cases e; exact op_lt_str pins s σ H x y v u Q I rx ry ⟨_, _, ev_str r1, ev_str r2, q⟩
  · cases e; exact op_le_str pins s σ H x y v u Q I rx ry ⟨_, _, ev_str r1, ev_str r2, q⟩
  · cases e; exact op_gt_str pins s σ H x y v u Q I rx ry ⟨_, _, ev_str r1, ev_str r2, q⟩
  · cases e; exact op_ge_str pins s σ H x y v u Q I rx ry ⟨_, _, ev_str r1, ev_str r2, q⟩
theorem op_cmpV (hK : X.K = p.K) (hw : X.w = p.w) (hu : X.A.units + 65 < cLine) (op : CmpOp) : OpR X (compareOp op) (rCmp p op) := by
  intro pins s σ H x y v u Q I rx ry h
  obtain ⟨μ, S, v1, v2, b, hS, r1, r2, e, q⟩ := h
  cases op with
  | Eq =>
    obtain ⟨d, f, h1, h2, h3, h4, h5⟩ := eq_of hK hu I rx ry hS r1 r2 e
    exact op_eqD (by omega) pins s σ H x y v u Q I rx ry ⟨d, f, h1, h2, h3, h4, by rw [h5]; exact q⟩
  | NotEq =>
    have e' : (eqV S v1 v2).map (!·) = some b := e
    rw [Option.map_eq_some_iff] at e'
    obtain ⟨c, e1, e2⟩ := e'
    obtain ⟨d, f, h1, h2, h3, h4, h5⟩ := eq_of hK hu I rx ry hS r1 r2 e1
    exact op_neD (by omega) pins s σ H x y v u Q I rx ry ⟨d, f, h1, h2, h3, h4, by rw [h5, e2]; exact q⟩
  | In => exact in_of hK hw hu false pins s σ H x y v u Q I rx ry ⟨μ, S, v1, v2, b, hS, r1, r2, e, q⟩
  | NotIn =>
    have e' : (inV S v1 v2).map (!·) = some b := e
    rw [Option.map_eq_some_iff] at e'
    obtain ⟨c, e1, e2⟩ := e'
    exact in_of hK hw hu true pins s σ H x y v u Q I rx ry ⟨μ, S, v1, v2, c, hS, r1, r2, e1, by simpa [e2] using q⟩
  | Is => exact is_of false pins s σ H x y v u Q I rx ry ⟨μ, v1, v2, b, r1, r2, e, q⟩
  | IsNot =>
    have e' : (isV v1 v2).map (!·) = some b := e
    rw [Option.map_eq_some_iff] at e'
    obtain ⟨c, e1, e2⟩ := e'
    exact is_of true pins s σ H x y v u Q I rx ry ⟨μ, v1, v2, c, r1, r2, e1, by simpa [e2] using q⟩
  | Lt => exact ord_of .Lt pins s σ H x y v u Q I rx ry ⟨μ, v1, v2, b, r1, r2, e, q⟩
  | LtE => exact ord_of .LtE pins s σ H x y v u Q I rx ry ⟨μ, v1, v2, b, r1, r2, e, q⟩
  | Gt => exact ord_of .Gt pins s σ H x y v u Q I rx ry ⟨μ, v1, v2, b, r1, r2, e, q⟩
  | GtE => exact ord_of .GtE pins s σ H x y v u Q I rx ry ⟨μ, v1, v2, b, r1, r2, e, q⟩
end
end Pl
end

section
set_option Elab.async false
set_option linter.all false
set_option maxRecDepth 100000
/-! Operations on values, further: items, slices, truth, built-ins. -/
namespace Pl
open PySem PySem.Spec PyProof.Rows L2
section
variable {X : Cx} {p : Px} {K : PySem.W.Frag} {w : World} {μ : List Addr} {H : Hp} {S : Sto}
theorem RepL.atI {xs : List D} {vs : List V} {i : Int} {d : D} (h : RepL K w μ H xs vs) (e : L2.atI xs i = some d) : ∃ v, L2.atI vs i = some v ∧ Rep K w μ H d v := by
  unfold L2.atI at e ⊢
  rw [h.length]
  cases q : ixN xs.length i with
  | none => rw [q] at e; cases e
  | some j =>
    rw [q] at e
    exact h.get e
theorem RepL.cut {xs : List D} {vs : List V} (lo hi : Option Int) (h : RepL K w μ H xs vs) : RepL K w μ H (cut xs lo hi) (cutV vs lo hi) := by
  unfold Pl.cut cutV
  rw [h.length]
  exact (h.drop _).take _
theorem RepL.zip : ∀ {ks : List Str} {ds : List D} {vs : List V} {z : Str} {d : D}, ks.length = vs.length → RepL K w μ H ds vs → (ks.zip ds).lookup z = some d → ∃ v, (ks.zip vs).lookup z = some v ∧ Rep K w μ H d v
  | [], _, _, _, _, _, _, e => by simp at e
  | _ :: _, [], _, _, _, _, _, e => by simp at e
  | k :: ks, x :: ds, vs, z, d, hl, h, e => by
    unfold RepL at h
    obtain ⟨v, r, rfl, h1, h2⟩ := h
    rw [List.zip_cons_cons, List.lookup_cons] at e ⊢
    cases hb : z == k with
    | true =>
      rw [hb] at e
      cases e
      exact ⟨v, rfl, h1⟩
    | false =>
      rw [hb] at e
      exact RepL.zip (by simpa using hl) h2 e
theorem rep_sq {d : D} {v : V} (h : Rep K w μ H d v) : RepEV K w μ H (.d d) v := h

/-! ### a[i] -/
def rIdx (p : Px) : R2 := fun x y H Q => ∃ μ S v1 v2 d, StOk p.K p.w μ H S ∧ RepEV p.K p.w μ H v1 x ∧ RepEV p.K p.w μ H v2 y ∧ idxV S v1 v2 = some d ∧ ∀ v, Rep p.K p.w μ H d v → Q v H
theorem ix_any (hK : X.K = p.K) (hw : X.w = p.w) : IxR X (rIdx p) := by
  intro value slice pins s σ H x y v u Q I rx ry h hs
  obtain ⟨μ, S, v1, v2, d, hS, r1, r2, e, q⟩ := h
  unfold idxV at e
  split at e
  · rename_i ks ds z
    obtain ⟨a, vs, rfl, dic, g⟩ := ev_dic r1
    have e2 := ev_str r2
    subst e2
    obtain ⟨es, n, kd⟩ := dic.ex
    obtain ⟨t, h1, h2⟩ := RepL.zip dic.len g e
    obtain ⟨u0, h3, h4⟩ := dic.hit z t h1
    have kd' : KDict X.K X.w a es n := by rw [hK, hw]; exact kd
    have ra : v = .ref a := rx
    subst ra
    exact tail_any (kd_type kd' I) slot_dict_getitem.lookup (op_item_kd kd' pins s σ H (.ref a) (.str z) _ u Q I rfl ry ⟨z, u0, t, rfl, rfl, hK ▸ h3, h4, q t h2⟩) hs
  · split at e
    · rename_i z i hz
      rw [Option.map_eq_some_iff] at e
      obtain ⟨c, e, rfl⟩ := e
      exact ix_str value slice pins s σ H x y v u Q I rx ry ⟨z, i, c, ev_str r1, ev_int r2, hz, e, q _ of_str⟩ hs
    · cases e
  · rename_i i _
    cases e1 : v1.seq S with
    | none => rw [e1] at e; cases e
    | some xs =>
      rw [e1] at e
      have e' : L2.atI xs i = some d := e
      obtain ⟨a, vs, rfl, h1, g⟩ := seq_at hS r1 e1
      obtain ⟨t, h2, h3⟩ := g.atI e'
      rw [← hK] at h1
      rcases h1 with h1 | h1
      · exact ix_list value slice pins s σ H _ y v u Q I rx ry ⟨a, vs, i, t, rfl, ev_int r2, h1, h2, q t h3⟩ hs
      · exact ix_tup value slice pins s σ H _ y v u Q I rx ry ⟨a, vs, i, t, rfl, ev_int r2, h1, h2, q t h3⟩ hs
  · cases e

/-! ### a[lo:hi] -/
def rSlc (p : Px) : V → Option Int → Option Int → Hp → VK → Prop := fun x lo hi H Q => ∃ σ μ S v1, StOk p.K p.w μ H S ∧ RepEV p.K p.w μ H v1 x ∧ Wp p σ (RE p) μ H (optR (sliceV S v1 lo hi) S) Q
theorem sl_any (hK : X.K = p.K) : SlR X (rSlc p) := by
  intro pins s σ H x v vl vu lo hi sl Q I rx hs pl pu h
  obtain ⟨σ0, μ, S, v1, hS, r1, h⟩ := h
  obtain ⟨ev, e, h⟩ := h.opt
  unfold sliceV at e
  split at e
  · rename_i xs
    cases e
    obtain ⟨a, vs, rfl, h1, g⟩ := ev_tup r1
    rw [← hK] at h1
    refine sl_tupA pins s σ H _ v vl vu lo hi sl Q I rx hs pl pu ⟨a, vs, rfl, h1, fun z => ?_, fun _ q hq => h.newT hS (g.cut lo hi) hq⟩
    refine h.data hS ?_
    have gc := g.cut lo hi
    have ec : cutV vs lo hi = vs := by
      unfold cutV
      rw [z.1, z.2, List.drop_zero, Nat.sub_zero, List.take_length]
    rw [ec] at gc
    unfold Rep
    exact ⟨a, vs, rfl, hK ▸ h1, gc⟩
  · rw [Option.map_eq_some_iff] at e
    obtain ⟨xs, e1, rfl⟩ := e
    obtain ⟨a, vs, rfl, h1, g⟩ := items_at hS r1 e1
    rw [← hK] at h1
    exact sl_list pins s σ H _ v vl vu lo hi sl Q I rx hs pl pu ⟨a, vs, rfl, sql_of h1, fun q hq => h.newL hS (g.cut lo hi) hq⟩

/-! ### truth -/
theorem tru_at {v : EV} {u : V} {b : Bool} (hS : StOk K w μ H S) (r : RepEV K w μ H v u) (e : truV S v = some b) : TruV K u H b := by
  unfold truV at e
  split at e
  · cases e; rw [ev_non r]; rfl
  · cases e; rw [ev_bl r]; rfl
  · cases e; rw [ev_int r]; rfl
  · split at e
    · rename_i hz
      cases e
      rw [ev_str r]
      exact ⟨hz, rfl⟩
    · cases e
  · rw [Option.map_eq_some_iff] at e
    obtain ⟨xs, e1, rfl⟩ := e
    obtain ⟨a, vs, rfl, h1, g⟩ := seq_at hS r e1
    have ee : (!xs.isEmpty) = !vs.isEmpty := by
      have := g.length
      cases xs <;> cases vs <;> simp_all
    rcases h1 with h1 | h1
    · exact .inl ⟨vs, h1, ee⟩
    · exact .inr (.inl ⟨vs, h1, ee⟩)

/-! ### isinstance -/
theorem ty_at {v : EV} {u : V} {t : String} (hS : StOk K w μ H S) (r : RepEV K w μ H v u) (e : tyD v = some t) : TyX K H u (.type t) := by
  cases v with
  | own xs =>
    cases e
    obtain ⟨a, vs, rfl, h1, _⟩ := r
    exact .base (.lst h1)
  | brw xs =>
    cases e
    obtain ⟨a, vs, rfl, h1, _⟩ := r
    exact .base (.lst h1)
  | d x =>
    cases x with
    | non => cases e; rw [ev_non r]; exact .base .non
    | bl b => cases e; rw [ev_bl r]; exact .base (.bl b)
    | int b => cases e; rw [ev_int r]; exact .base (.int b)
    | str b => cases e; rw [ev_str r]; exact .base (.str b)
    | tup xs =>
      cases e
      obtain ⟨a, vs, rfl, h1, _⟩ := ev_tup r
      rcases h1 with (h1 | ⟨o, h1⟩) | ⟨o, its, n, h1, h2, _⟩
      · exact .base (.tup h1)
      · exact .fTuple h1
      · exact .kTuple h1 h2
    | lst xs =>
      cases e
      obtain ⟨a, vs, rfl, h1, _⟩ := ev_lst r
      rcases h1 with ⟨o, h1⟩ | ⟨its, n, h1, _⟩
      · exact .base (.frz h1)
      · exact .kList h1 rfl
    | dic ks ds =>
      cases e
      obtain ⟨a, vs, rfl, h1, _⟩ := ev_dic r
      obtain ⟨es, n, kd⟩ := h1.ex
      exact .kDict kd.at_ rfl
    | ref n =>
      cases e
      obtain ⟨a, rfl, h1⟩ := ev_ref r
      obtain ⟨xs, vs, _, h2, _⟩ := hS.ob n a h1
      exact .base (.lst h2)
    | glo x => cases e

/-! ### built-in functions of one value -/
/-- one argument -/
def r1V (p : Px) (f : Sto → EV → Option EV) : List V → Hp → VK → Prop := fun xs H Q => ∃ σ μ S v x, xs = [x] ∧ StOk p.K p.w μ H S ∧ RepEV p.K p.w μ H v x ∧ Wp p σ (RE p) μ H (optR (f S v) S) Q
theorem rep_bls : ∀ {xs : List D} {vs : List V} {bs : List Bool}, RepL K w μ H xs vs → blsOf xs = some bs → vs = bs.map V.bl
  | [], vs, bs, h, e => by
    unfold RepL at h
    cases e
    exact h
  | .bl b :: xs, vs, bs, h, e => by
    unfold RepL at h
    obtain ⟨v, r, rfl, h1, h2⟩ := h
    have e' : (blsOf xs).map (b :: ·) = some bs := e
    rw [Option.map_eq_some_iff] at e'
    obtain ⟨cs, e1, rfl⟩ := e'
    rw [rep_bl h1, rep_bls h2 e1]
    rfl
  | .non :: _, _, _, _, e => by cases e
  | .int _ :: _, _, _, _, e => by cases e
  | .str _ :: _, _, _, _, e => by cases e
  | .tup _ :: _, _, _, _, e => by cases e
  | .lst _ :: _, _, _, _, e => by cases e
  | .dic _ _ :: _, _, _, _, e => by cases e
  | .ref _ :: _, _, _, _, e => by cases e
  | .glo _ :: _, _, _, _, e => by cases e
theorem rep_strs : ∀ {xs : List D} {vs : List V} {bs : List Str}, RepL K w μ H xs vs → strsOf xs = some bs → vs = bs.map V.str
  | [], vs, bs, h, e => by
    unfold RepL at h
    cases e
    exact h
  | .str b :: xs, vs, bs, h, e => by
    unfold RepL at h
    obtain ⟨v, r, rfl, h1, h2⟩ := h
    have e' : (strsOf xs).map (b :: ·) = some bs := e
    rw [Option.map_eq_some_iff] at e'
    obtain ⟨cs, e1, rfl⟩ := e'
    rw [rep_str h1, rep_strs h2 e1]
    rfl
  | .non :: _, _, _, _, e => by cases e
  | .int _ :: _, _, _, _, e => by cases e
  | .bl _ :: _, _, _, _, e => by cases e
  | .tup _ :: _, _, _, _, e => by cases e
  | .lst _ :: _, _, _, _, e => by cases e
  | .dic _ _ :: _, _, _, _, e => by cases e
  | .ref _ :: _, _, _, _, e => by cases e
  | .glo _ :: _, _, _, _, e => by cases e
theorem cv_len (hK : X.K = p.K) : CallR X (.builtin "len") (r1V p fun S x => (lenV S x).map fun n => .d (.int n)) := by
  intro pins s σ H xs us Q I r h
  obtain ⟨σ0, μ, S, v, x, rfl, hS, r1, h⟩ := h
  obtain ⟨ev, e, h⟩ := h.opt
  rw [Option.map_eq_some_iff] at e
  obtain ⟨n, e, rfl⟩ := e
  have q := h.data hS of_int
  unfold lenV at e
  split at e
  · split at e
    · rename_i hz
      cases e
      exact call_len_str pins s σ H _ us Q I r ⟨_, by rw [ev_str r1], hz, q⟩
    · cases e
  · rw [Option.map_eq_some_iff] at e
    obtain ⟨ys, e1, rfl⟩ := e
    obtain ⟨a, vs, rfl, h1, g⟩ := seq_at hS r1 e1
    rw [← hK] at h1
    exact call_len_seq pins s σ H _ us Q I r ⟨a, vs, rfl, h1, by rw [g.length]; exact q⟩
theorem cv_abs : CallR X (.builtin "abs") (r1V p fun S x => bi1V .abs S x) := by
  intro pins s σ H xs us Q I r h
  obtain ⟨σ0, μ, S, v, x, rfl, hS, r1, h⟩ := h
  obtain ⟨ev, e, h⟩ := h.opt
  unfold bi1V at e
  simp only at e
  split at e
  · cases e
    exact call_abs pins s σ H _ us Q I r ⟨_, by rw [ev_int r1], h.data hS of_int⟩
  · cases e
theorem cv_int : CallR X (.type "int") (r1V p fun S x => bi1V .int S x) := by
  intro pins s σ H xs us Q I r h
  obtain ⟨σ0, μ, S, v, x, rfl, hS, r1, h⟩ := h
  obtain ⟨ev, e, h⟩ := h.opt
  unfold bi1V at e
  simp only at e
  split at e
  · cases e
    exact call_int1 pins s σ H _ us Q I r (.inl ⟨_, by rw [ev_int r1], h.data hS of_int⟩)
  · cases e
    exact call_int1 pins s σ H _ us Q I r (.inr ⟨_, by rw [ev_bl r1], h.data hS of_int⟩)
  · cases e
theorem cv_all (hK : X.K = p.K) (hc : X.calm = true) : CallR X (.builtin "all") (r1V p fun S x => bi1V .all S x) := by
  intro pins s σ H xs us Q I r h
  obtain ⟨σ0, μ, S, v, x, rfl, hS, r1, h⟩ := h
  obtain ⟨ev, e, h⟩ := h.opt
  unfold bi1V at e
  simp only [Option.map_eq_some_iff, Option.bind_eq_some_iff] at e
  obtain ⟨bs, ⟨ys, e1, e2⟩, rfl⟩ := e
  obtain ⟨a, vs, rfl, h1, g⟩ := items_at hS r1 e1
  rw [← hK] at h1
  exact cr_all hc pins s σ H _ us Q I r ⟨a, bs, rfl, rep_bls g e2 ▸ sql_of h1, h.data hS of_bl⟩
theorem cv_any (hK : X.K = p.K) (hc : X.calm = true) : CallR X (.builtin "any") (r1V p fun S x => bi1V .any S x) := by
  intro pins s σ H xs us Q I r h
  obtain ⟨σ0, μ, S, v, x, rfl, hS, r1, h⟩ := h
  obtain ⟨ev, e, h⟩ := h.opt
  unfold bi1V at e
  simp only [Option.map_eq_some_iff, Option.bind_eq_some_iff] at e
  obtain ⟨bs, ⟨ys, e1, e2⟩, rfl⟩ := e
  obtain ⟨a, vs, rfl, h1, g⟩ := items_at hS r1 e1
  rw [← hK] at h1
  exact cr_any hc pins s σ H _ us Q I r ⟨a, bs, rfl, rep_bls g e2 ▸ sql_of h1, h.data hS of_bl⟩
theorem cv_tuple (hK : X.K = p.K) : CallR X (.type "tuple") (r1V p fun S x => bi1V .tuple S x) := by
  intro pins s σ H xs us Q I r h
  obtain ⟨σ0, μ, S, v, x, rfl, hS, r1, h⟩ := h
  obtain ⟨ev, e, h⟩ := h.opt
  unfold bi1V at e
  simp only [Option.map_eq_some_iff] at e
  obtain ⟨ys, e1, rfl⟩ := e
  obtain ⟨a, vs, rfl, h1, g⟩ := seq_at hS r1 e1
  rcases h1 with h1 | h1
  · exact call_tuple_of pins s σ H _ us Q I r ⟨a, vs, rfl, .inl ⟨hK ▸ h1, fun q hq => h.newT hS g hq⟩⟩
  · refine call_tuple_of pins s σ H _ us Q I r ⟨a, vs, rfl, .inr ⟨hK ▸ h1, h.data hS ?_⟩⟩
    unfold Rep
    exact ⟨a, vs, rfl, h1, g⟩
theorem cv_list (hK : X.K = p.K) : CallR X (.type "list") (r1V p fun S x => bi1V .list S x) := by
  intro pins s σ H xs us Q I r h
  obtain ⟨σ0, μ, S, v, x, rfl, hS, r1, h⟩ := h
  obtain ⟨ev, e, h⟩ := h.opt
  unfold bi1V at e
  simp only [Option.map_eq_some_iff] at e
  obtain ⟨ys, e1, rfl⟩ := e
  obtain ⟨a, vs, rfl, h1, g⟩ := seq_at hS r1 e1
  rw [← hK] at h1
  exact call_list_of pins s σ H _ us Q I r ⟨a, vs, rfl, h1, fun q hq => h.newL hS g hq⟩
/-- repr, where no repr is at work around -/
theorem cv_repr (hK : X.K = p.K) (hg : X.A.guards = some []) (hu : X.A.units + 65 < cLine) : CallR X (.builtin "repr") (r1V p fun S x => bi1V .repr S x) := by
  intro pins s σ H xs us Q I r h
  obtain ⟨σ0, μ, S, v, x, rfl, hS, r1, h⟩ := h
  obtain ⟨ev, e, h⟩ := h.opt
  unfold bi1V at e
  simp only [Option.map_eq_some_iff] at e
  obtain ⟨z, e, rfl⟩ := e
  have q := h.data hS of_str
  unfold reprV at e
  cases e1 : v.py S with
  | none => rw [e1] at e; cases e
  | some d =>
    rw [e1] at e
    simp only at e
    split at e
    · rename_i hs
      cases e
      simp only [Bool.and_eq_true, decide_eq_true_eq, Bool.not_eq_true'] at hs
      obtain ⟨⟨⟨hs1, hs2⟩, hs3⟩, hs4⟩ := hs
      have dx := evpy_at hS r1 e1
      rw [← hK] at dx
      obtain ⟨u, rfl, ru⟩ := vals1 r
      obtain ⟨as, rd⟩ := Dp.reads I d x u dx ru
      by_cases hx : ∃ a, u = .ref a
      · obtain ⟨a, rfl⟩ := hx
        exact repr_of_reads' rd hs1 (fun y => by rw [hs4] at y; cases y) hg (by omega) (fun _ _ z => z) (fun h' t tk k => ⟨.str _, H, I.kept (h' := h') (t' := tk) k, ⟨t, rfl⟩, q⟩) hs3
      · cases dx with
        | non =>
          have ru : u = Value.none := ru
          subst ru
          exact PySem.P.repr_of_none ⟨.str _, H, I.tok _, ⟨_, rfl⟩, by simpa only [PyData.shown] using q⟩
        | bl b =>
          have ru : u = Value.bool b := ru
          subst ru
          exact PySem.P.repr_of_bool ⟨.str _, H, I.tok _, ⟨_, rfl⟩, by simpa only [PyData.shown] using q⟩
        | int i =>
          obtain ⟨t, rfl⟩ := (show ∃ t, u = Value.int i t from ru)
          exact PySem.P.repr_of_int (by simpa [PyData.showable] using hs1) ⟨.str _, H, I.tok _, ⟨_, rfl⟩, by simpa only [PyData.shown] using q⟩
        | str i =>
          obtain ⟨t, rfl⟩ := (show ∃ t, u = Value.str i t from ru)
          exact PySem.P.repr_of_str ⟨.str _, H, I.tok _, ⟨_, rfl⟩, by simpa only [PyData.shown] using q⟩ (by simpa only [PyData.shown] using hs3)
        | lst h1 _ => exact absurd ⟨_, (show u = Value.ref _ from ru)⟩ hx
        | tup h1 _ => exact absurd ⟨_, (show u = Value.ref _ from ru)⟩ hx
    · cases e
/-- two arguments -/
def r2V (p : Px) (f : EV → EV → Option EV) : List V → Hp → VK → Prop := fun xs H Q => ∃ σ μ S v1 v2 x y, xs = [x, y] ∧ StOk p.K p.w μ H S ∧ RepEV p.K p.w μ H v1 x ∧ RepEV p.K p.w μ H v2 y ∧ Wp p σ (RE p) μ H (optR (f v1 v2) S) Q
theorem cv_max (hc : X.calm = true) : CallR X (.builtin "max") (r2V p (bi2V .max)) := by
  intro pins s σ H xs us Q I r h
  obtain ⟨σ0, μ, S, v1, v2, x, y, rfl, hS, r1, r2, h⟩ := h
  obtain ⟨ev, e, h⟩ := h.opt
  unfold bi2V at e
  split at e
  · cases e
    exact call_max2 hc pins s σ H _ us Q I r ⟨_, _, by rw [ev_int r1, ev_int r2], h.data hS of_int⟩
  · exact absurd (by assumption : BI.max = BI.min) (by decide)
  · cases e
theorem cv_min (hc : X.calm = true) : CallR X (.builtin "min") (r2V p (bi2V .min)) := by
  intro pins s σ H xs us Q I r h
  obtain ⟨σ0, μ, S, v1, v2, x, y, rfl, hS, r1, r2, h⟩ := h
  obtain ⟨ev, e, h⟩ := h.opt
  unfold bi2V at e
  split at e
  · exact absurd (by assumption : BI.min = BI.max) (by decide)
  · cases e
    exact call_min2 hc pins s σ H _ us Q I r ⟨_, _, by rw [ev_int r1, ev_int r2], h.data hS of_int⟩
  · cases e
end
end Pl
end

section
set_option Elab.async false
set_option linter.all false
set_option maxRecDepth 100000
/-! enumerate over a tuple. -/
namespace Pl
open PySem PySem.Spec PyProof.Rows L2
set_option maxHeartbeats 1000000 in
theorem enumNewB {v : Value} {o : Obj} {H : Heap → Prop} (B : Begins v o H) :
    Meets (Builtin.«enumerate.__new__» ⟨[.type "enumerate", v], []⟩) (fun _ R s => H s.heap ∧ R (.ok (.ret (.ref (s.heap.push o).objs.size)))
      { s with heap := (s.heap.push o).push { cls := .type "enumerate", data := .fields #[.none, .bool false, .ref s.heap.objs.size, rawInt 0, .none, .none] } }) :=
  .of_wp fun prog w A R s hh0 => by
    obtain ⟨hp, g, d, tk, os⟩ := s; obtain ⟨h1, h⟩ := hh0
    have hsub := sub_enumerate
    have q1 : ∀ {A' : Around} {E : Value → Shared → Prop} {Q : Value → Shared → Prop}, Q (.ref hp.objs.size) ⟨hp.push o, g, d, tk, os⟩ → wpAny (PySem.model prog w) A' (pyIter v) Q E ⟨hp, g, d, tk, os⟩ := fun q => B.iter prog w _ _ ⟨hp, g, d, tk, os⟩ _ h1 q
    wp_walk using q1
    refine wpAny_stack_any fun st => wpAny_pure ?_
    split
    · rename_i c _ _ _ _ _
      cases (c == Value.type "enumerate") <;>
      · wp_walk using q1
        exact ⟨_, rfl, h⟩
    · wp_walk using q1
      exact ⟨_, rfl, h⟩
/-- enumerate(v): its two new cells -/
theorem enumBegins {prog : Program} {w : World} {A : Around} {E : Value → Shared → Prop} {s : Shared} {v : Value} {o : Obj} {H : Heap → Prop} {Q : Value → Shared → Prop} (B : Begins v o H) (h1 : H s.heap)
    (h : ∀ h', IsEnum h' (s.heap.objs.size + 1) s.heap.objs.size 0 .none → h'.get? s.heap.objs.size = some o →
      (∀ b o, s.heap.get? b = some o → h'.get? b = some o) → Q (.ref (s.heap.objs.size + 1)) { s with heap := h' }) :
    wpAny (model prog w) A (call (.type "enumerate") [v]) Q E s := by
  refine callType_new F.called_enumerate (by decide) (F.typeCall_enumerate_1 _) (F.newCall_enumerate_1 _) (fun obj => F.args_object_init_2 obj _) F.entry_enumerate_new (enumNewB B) ⟨h1, ?_⟩
  have hz : (s.heap.push o).objs.size = s.heap.objs.size + 1 := Heap.size_push ..
  show _ ∧ _
  rw [hz]
  have he : IsEnum ((s.heap.push o).push { cls := .type "enumerate", data := .fields #[.none, .bool false, .ref s.heap.objs.size, rawInt 0, .none, .none] }) (s.heap.objs.size + 1) s.heap.objs.size 0 .none := by
    have q := Heap.get?_push_size (s.heap.push o) (o := { cls := .type "enumerate", data := .fields #[.none, .bool false, .ref s.heap.objs.size, rawInt 0, .none, .none] }) rfl
    rw [hz] at q
    exact q
  exact ⟨⟨_, he, rfl⟩, h _ he (Heap.get?_push_of_some _ (Heap.get?_push_size _ B.free)) fun b o x => Heap.get?_push_of_some _ (Heap.get?_push_of_some _ x)⟩
/-- the tuple at a, each item in a new pair -/
def Itet (K : PySem.W.Frag) (a : Addr) : It :=
  ⟨fun i H => ∃ (xs : List V) (x : V), SqT K H a xs ∧ xs[i]? = some x,
   fun i H v H' => ∃ T x, v = .ref T ∧ H T = none ∧ H' = upd H T (.tup [.int (i : Nat), x]) ∧ ∀ xs, SqT K H a xs → xs[i]? = some x,
   fun i H => ∃ xs : List V, SqT K H a xs ∧ xs.length ≤ i⟩
theorem turn_enumT {P : Program} {w : World} {K : PySem.W.Frag} {elts : List Expr} {kk : Nat} {tpos : Pos} (a e it : Addr) :
    Turn P w K (.Tuple elts kk tpos) (Itet K a) [e, it] e (fun i h => (∃ old, IsEnum h e it ((i : Nat) : Int) old) ∧ h.IsTupleIter it a i ∧ e ≠ it) where
  mem := by simp
  obj := fun i h st b hb => by
    obtain ⟨⟨old, he⟩, ⟨o, ho, hc, hd⟩, _⟩ := st
    have e' : b = e ∨ b = it := by simpa using hb
    rcases e' with z | z <;> rw [z]
    · exact ⟨_, he, fun v q => nomatch q⟩
    · exact ⟨o, ho, fun v q => by rw [hd] at q; cases q⟩
  keep := fun i h h' st k => by
    obtain ⟨⟨old, he⟩, hi, hne⟩ := st
    exact ⟨⟨old, k e (by simp) _ he⟩, hi.at fun o q => k it (by simp) o q, hne⟩
  item := by
    intro X hP hw hK hc i pins s σ H E I hf st hg
    subst hP hw hK
    obtain ⟨⟨old, he⟩, hit, hne⟩ := st
    obtain ⟨xs, x, hq, hx⟩ := hg
    obtain ⟨its, rv, p, hz⟩ := I.tuple hq
    obtain ⟨u, hu, ru⟩ := rv.get hx
    have hel : e < s.heap.objs.size := Heap.lt_size he
    have hil : it < s.heap.objs.size := by obtain ⟨_, q, _⟩ := hit; exact Heap.lt_size q
    have hat : a ≠ it := fun z => by
      obtain ⟨o, ho, hc1, hd⟩ := id hit
      obtain ⟨o2, ho2, _, n, hd2⟩ := id p
      rw [← z, ho2] at ho
      cases ho
      rw [hd2] at hd
      cases hd
    have hae : e ∉ [it, a] := fun z => by
      have z' : e = it ∨ e = a := by simpa using z
      rcases z' with z | z
      · exact hne z
      · obtain ⟨o2, ho2, _, n, hd2⟩ := id p
        rw [← z, he] at ho2
        cases ho2
        cases hd2
    have hh : X.A.in1.handled = none := I.ok.hd hc
    have hlt : i < its.length := by
      have e1 := (List.getElem?_eq_some_iff.mp hu).1
      exact e1
    refine wpAny_pyNext_enum_itemD (Draws.tuple hh it a hat its.toArray) he ⟨hit, p⟩ (by simpa using hlt) hne hae fun y h' tk hy ho hst' hT hsz hk => ?_
    have ey : y = u := by
      have hy' : its[i]? = some y := by simpa using hy
      rw [hu] at hy'
      exact (Option.some.inj hy').symm
    subst ey
    refine ⟨_, rfl, wpAny_letOwnedTupleGo_enum (s := { s with heap := h', toks := tk + 1 }) ho fun h'' he' sb => ?_⟩
    have hT2 : h''.get? s.heap.objs.size = some { cls := .type "tuple", data := .seq #[.int i tk, y] } := (sb.2 _ (Nat.ne_of_gt hel)).trans hT
    have new : ObjOk X.prog X.w (upd H s.heap.objs.size (.tup [.int (i : Nat), x])) h'' s.heap.objs.size (.tup [.int (i : Nat), x]) := ⟨by show 2 ≤ sizeLine; decide, [.int i tk, y], .cons ⟨_, rfl⟩ (.cons ru .nil), ⟨_, hT2, rfl, _, rfl⟩⟩
    have I1 : Inv X pins σ (upd H s.heap.objs.size (.tup [.int (i : Nat), x])) { s with heap := h'', toks := tk + 1 } :=
      I.turnedNew (ch := [e, it]) (fun b ob hb q => (sb.2 b (fun z => hb (by simp [z]))).trans (hk b ob (fun z => hb (by simp [z])) (fun z => hb (by simp [z])) q)) hf (Nat.le_refl _) new
    refine ⟨.ref s.heap.objs.size, _, I1, rfl, ⟨_, x, rfl, I.hok.fresh (Nat.le_refl _), rfl, fun ys hy => by rw [I.tuple_inj hy hq]; exact hx⟩, ⟨⟨y, ?_⟩, hst'.1.at fun o q => (sb.2 it (Ne.symm hne)).trans q, hne⟩, fun b hb => ?_⟩
    · have e1 : ((i + 1 : Nat) : Int) = (i : Int) + 1 := by omega
      rw [e1]
      exact he'
    · have hb' : b < s.heap.objs.size := by
        have e' : b = e ∨ b = it := by simpa using hb
        rcases e' with z | z <;> rw [z] <;> assumption
      rw [upd_ne (Nat.ne_of_lt hb')]
      exact (hf b hb).1
  done := by
    intro X hP hw hK hc i pins s σ H E I hf st hg
    subst hP hw hK
    obtain ⟨⟨old, he⟩, hit, hne⟩ := st
    obtain ⟨xs, hq, hx⟩ := hg
    obtain ⟨its, rv, p, hz⟩ := I.tuple hq
    obtain ⟨f0, f1, f2, f3, f4, f5⟩ := hf it (by simp)
    have hl := rv.length
    have hat : a ≠ it := fun z => by
      obtain ⟨o, ho, hc1, hd⟩ := id hit
      obtain ⟨o2, ho2, _, n, hd2⟩ := id p
      rw [← z, ho2] at ho
      cases ho
      rw [hd2] at hd
      cases hd
    have hT : s.TypeIs (.ref e) "enumerate" := ⟨_, he, rfl⟩
    unfold pyNext
    refine wpAny_bind (wpAny_attempt (wpAny_callSpecial?_slot (name := Str.ofString "__next__") hT F.slot_enumerate_next (wpAny_call_entry F.slot_enumerate_next hT F.entry_enumerate_next ?_ (F.args_enumerate_next_1 _))))
    show wpAny _ _ (field (.ref e) 2 >>= _) _ _ s
    refine wpAny_bind (wpAny_field he rfl (x := .ref it) rfl ?_)
    refine wpAny_bind (wpAny_nextOf_tuple_end (show X.A.in1.handled = none from I.ok.hd hc) hit p (by simp; omega) fun h' x he' hx' => ?_)
    obtain ⟨o, ho, hc'⟩ := hx'
    refine wpAny_bind (wpAny_isInstance (T := "StopIteration") (b := true) ⟨o, ho, hc'⟩ isSubtype_stop ?_)
    exact wpAny_pure ⟨rfl, I.turned (t' := s.toks) (fun b o hb q => he' b o hb q) f0 f1 f3 f4 f5⟩
  self := fun A i s Q E st h => wpAny_pyIter_enum st.1.choose_spec h
def iEnumT (K : PySem.W.Frag) (ta : TA) : TI := fun σ H R => ta σ H fun vs H1 => ∃ a xs, vs = [.ref a] ∧ SqT K H1 a xs ∧ R (Itet K a) H1
theorem pi_enumT {X : Cx} {e : Expr} {ta : TA} {p pos tpos : Pos} {elts : List Expr} {kk : Nat} (hg : Gl X "enumerate") (hm : X.mg "enumerate" = none) (ha : PA X [e] ta) (hs : starEach [e] X.env = [(false, eval e X.env)]) :
    PI X (.Tuple elts kk tpos) (.Call (.Name "enumerate" p) [e] [] pos) (iEnumT X.K ta) := by
  refine ⟨fun pins s σ H R I h => ?_⟩
  refine Call_ (ld_blt I hg hm boot_enumerate (PyProof.Rows.callWith_type1 (thn (ha.run pos pins s σ H _ I h) fun us s1 ⟨vs, H1, I1, r1, q1⟩ => ?_) hs rfl))
  obtain ⟨a, xs, ex, hq, q⟩ := q1
  subst ex
  cases r1 with
  | cons r rr =>
    cases rr
    cases r
    obtain ⟨its, rv, p', hz⟩ := I1.tuple hq
    refine enumBegins (begins_tuple a its.toArray) p' fun h' he hit hk => wpAny_pyIter_enum he ?_
    have I2 : Inv X pins σ H1 { s1 with heap := h' } := I1.kept (t' := s1.toks) hk
    refine ⟨s1.heap.objs.size + 1, [s1.heap.objs.size + 1, s1.heap.objs.size], _, _, H1, rfl, I2, turn_enumT a (s1.heap.objs.size + 1) s1.heap.objs.size, ⟨⟨.none, he⟩, ⟨_, hit, rfl, rfl⟩, Nat.succ_ne_self _⟩, fun b hb => ?_, q⟩
    have hle : s1.heap.objs.size ≤ b := by
      have e' : b = s1.heap.objs.size + 1 ∨ b = s1.heap.objs.size := by simpa using hb
      rcases e' with z | z <;> rw [z]
      · exact Nat.le_add_right _ _
      · exact Nat.le_refl _
    exact I1.fpOk hle (I1.hok.fresh hle)
end Pl
end

section
set_option Elab.async false
set_option linter.all false
set_option maxRecDepth 100000
/-! Expressions: what the interpreter says, the machine does. -/
namespace Pl
open PySem PySem.Spec PyProof.Rows L2

section
variable {p : Px} {σ : L2.St} {μ0 μ μ1 : List Addr} {H0 H H1 : Hp} {S S1 : Sto} {ρ : Env}
/-- .. with the old start kept -/
theorem Wp.bindO {α β α' β' : Type} {R : Hp → α → List Addr → Hp → β → Prop} {R' : Hp → α' → List Addr → Hp → β' → Prop} {r : Res α} {f : α → Sto → Res α'} {Q : β' → Hp → Prop} (h : Wp p σ R' μ0 H0 (r.bind f) Q)
    (st : Stp μ0 H0 μ H) (hS : StOk p.K p.w μ H S) (hρ : EnvOk p.K p.w μ H ρ σ) : Wp p σ R μ H r (fun u H1 => ∃ a S1 μ1, Mid p σ ρ R μ H a S1 μ1 u H1 ∧ Wp p σ R' μ0 H0 (f a S1) Q) := by
  cases r with
  | ok a S' => exact fun u μ' H' st' hS' q => ⟨a, S', μ', ⟨st', hS', hρ.stp st' hS, q⟩, h⟩
  | exc c S' => exact fun μ' H' st' hS' => h μ' H' (st.trans hS st') hS'
  | stuck => exact h
theorem Wp.calmO {α β α' β' : Type} {R : Hp → α → List Addr → Hp → β → Prop} {R' : Hp → α' → List Addr → Hp → β' → Prop} {r : Res α} {f : α → Sto → Res α'} {Q : β' → Hp → Prop} (h : Wp p σ R' μ0 H0 (r.calm.bind f) Q)
    {σ' : L2.St} {W : WX} (st : Stp μ0 H0 μ H) (hS : StOk p.K p.w μ H S) (hρ : EnvOk p.K p.w μ H ρ σ') : Wp { p with W := W } σ' R μ H r (fun u H1 => ∃ a S1 μ1, Mid p σ' ρ R μ H a S1 μ1 u H1 ∧ Wp p σ R' μ0 H0 (f a S1) Q) := by
  cases r with
  | ok a S' => exact fun u μ' H' st' hS' q => ⟨a, S', μ', ⟨st', hS', hρ.stp st' hS, q⟩, h⟩
  | exc c S' => exact h.elim
  | stuck => exact h.elim
theorem Wp.optO {α α' β' : Type} {R' : Hp → α' → List Addr → Hp → β' → Prop} {o : Option α} {f : α → Sto → Res α'} {Q : β' → Hp → Prop} (h : Wp p σ R' μ0 H0 ((optR o S).bind f) Q) : ∃ a, o = some a ∧ Wp p σ R' μ0 H0 (f a S) Q := by
  cases o with
  | none => exact h.elim
  | some a => exact ⟨a, rfl, h⟩
end

/-! ### the readings -/
section
variable (p : Px)
/-- the state is the interpreter's -/
def At (σ : L2.St) (H : Hp) (f : Env → Sto → List Addr → Prop) : Prop := ∃ ρ S μ, StOk p.K p.w μ H S ∧ EnvOk p.K p.w μ H ρ σ ∧ f ρ S μ
def tE (e : LE) : TE := fun σ H Q => At p σ H fun ρ S μ => Wp p σ (RE p) μ H (evalE p.G p.call e ρ S) Q
def tV (e : LE) : TE := fun σ H Q => At p σ H fun ρ S μ => Wp p σ (RV p) μ H ((evalE p.G p.call e ρ S).bind fun x S => optR x.val S) Q
def tVs (es : List LE) : TA := fun σ H Q => At p σ H fun ρ S μ => Wp p σ (RVs p) μ H (evalVs p.G p.call es ρ S) Q
def tP (e : LE) : TO := fun σ H Q => At p σ H fun ρ S μ => Wp p σ RB μ H (evalP p.G p.call e ρ S) Q
def tT (e : LE) : TT := fun σ H Q => At p σ H fun ρ S μ => Wp p σ RB μ H (evalT p.G p.call e ρ S) Q
end
theorem _root_.L2.PE.mono {X : Cx} {e : Expr} {t t' : TE} (h : PE X e t) (k : ∀ σ H Q, t' σ H Q → t σ H Q) : PE X e t' := ⟨fun pins s σ H Q I q => h.run pins s σ H Q I (k _ _ _ q)⟩
theorem _root_.L2.PT.mono {X : Cx} {e : Expr} {t t' : TT} (h : PT X e t) (k : ∀ σ H Q, t' σ H Q → t σ H Q) : PT X e t' := ⟨fun pins s σ H Q I q => h.run pins s σ H Q I (k _ _ _ q)⟩
theorem _root_.L2.PW.mono {X : Cx} {e : Expr} {t t' : TT} (h : PW X e t) (k : ∀ σ H Q, t' σ H Q → t σ H Q) : PW X e t' := ⟨fun w pins s σ H Q I q => h.run w pins s σ H Q I (k _ _ _ q)⟩
theorem _root_.L2.PA.mono {X : Cx} {es : List Expr} {t t' : TA} (h : PA X es t) (k : ∀ σ H Q, t' σ H Q → t σ H Q) : PA X es t' := ⟨fun w pins s σ H Q I q => h.run w pins s σ H Q I (k _ _ _ q)⟩
theorem _root_.L2.PO.mono {X : Cx} {e : Option Expr} {t t' : TO} (h : PO X e t) (k : ∀ σ H Q, t' σ H Q → t σ H Q) : PO X e t' := ⟨fun pins s σ H Q I q => h.run pins s σ H Q I (k _ _ _ q)⟩

section
variable {X : Cx} {p : Px} {a b c : Expr} {la lb lc : LE} {pos : Pos}
theorem Mid.go {α β : Type} {R : Hp → α → List Addr → Hp → β → Prop} {σ : L2.St} {ρ : Env} {μ μ1 : List Addr} {H H1 : Hp} {x : α} {S1 : Sto} {u : β} (m : Mid p σ ρ R μ H x S1 μ1 u H1) {f : Env → Sto → List Addr → Prop} (h : f ρ S1 μ1) : At p σ H1 f := ⟨ρ, S1, μ1, m.S, m.E, h⟩
/-- two values, then an operator -/
theorem two_E {β β' : Type} {R' : Hp → β → List Addr → Hp → β' → Prop} (late : Late R') {σ : L2.St} {ρ : Env} {μ : List Addr} {H : Hp} {S : Sto} {Q : β' → Hp → Prop} {f : EV → EV → Sto → Res β} {Q2 : V → V → Hp → Prop}
    (h : Wp p σ R' μ H ((evalE p.G p.call la ρ S).bind fun x S => (evalE p.G p.call lb ρ S).bind fun y S => f x y S) Q) (hS : StOk p.K p.w μ H S) (hρ : EnvOk p.K p.w μ H ρ σ)
    (k : ∀ μ2 H2 S2 v1 v2 x y, StOk p.K p.w μ2 H2 S2 → EnvOk p.K p.w μ2 H2 ρ σ → RepEV p.K p.w μ2 H2 v1 x → RepEV p.K p.w μ2 H2 v2 y → Wp p σ R' μ2 H2 (f v1 v2 S2) Q → Q2 x y H2) :
    tE p la σ H fun x H1 => tE p lb σ H1 fun y H2 => Q2 x y H2 :=
  ⟨ρ, S, μ, hS, hρ, (h.bind late hS hρ).imp fun x H1 ⟨v1, S1, μ1, m1, h1⟩ => m1.go ((h1.bind late m1.S m1.E).imp fun y H2 ⟨v2, S2, μ2, m2, h2⟩ =>
    k μ2 H2 S2 v1 v2 x y m2.S m2.E (m1.r.1.stp m2.st m1.S) m2.r.1 h2)⟩
theorem se_var {i : Nat} {x : Str} (hN : X.N[i]? = some x) (hv : Vis X.env.scope x) (hd : (x == ("__debug__" : Str)) = false) (hcd : (x == ("__classdict__" : Str)) = false) : PE X (.Name x pos) (tE p (.var i)) := by
  refine (pe_var hN hv hd hcd).mono fun σ H Q ⟨ρ, S, μ, hS, hρ, h⟩ => ?_
  unfold evalE at h
  cases e : ρ[i]? with
  | none => rw [e] at h; exact h.elim
  | some o =>
    cases o with
    | none => rw [e] at h; exact h.elim
    | some v =>
      obtain ⟨u, e1, r⟩ := hρ.at_ i v e
      refine ⟨u, e1, ?_⟩
      cases v with
      | d d0 => rw [e] at h; exact h.data hS r
      | own xs => rw [e] at h; exact h.here hS ⟨r, fun _ e => nomatch e⟩
      | brw xs => rw [e] at h; exact h.elim
theorem se_cst {d : D} {v : V} (hp : PE X a (tC v)) (r : ∀ μ H, Rep p.K p.w μ H d v) : PE X a (tE p (.cst d)) :=
  hp.mono fun σ H Q ⟨ρ, S, μ, hS, hρ, h⟩ => Wp.data h hS (r μ H)
theorem se_glob {x : Str} {d : D} {v : V} (e : p.G.consts.lookup x = some d) (hp : PE X a (tC v)) (r : ∀ μ H, Rep p.K p.w μ H d v) : PE X a (tE p (.glob x)) :=
  hp.mono fun σ H Q ⟨ρ, S, μ, hS, hρ, h⟩ => by
    unfold evalE at h
    rw [e] at h
    exact Wp.data h hS (r μ H)
theorem se_bin (hK : X.K = p.K) (op : Operator) (ha : PE X a (tE p la)) (hb : PE X b (tE p lb)) : PE X (.BinOp a op b pos) (tE p (.bin op la lb)) :=
  (pe_op (op_binV hK op) ha hb).mono fun σ H Q ⟨ρ, S, μ, hS, hρ, h⟩ => two_E late_E (by unfold evalE at h; exact h) hS hρ fun μ2 H2 S2 v1 v2 x y s2 e2 r1 r2 q => ⟨σ, μ2, S2, v1, v2, s2, r1, r2, q⟩
theorem se_cmp (hK : X.K = p.K) (hw : X.w = p.w) (hu : X.A.units + 65 < cLine) (op : CmpOp) (hm : behindInMarks op b = false) (ha : PE X a (tE p la)) (hb : PE X b (tE p lb)) : PE X (.Compare a [op] [b] pos) (tE p (.cmp op la lb)) :=
  (pe_cmpR (op_cmpV hK hw hu op) ha hb hm).mono fun σ H Q ⟨ρ, S, μ, hS, hρ, h⟩ => two_E late_E (by unfold evalE at h; exact h) hS hρ fun μ2 H2 S2 v1 v2 x y s2 e2 r1 r2 q => by
    obtain ⟨k, e, q⟩ := q.optB
    exact ⟨μ2, S2, v1, v2, k, s2, r1, r2, e, q.data s2 of_bl⟩
theorem st_cmp (hK : X.K = p.K) (hw : X.w = p.w) (hu : X.A.units + 65 < cLine) (op : CmpOp) (hm : behindInMarks op b = false) (ha : PE X a (tE p la)) (hb : PE X b (tE p lb)) : PT X (.Compare a [op] [b] pos) (tT p (.cmp op la lb)) :=
  (pt_cmpR (op_cmpV hK hw hu op) ha hb hm).mono fun σ H Q ⟨ρ, S, μ, hS, hρ, h⟩ => two_E (R' := RB) (late_B) (by unfold evalT at h; exact h) hS hρ fun μ2 H2 S2 v1 v2 x y s2 e2 r1 r2 q => by
    obtain ⟨k, e, q⟩ := q.opt
    exact ⟨μ2, S2, v1, v2, k, s2, r1, r2, e, k, rfl, q.here s2 rfl⟩
/-- a op b op' c -/
theorem chain_E {β β' : Type} {R' : Hp → β → List Addr → Hp → β' → Prop} (late : Late R') {op op' : CmpOp} {σ : L2.St} {ρ : Env} {μ : List Addr} {H : Hp} {S : Sto} {Q : β' → Hp → Prop} {g : Bool → Sto → Res β} {Q2 : VK}
    (h : Wp p σ R' μ H ((evalE p.G p.call la ρ S).bind fun x S => (evalE p.G p.call lb ρ S).bind fun y S => (optR (cmpV op S x y) S).bind fun k S =>
      if k = true then (evalE p.G p.call lc ρ S).bind fun z S => (optR (cmpV op' S y z) S).bind g else g false S) Q) (hS : StOk p.K p.w μ H S) (hρ : EnvOk p.K p.w μ H ρ σ)
    (k : ∀ b μ2 H2 S2, StOk p.K p.w μ2 H2 S2 → Wp p σ R' μ2 H2 (g b S2) Q → Q2 (.bl b) H2) : tChain (rCmp p op) (rCmp p op') (tE p la) (tE p lb) (tE p lc) σ H Q2 := by
  refine two_E late h hS hρ fun μ2 H2 S2 v1 v2 x y s2 e2 r1 r2 q => ?_
  obtain ⟨b, e, q⟩ := q.optB
  refine ⟨μ2, S2, v1, v2, b, s2, r1, r2, e, b, rfl, ?_⟩
  cases b with
  | false => exact k false μ2 H2 S2 s2 q
  | true =>
    refine ⟨ρ, S2, μ2, s2, e2, (q.bind late s2 e2).imp fun z H3 ⟨v3, S3, μ3, m3, q3⟩ => ?_⟩
    obtain ⟨b, e, q3⟩ := q3.optB
    exact ⟨μ3, S3, v2, v3, b, m3.S, r2.stp m3.st s2, m3.r.1, e, k b μ3 H3 S3 m3.S q3⟩
theorem se_chain (hK : X.K = p.K) (hw : X.w = p.w) (hu : X.A.units + 65 < cLine) (op op' : CmpOp) (hm : lastMarks [op, op'] [b, c] = false) (ha : PE X a (tE p la)) (hb : PE X b (tE p lb)) (hc : PE X c (tE p lc)) :
    PE X (.Compare a [op, op'] [b, c] pos) (tE p (.chain op op' la lb lc)) :=
  (pe_chain (op_cmpV hK hw hu op) (op_cmpV hK hw hu op') ha hb hc hm).mono fun σ H Q ⟨ρ, S, μ, hS, hρ, h⟩ =>
    chain_E late_E (g := fun b S => .ok (.d (.bl b)) S) (by unfold evalE at h; exact h) hS hρ fun b μ2 H2 S2 s2 q => q.data s2 of_bl
theorem st_chain (hK : X.K = p.K) (hw : X.w = p.w) (hu : X.A.units + 65 < cLine) (op op' : CmpOp) (hm : lastMarks [op, op'] [b, c] = false) (ha : PE X a (tE p la)) (hb : PE X b (tE p lb)) (hc : PE X c (tE p lc)) :
    PT X (.Compare a [op, op'] [b, c] pos) (tT p (.chain op op' la lb lc)) :=
  (pt_chain (op_cmpV hK hw hu op) (op_cmpV hK hw hu op') ha hb hc hm).mono fun σ H Q ⟨ρ, S, μ, hS, hρ, h⟩ =>
    chain_E (R' := RB) late_B (g := fun b S => .ok b S) (by
      unfold evalT at h
      have e : ∀ (o : Option Bool) (S : Sto), ((optR o S).bind fun b S => Res.ok b S) = optR o S := fun o S => by cases o <;> rfl
      simp only [e]
      exact h) hS hρ fun b μ2 H2 S2 s2 q => ⟨b, rfl, q.here s2 rfl⟩
/-- a bool, then .. -/
theorem se_not (ha : PE X a (tE p la)) : PE X (.UnaryOp .Not a pos) (tE p (.not1 la)) :=
  (pe_not ha).mono fun σ H Q ⟨ρ, S, μ, hS, hρ, h⟩ => by
    unfold evalE at h
    refine ⟨ρ, S, μ, hS, hρ, (h.bind late_E hS hρ).imp fun x H1 ⟨v1, S1, μ1, m1, h1⟩ => ?_⟩
    split at h1
    · exact ⟨_, ev_bl m1.r.1, h1.data m1.S of_bl⟩
    · exact h1.elim
theorem se_and {rest : List Expr} (ha : PE X a (tE p la)) (hb : PE X (.BoolOp .And (b :: rest) pos) (tE p lb)) : PE X (.BoolOp .And (a :: b :: rest) pos) (tE p (.and2 la lb)) :=
  (pe_and ha hb).mono fun σ H Q ⟨ρ, S, μ, hS, hρ, h⟩ => by
    unfold evalE at h
    refine ⟨ρ, S, μ, hS, hρ, (h.bind late_E hS hρ).imp fun x H1 ⟨v1, S1, μ1, m1, h1⟩ => ?_⟩
    split at h1
    · exact ⟨true, ev_bl m1.r.1, m1.go h1⟩
    · exact ⟨false, ev_bl m1.r.1, h1.data m1.S of_bl⟩
    · exact h1.elim
theorem se_or {rest : List Expr} (ha : PE X a (tE p la)) (hb : PE X (.BoolOp .Or (b :: rest) pos) (tE p lb)) : PE X (.BoolOp .Or (a :: b :: rest) pos) (tE p (.or2 la lb)) :=
  (pe_or ha hb).mono fun σ H Q ⟨ρ, S, μ, hS, hρ, h⟩ => by
    unfold evalE at h
    refine ⟨ρ, S, μ, hS, hρ, (h.bind late_E hS hρ).imp fun x H1 ⟨v1, S1, μ1, m1, h1⟩ => ?_⟩
    split at h1
    · exact ⟨true, ev_bl m1.r.1, h1.data m1.S of_bl⟩
    · exact ⟨false, ev_bl m1.r.1, m1.go h1⟩
    · exact h1.elim
theorem se_one {op : PySem.BoolOp} (ha : PE X a (tE p la)) : PE X (.BoolOp op [a] pos) (tE p (.one la)) :=
  (pe_one ha).mono fun σ H Q ⟨ρ, S, μ, hS, hρ, h⟩ => ⟨ρ, S, μ, hS, hρ, by unfold evalE at h; exact h⟩
theorem st_not (ha : PT X a (tT p la)) : PT X (.UnaryOp .Not a pos) (tT p (.not1 la)) :=
  (pt_not ha).mono fun σ H Q ⟨ρ, S, μ, hS, hρ, h⟩ => by
    unfold evalT at h
    refine ⟨ρ, S, μ, hS, hρ, (h.bind (R := RB) late_B hS hρ).imp fun x H1 ⟨v1, S1, μ1, m1, h1⟩ => ?_⟩
    have e : x = v1 := m1.r
    subst e
    exact h1.here m1.S rfl
theorem sw_and {rest : List Expr} (ha : PT X a (tT p la)) (hb : PW X (.BoolOp .And (b :: rest) pos) (tT p lb)) : PW X (.BoolOp .And (a :: b :: rest) pos) (tT p (.and2 la lb)) :=
  (pw_and ha hb).mono fun σ H Q ⟨ρ, S, μ, hS, hρ, h⟩ => by
    unfold evalT at h
    refine ⟨ρ, S, μ, hS, hρ, (h.bind (R := RB) late_B hS hρ).imp fun x H1 ⟨v1, S1, μ1, m1, h1⟩ => ?_⟩
    have e : x = v1 := m1.r
    subst e
    cases x with
    | true => exact m1.go h1
    | false => exact h1.here m1.S rfl
theorem sw_or {rest : List Expr} (ha : PT X a (tT p la)) (hb : PW X (.BoolOp .Or (b :: rest) pos) (tT p lb)) : PW X (.BoolOp .Or (a :: b :: rest) pos) (tT p (.or2 la lb)) :=
  (pw_or ha hb).mono fun σ H Q ⟨ρ, S, μ, hS, hρ, h⟩ => by
    unfold evalT at h
    refine ⟨ρ, S, μ, hS, hρ, (h.bind (R := RB) late_B hS hρ).imp fun x H1 ⟨v1, S1, μ1, m1, h1⟩ => ?_⟩
    have e : x = v1 := m1.r
    subst e
    cases x with
    | true => exact h1.here m1.S rfl
    | false => exact m1.go h1
theorem sw_one {op : PySem.BoolOp} (ha : PT X a (tT p la)) : PW X (.BoolOp op [a] pos) (tT p (.one la)) :=
  PW.mono (t := tT p la) (by cases op with | And => exact pw_and1 ha | Or => exact pw_or1 ha) fun σ H Q ⟨ρ, S, μ, hS, hρ, h⟩ => ⟨ρ, S, μ, hS, hρ, by unfold evalT at h; exact h⟩
theorem st_tru (hK : X.K = p.K) (ha : PE X a (tE p la)) (he : ∀ whole, isTrue a X.env whole = (do let v ← whole; standAt a.pos; holding [v] (truthy v))) : PT X a (tT p (.tru la)) :=
  (pt_truth ha he).mono fun σ H Q ⟨ρ, S, μ, hS, hρ, h⟩ => by
    unfold evalT at h
    refine ⟨ρ, S, μ, hS, hρ, (h.bind late_B hS hρ).imp fun x H1 ⟨v1, S1, μ1, m1, h1⟩ => ?_⟩
    obtain ⟨k, e, h1⟩ := h1.opt
    exact ⟨k, hK ▸ tru_at m1.S m1.r.1 e, h1.here m1.S rfl⟩
theorem se_ite (hc : PT X c (tT p lc)) (ha : PE X a (tE p la)) (hb : PE X b (tE p lb)) : PE X (.IfExp c a b pos) (tE p (.ite lc la lb)) :=
  (pe_ifExp hc ha hb).mono fun σ H Q ⟨ρ, S, μ, hS, hρ, h⟩ => by
    unfold evalE at h
    refine ⟨ρ, S, μ, hS, hρ, (h.bind (R := RB) late_E hS hρ).imp fun x H1 ⟨v1, S1, μ1, m1, h1⟩ => ?_⟩
    have e : x = v1 := m1.r
    subst e
    cases x with
    | true => exact m1.go h1
    | false => exact m1.go h1
theorem se_neg (ha : PE X a (tE p la)) : PE X (.UnaryOp .USub a pos) (tE p (.neg la)) :=
  (pe_un un_neg ha).mono fun σ H Q ⟨ρ, S, μ, hS, hρ, h⟩ => by
    unfold evalE at h
    refine ⟨ρ, S, μ, hS, hρ, (h.bind late_E hS hρ).imp fun x H1 ⟨v1, S1, μ1, m1, h1⟩ => ?_⟩
    split at h1
    · exact ⟨_, ev_int m1.r.1, h1.data m1.S of_int⟩
    · exact h1.elim
theorem se_idx (hK : X.K = p.K) (hw : X.w = p.w) (ha : PE X a (tE p la)) (hb : PE X b (tE p lb)) (hs : PlainIx b) : PE X (.Subscript a b pos) (tE p (.idx la lb)) :=
  (pe_ix (ix_any hK hw) ha hb hs).mono fun σ H Q ⟨ρ, S, μ, hS, hρ, h⟩ => two_E late_E (by unfold evalE at h; exact h) hS hρ fun μ2 H2 S2 v1 v2 x y s2 e2 r1 r2 q => by
    obtain ⟨d, e, q⟩ := q.optB
    exact ⟨μ2, S2, v1, v2, d, s2, r1, r2, e, fun v r => q.data s2 r⟩
theorem sp_none : PO X none (tP p .nopart) := po_none.mono fun σ H Q ⟨ρ, S, μ, hS, hρ, h⟩ => by unfold evalP at h; exact h.here hS rfl
theorem sp_some (ha : PE X a (tE p la)) : PO X (some a) (tP p (.pt la)) :=
  (po_some ha).mono fun σ H Q ⟨ρ, S, μ, hS, hρ, h⟩ => by
    unfold evalP at h
    refine ⟨ρ, S, μ, hS, hρ, (h.bind late_B hS hρ).imp fun x H1 ⟨v1, S1, μ1, m1, h1⟩ => ?_⟩
    split at h1
    · exact ⟨_, ev_int m1.r.1, h1.here m1.S rfl⟩
    · exact h1.elim
theorem se_slice {lo hi : Option Expr} {l1 l2 : LE} {p2 : Pos} (hK : X.K = p.K) (ha : PE X a (tE p la)) (h1 : PO X lo (tP p l1)) (h2 : PO X hi (tP p l2)) : PE X (.Subscript a (.Slice lo hi none p2) pos) (tE p (.slice la l1 l2)) :=
  (pe_slice (sl_any hK) ha h1 h2).mono fun σ H Q ⟨ρ, S, μ, hS, hρ, h⟩ => by
    unfold evalE at h
    refine ⟨ρ, S, μ, hS, hρ, (h.bind late_E hS hρ).imp fun x H1 ⟨v1, S1, μ1, m1, h1⟩ => m1.go ((h1.bind (R := RB) late_E m1.S m1.E).imp fun y H2 ⟨v2, S2, μ2, m2, h2⟩ => m2.go ((h2.bind (R := RB) late_E m2.S m2.E).imp fun z H3 ⟨v3, S3, μ3, m3, h3⟩ => ?_))⟩
    have e : y = v2 := m2.r
    subst e
    have e : z = v3 := m3.r
    subst e
    exact ⟨σ, μ3, S3, v1, m3.S, (m1.r.1.stp m2.st m1.S).stp m3.st m2.S, h3⟩

/-! ### lists of values -/
theorem sv_val (ha : PE X a (tE p la)) : PE X a (tV p la) :=
  (pe_frz ha).mono fun σ H Q ⟨ρ, S, μ, hS, hρ, h⟩ => by
    refine ⟨ρ, S, μ, hS, hρ, (h.bindO Stp.refl hS hρ).imp fun x H1 ⟨v1, S1, μ1, m1, h1⟩ => ?_⟩
    obtain ⟨d, e, h1⟩ := h1.opt
    cases v1 with
    | d d0 =>
      cases e
      exact .inl (h1 x μ1 H1 m1.st m1.S m1.r.1)
    | brw xs => cases e
    | own xs =>
      cases e
      obtain ⟨a, vs, rfl, h2, h3, h4⟩ := m1.r.1
      have ha := m1.r.2 xs rfl a rfl
      refine .inr ⟨a, vs, rfl, h2, fun o => h1 (.ref a) μ1 _ ?_ (m1.S.frz h2 h4) ?_⟩
      · exact ⟨m1.st.pre, fun b o e m => by rw [upd_ne (fun z => by rw [z, ha] at e; cases e)]; exact m1.st.keep b o e m, m1.st.new⟩
      · show Rep p.K p.w μ1 _ (.lst xs) (.ref a)
        unfold Rep
        exact ⟨a, vs, rfl, .inl ⟨o, upd_same⟩, RepL.mono (List.prefix_refl _) (kp_frz h2) xs vs h3⟩
theorem sa_nil : PA X [] (tVs p []) := pa_nil.mono fun σ H Q ⟨ρ, S, μ, hS, hρ, h⟩ => by unfold evalVs at h; exact h.here hS RepL.nil
theorem sa_cons {es : List Expr} {les : List LE} (ha : PE X a (tE p la)) (hr : PA X es (tVs p les)) (hs : starEach (a :: es) X.env = (false, eval a X.env) :: starEach es X.env) : PA X (a :: es) (tVs p (la :: les)) :=
  (pa_cons (sv_val ha) hr hs).mono fun σ H Q ⟨ρ, S, μ, hS, hρ, h⟩ => by
    unfold evalVs at h
    rw [show ((evalE p.G p.call la ρ S).bind fun x S => (optR x.val S).bind fun x S => (evalVs p.G p.call les ρ S).bind fun xs S => Res.ok (x :: xs) S) = ((evalE p.G p.call la ρ S).bind fun x S => optR x.val S).bind fun x S => (evalVs p.G p.call les ρ S).bind fun xs S => Res.ok (x :: xs) S from (Res.bind_assoc _ _ _).symm] at h
    exact ⟨ρ, S, μ, hS, hρ, (h.bind (R := RV p) late_Vs hS hρ).imp fun x H1 ⟨v1, S1, μ1, m1, h1⟩ => m1.go ((h1.bind (R := RVs p) late_Vs m1.S m1.E).imp fun xs H2 ⟨v2, S2, μ2, m2, h2⟩ =>
      h2.here m2.S (RepL.cons (Rep.mono m2.st.pre (m2.st.kp m1.S) _ _ m1.r) m2.r))⟩
theorem se_tup {es : List Expr} {les : List LE} {k : Nat} (h : PA X es (tVs p les)) : PE X (.Tuple es k pos) (tE p (.tup les)) :=
  (pe_tup h).mono fun σ H Q ⟨ρ, S, μ, hS, hρ, h⟩ => by
    unfold evalE at h
    refine ⟨ρ, S, μ, hS, hρ, (h.bind (R := RVs p) late_E hS hρ).imp fun xs H1 ⟨v1, S1, μ1, m1, h1⟩ => ?_⟩
    split at h1
    · rename_i hz
      exact ⟨by rw [m1.r.length]; exact hz, fun q hq => h1.newT m1.S m1.r hq⟩
    · exact h1.elim
theorem se_lst {es : List Expr} {les : List LE} (h : PA X es (tVs p les)) : PE X (.List es pos) (tE p (.lst les)) :=
  (pe_lst h).mono fun σ H Q ⟨ρ, S, μ, hS, hρ, h⟩ => by
    unfold evalE at h
    refine ⟨ρ, S, μ, hS, hρ, (h.bind (R := RVs p) late_E hS hρ).imp fun xs H1 ⟨v1, S1, μ1, m1, h1⟩ => ?_⟩
    split at h1
    · rename_i hz
      exact ⟨by rw [m1.r.length]; exact hz, fun q hq => h1.newL m1.S m1.r hq⟩
    · exact h1.elim
theorem se_share (ha : PE X a (tE p la)) : PE X a (tE p (.share la)) :=
  ha.mono fun σ H Q ⟨ρ, S, μ, hS, hρ, h⟩ => by
    unfold evalE at h
    refine ⟨ρ, S, μ, hS, hρ, (h.bindO Stp.refl hS hρ).imp fun x H1 ⟨v1, S1, μ1, m1, h1⟩ => ?_⟩
    cases v1 with
    | d d0 => exact h1.elim
    | brw xs => exact h1.elim
    | own xs =>
      obtain ⟨a, vs, rfl, h2, h3, h4⟩ := m1.r.1
      have ha := m1.r.2 xs rfl a rfl
      have px : μ1 <+: μ1 ++ [a] := List.prefix_append _ _
      refine h1 (.ref a) (μ1 ++ [a]) H1 ⟨m1.st.pre.trans px, m1.st.keep, fun b m => ?_⟩ ⟨?_, ?_, fun n b e => ?_⟩ ⟨?_, fun _ e => nomatch e⟩
      · rcases List.mem_append.mp m with m | m
        · exact m1.st.new b m
        · rw [List.mem_singleton.mp m]; exact .inr ha
      · rw [List.length_append, List.length_append, m1.S.len]; rfl
      · refine List.nodup_append.mpr ⟨m1.S.nd, by simp, fun b hb c hc => ?_⟩
        rw [List.mem_singleton.mp hc]
        exact fun z => h4 (z ▸ hb)
      · have kk : Kp H1 H1 := fun _ _ e _ => e
        by_cases hn : n < μ1.length
        · rw [List.getElem?_append_left hn] at e
          obtain ⟨ys, us, e1, e2, e3⟩ := m1.S.ob n b e
          refine ⟨ys, us, ?_, e2, RepL.mono px kk _ _ e3⟩
          rw [List.getElem?_append_left (by rw [← m1.S.len]; exact hn)]
          exact e1
        · rw [List.getElem?_append_right (by omega)] at e
          have hz : n - μ1.length = 0 := by
            cases q : n - μ1.length with
            | zero => rfl
            | succ j => rw [q] at e; simp at e
          rw [hz] at e
          have eb : a = b := by simpa using e
          subst eb
          refine ⟨xs, vs, ?_, h2, RepL.mono px kk _ _ h3⟩
          rw [List.getElem?_append_right (by rw [← m1.S.len]; omega), ← m1.S.len, hz]
          rfl
      · show Rep p.K p.w (μ1 ++ [a]) H1 (.ref S1.length) (.ref a)
        unfold Rep
        exact ⟨a, rfl, by rw [← m1.S.len]; simp⟩
/-! ### built-in functions -/
theorem sb_1 {f : BI} {r : List V → Hp → VK → Prop} (hp : ∀ t : TA, PA X [a] t → PE X b (tCB r t)) (hr : ∀ xs H Q, r1V p (fun S x => bi1V f S x) xs H Q → r xs H Q) (ha : PE X a (tE p la)) (hs : starEach [a] X.env = (false, eval a X.env) :: starEach [] X.env) : PE X b (tE p (.bi1 f la)) :=
  (hp _ (pa_cons ha pa_nil hs)).mono fun σ H Q ⟨ρ, S, μ, hS, hρ, h⟩ => by
    unfold evalE at h
    exact ⟨ρ, S, μ, hS, hρ, (h.bind late_E hS hρ).imp fun x H1 ⟨v1, S1, μ1, m1, h1⟩ => hr _ _ _ ⟨σ, μ1, S1, v1, x, rfl, m1.S, m1.r.1, h1⟩⟩
theorem sb_2 {f : BI} {r : List V → Hp → VK → Prop} (hp : ∀ t : TA, PA X [a, b] t → PE X c (tCB r t)) (hr : ∀ xs H Q, r2V p (bi2V f) xs H Q → r xs H Q) (ha : PE X a (tE p la)) (hb : PE X b (tE p lb)) (hs : starEach [a, b] X.env = (false, eval a X.env) :: starEach [b] X.env) (hs2 : starEach [b] X.env = (false, eval b X.env) :: starEach [] X.env) : PE X c (tE p (.bi2 f la lb)) :=
  (hp _ (pa_cons ha (pa_cons hb pa_nil hs2) hs)).mono fun σ H Q ⟨ρ, S, μ, hS, hρ, h⟩ =>
    two_E late_E (by unfold evalE at h; exact h) hS hρ fun μ2 H2 S2 v1 v2 x y s2 e2 r1 r2 q => hr _ _ _ ⟨σ, μ2, S2, v1, v2, x, y, rfl, s2, r1, r2, q⟩
theorem se_join {apos : Pos} (hK : X.K = p.K) (ha : PE X a (tE p la)) (hb : PE X b (tE p lb)) (hs : starEach [b] X.env = [(false, eval b X.env)]) (hbase : attributeBase a "join" X.env (eval a X.env) = eval a X.env) (hline : (apos.endLine == pos.line) = true) :
    PE X (.Call (.Attribute a "join" apos) [b] [] pos) (tE p (.join la lb)) :=
  (pe_join ha hb hs hbase hline).mono fun σ H Q ⟨ρ, S, μ, hS, hρ, h⟩ => by
    unfold evalE at h
    refine ⟨ρ, S, μ, hS, hρ, (h.bind late_E hS hρ).imp fun x H1 ⟨v1, S1, μ1, m1, h1⟩ => ?_⟩
    split at h1
    · rename_i z
      have e1 := ev_str m1.r.1
      refine ⟨⟨z, e1⟩, m1.go ((h1.bind late_E m1.S m1.E).imp fun y H2 ⟨v2, S2, μ2, m2, h2⟩ => ?_)⟩
      obtain ⟨ev, e, h2⟩ := h2.opt
      unfold joinV at e
      simp only [Option.bind_eq_some_iff] at e
      obtain ⟨ys, ⟨xs, e2, e3⟩, e⟩ := e
      split at e
      · rename_i hz
        cases e
        obtain ⟨a, vs, rfl, h4, g⟩ := seq_at m2.S m2.r.1 e2
        rw [rep_strs g e3, ← hK] at h4
        exact ⟨z, a, ys, e1, rfl, h4, hz, h2.data m2.S of_str⟩
      · cases e
    · exact h1.elim
theorem se_isi {t : String} {nm tpos : Pos} {x : Str} (hK : X.K = p.K) (hg : Gl X "isinstance") (hm : X.mg "isinstance" = none) (hb : PE X (.Name x tpos) (tC (.ty t))) (hs : starEach [a, .Name x tpos] X.env = (false, eval a X.env) :: starEach [.Name x tpos] X.env) (ha : PE X a (tE p la)) :
    PE X (.Call (.Name "isinstance" nm) [a, .Name x tpos] [] pos) (tE p (.isi la t)) :=
  (pe_callB call_isi hg hm (by rfl) (pa_cons ha (pa_cons hb pa_nil) hs) (he := hs) (hpl := by rfl)).mono fun σ H Q ⟨ρ, S, μ, hS, hρ, h⟩ => by
    unfold evalE at h
    refine ⟨ρ, S, μ, hS, hρ, (h.bind late_E hS hρ).imp fun x H1 ⟨v1, S1, μ1, m1, h1⟩ => ?_⟩
    obtain ⟨k, e, h1⟩ := h1.optB
    unfold isiV at e
    simp only [Option.bind_eq_some_iff] at e
    obtain ⟨u, e1, e2⟩ := e
    exact ⟨x, .ty t, .type u, .type t, k, rfl, .ty t, hK ▸ ty_at m1.S m1.r.1 e1, kit_ty e2, h1.data m1.S of_bl⟩
end
end Pl
end

section
set_option Elab.async false
set_option linter.all false
set_option maxRecDepth 100000
/-! What loops and comprehensions walk; comprehensions. -/
namespace Pl
open PySem PySem.Spec PyProof.Rows L2

/-- the iterator hands out the items, wherever the list that they stand in stays -/
structure Serves (p : Px) (Rl : List Addr → Hp → Prop) (xs : List D) (src : Option Nat) (J : It) : Prop where
  go : ∀ i d μ H S, Rl μ H → StOk p.K p.w μ H S → stays S xs src = true → xs[i]? = some d → J.go i H
  yld : ∀ i d μ H S x H', Rl μ H → StOk p.K p.w μ H S → stays S xs src = true → xs[i]? = some d → J.yld i H x H' → Stp μ H μ H' ∧ StOk p.K p.w μ H' S ∧ Rep p.K p.w μ H' d x
  stop : ∀ μ H S, Rl μ H → StOk p.K p.w μ H S → stays S xs src = true → J.stop xs.length H
def RI (p : Px) : Hp → Its → List Addr → Hp → It → Prop := fun _ its μ H J => Serves p (fun μ' H' => Stp μ H μ' H') its.1 its.2 J
/-- nothing that is not changed has changed -/
structure Kx (μ : List Addr) (H : Hp) (μ' : List Addr) (H' : Hp) : Prop where
  pre : μ <+: μ'
  kp : Kp H H'
theorem Kx.refl {μ : List Addr} {H : Hp} : Kx μ H μ H := ⟨List.prefix_refl _, fun _ _ e _ => e⟩
theorem Kp.trans {H H' H'' : Hp} (a : Kp H H') (b : Kp H' H'') : Kp H H'' := fun c o e m => b c o (a c o e m) m
theorem Kx.trans {μ μ' μ'' : List Addr} {H H' H'' : Hp} (a : Kx μ H μ' H') (b : Kx μ' H' μ'' H'') : Kx μ H μ'' H'' := ⟨a.pre.trans b.pre, a.kp.trans b.kp⟩
theorem Stp.kx {K : PySem.W.Frag} {w : World} {μ μ' : List Addr} {H H' : Hp} {S : Sto} (st : Stp μ H μ' H') (h : StOk K w μ H S) : Kx μ H μ' H' := ⟨st.pre, st.kp h⟩
def RJ (p : Px) : Hp → Its → List Addr → Hp → It → Prop := fun _ its μ H J => Serves p (fun μ' H' => Kx μ H μ' H') its.1 its.2 J
theorem late_J {p : Px} : Late (RJ p) := fun _ _ _ _ _ _ _ r => r
theorem late_I {p : Px} : Late (RI p) := fun _ _ _ _ _ _ _ r => r
def tJ (p : Px) (e : LE) : TI := fun σ H R => At p σ H fun ρ S μ => Wp p σ (RJ p) μ H (evalJ p.G p.call e ρ S) R
def tI (p : Px) (e : LE) : TI := fun σ H R => At p σ H fun ρ S μ => Wp p σ (RI p) μ H (evalI p.G p.call e ρ S) R
theorem _root_.L2.PI.mono {X : Cx} {tg e : Expr} {t t' : TI} (h : PI X tg e t) (k : ∀ σ H Q, t' σ H Q → t σ H Q) : PI X tg e t' := ⟨fun pins s σ H Q I q => h.run pins s σ H Q I (k _ _ _ q)⟩
theorem _root_.L2.PG.mono {X : Cx} {tg : Expr} {t t' : TG} (h : PG X tg t) (k : ∀ v σ H Q, t' v σ H Q → t v σ H Q) : PG X tg t' := ⟨fun pins s σ H v u Q I r q => h.run pins s σ H v u Q I r (k _ _ _ _ q)⟩
theorem _root_.L2.PGs.mono {X : Cx} {tg : List Expr} {t t' : TGs} (h : PGs X tg t) (k : ∀ v σ H Q, t' v σ H Q → t v σ H Q) : PGs X tg t' := ⟨fun pins s σ H v u Q I r q => h.run pins s σ H v u Q I r (k _ _ _ _ q)⟩

section
variable {X : Cx} {p : Px} {tg a : Expr} {la : LE}
def iSeq (K : PySem.W.Frag) (te : TE) : TI := fun σ H R => te σ H fun x H1 => (∃ a xs, x = .ref a ∧ SqL K H1 a xs ∧ R (Itl K a) H1) ∨ (∃ a xs, x = .ref a ∧ SqT K H1 a xs ∧ R (Itt K a) H1) ∨ ∃ z, x = .str z ∧ R (L2.Its z) H1
theorem pi_seq {te : TE} (he : PE X a te) : PI X tg a (iSeq X.K te) := by
  refine ⟨fun pins s σ H R I h => thn (he.run pins s σ H _ I h) fun v s1 ⟨x, H1, I1, r1, q1⟩ => ?_⟩
  rcases q1 with ⟨a, xs, ex, hq, q⟩ | ⟨a, xs, ex, hq, q⟩ | ⟨z, ex, q⟩
  · subst ex
    cases r1
    obtain ⟨its, rv, pl, hz⟩ := I1.list hq
    exact wpAny_pyIter_list pl.isList (pi_one (tk := s1.toks) I1 _ (turn_list a _) ⟨_, Heap.get?_push_size _ rfl, rfl, rfl⟩ q)
  · subst ex
    cases r1
    obtain ⟨its, rv, pl, hz⟩ := I1.tuple hq
    exact wpAny_pyIter_tuple (show s1.heap.IsTuple a its.toArray from pl) (pi_one (tk := s1.toks) I1 _ (turn_tuple a _) ⟨_, Heap.get?_push_size _ rfl, rfl, rfl⟩ q)
  · subst ex
    obtain ⟨t, rfl⟩ := r1
    cases ha : z.cps.all (· < 128)
    · exact wpAny_pyIter_wide ha (pi_one (tk := s1.toks) I1 _ (turn_str _ z t "str_iterator" (.inr rfl)) ⟨_, Heap.get?_push_size _ rfl, rfl, rfl⟩ q)
    · exact wpAny_pyIter_ascii ha (pi_one (tk := s1.toks) I1 _ (turn_str _ z t "str_ascii_iterator" (.inl rfl)) ⟨_, Heap.get?_push_size _ rfl, rfl, rfl⟩ q)
variable {Rl : List Addr → Hp → Prop} {xs : List D} {src : Option Nat} {A : Addr}
/-- the list that is walked, at each later state -/
abbrev KeyL (p : Px) (Rl : List Addr → Hp → Prop) (xs : List D) (src : Option Nat) (A : Addr) : Prop := ∀ μ H S, Rl μ H → StOk p.K p.w μ H S → stays S xs src = true → ∃ vs, SqL p.K H A vs ∧ RepL p.K p.w μ H xs vs
abbrev KeyT (p : Px) (Rl : List Addr → Hp → Prop) (xs : List D) (src : Option Nat) (A : Addr) : Prop := ∀ μ H S, Rl μ H → StOk p.K p.w μ H S → stays S xs src = true → ∃ vs, SqT p.K H A vs ∧ RepL p.K p.w μ H xs vs
theorem sv_l (k : KeyL p Rl xs src A) : Serves p Rl xs src (Itl p.K A) where
  go := fun i d μ H S st hS hs e => by
    obtain ⟨vs, h1, g⟩ := k μ H S st hS hs
    obtain ⟨v, ev, _⟩ := g.get e
    exact ⟨vs, v, h1, ev⟩
  yld := fun i d μ H S x H' st hS hs e y => by
    obtain ⟨vs, h1, g⟩ := k μ H S st hS hs
    obtain ⟨v, ev, r⟩ := g.get e
    obtain ⟨rfl, q⟩ := y
    have z := q vs h1
    rw [ev] at z
    cases z
    exact ⟨Stp.refl, hS, r⟩
  stop := fun μ H S st hS hs => by
    obtain ⟨vs, h1, g⟩ := k μ H S st hS hs
    exact ⟨vs, h1, by rw [g.length]; exact Nat.le_refl _⟩
theorem sv_t (k : KeyT p Rl xs src A) : Serves p Rl xs src (Itt p.K A) where
  go := fun i d μ H S st hS hs e => by
    obtain ⟨vs, h1, g⟩ := k μ H S st hS hs
    obtain ⟨v, ev, _⟩ := g.get e
    exact ⟨vs, v, h1, ev⟩
  yld := fun i d μ H S x H' st hS hs e y => by
    obtain ⟨vs, h1, g⟩ := k μ H S st hS hs
    obtain ⟨v, ev, r⟩ := g.get e
    obtain ⟨rfl, q⟩ := y
    have z := q vs h1
    rw [ev] at z
    cases z
    exact ⟨Stp.refl, hS, r⟩
  stop := fun μ H S st hS hs => by
    obtain ⟨vs, h1, g⟩ := k μ H S st hS hs
    exact ⟨vs, h1, by rw [g.length]; exact Nat.le_refl _⟩
theorem enumD_length (xs : List D) : (enumD xs).length = xs.length := by unfold enumD; simp
theorem enumD_get {xs : List D} {i : Nat} {d : D} (e : (enumD xs)[i]? = some d) : ∃ x, xs[i]? = some x ∧ d = .tup [.int (i : Nat), x] := by
  unfold enumD at e
  simp only [List.getElem?_map, List.getElem?_zipIdx, Option.map_map, Option.map_eq_some_iff] at e
  obtain ⟨x, e1, e2⟩ := e
  exact ⟨x, e1, by rw [← e2]; simp⟩
theorem stays_enum {S : Sto} (hs : stays S (enumD xs) none = true) : stays S xs none = true := rfl
theorem laid_pair {K : PySem.W.Frag} {w : World} {μ : List Addr} {H : Hp} {S : Sto} {T : Addr} {i : Nat} {x : D} {v : V} (hS : StOk K w μ H S) (hT : H T = none) (r : Rep K w μ H x v) :
    Stp μ H μ (upd H T (.tup [.int (i : Nat), v])) ∧ StOk K w μ (upd H T (.tup [.int (i : Nat), v])) S ∧ Rep K w μ (upd H T (.tup [.int (i : Nat), v])) (.tup [.int (i : Nat), x]) (.ref T) := by
  have st := Stp.laid (o := .tup [.int (i : Nat), v]) hS hT
  refine ⟨st, hS.laid hT, ?_⟩
  unfold Rep
  exact ⟨T, _, rfl, SqT.of upd_same, RepL.cons of_int (RepL.one (Rep.mono st.pre (st.kp hS) _ _ r))⟩
theorem sv_el {S1 : Sto} (k : ∀ μ H S, Rl μ H → StOk p.K p.w μ H S → ∃ vs, SqL p.K H A vs ∧ RepL p.K p.w μ H xs vs) : Serves p Rl (enumD xs) none (Ite p.K A) where
  go := fun i d μ H S st hS hs e => by
    obtain ⟨vs, h1, g⟩ := k μ H S st hS
    obtain ⟨x, e1, rfl⟩ := enumD_get e
    obtain ⟨v, ev, _⟩ := g.get e1
    exact ⟨vs, v, h1, ev⟩
  yld := fun i d μ H S x H' st hS hs e y => by
    obtain ⟨vs, h1, g⟩ := k μ H S st hS
    obtain ⟨z, e1, rfl⟩ := enumD_get e
    obtain ⟨v, ev, r⟩ := g.get e1
    obtain ⟨T, u, rfl, hT, rfl, q⟩ := y
    have z := q vs h1
    rw [ev] at z
    cases z
    exact laid_pair hS hT r
  stop := fun μ H S st hS hs => by
    obtain ⟨vs, h1, g⟩ := k μ H S st hS
    exact ⟨vs, h1, by rw [g.length, enumD_length]; exact Nat.le_refl _⟩
theorem sv_et {S1 : Sto} (k : ∀ μ H S, Rl μ H → StOk p.K p.w μ H S → ∃ vs, SqT p.K H A vs ∧ RepL p.K p.w μ H xs vs) : Serves p Rl (enumD xs) none (Itet p.K A) where
  go := fun i d μ H S st hS hs e => by
    obtain ⟨vs, h1, g⟩ := k μ H S st hS
    obtain ⟨x, e1, rfl⟩ := enumD_get e
    obtain ⟨v, ev, _⟩ := g.get e1
    exact ⟨vs, v, h1, ev⟩
  yld := fun i d μ H S x H' st hS hs e y => by
    obtain ⟨vs, h1, g⟩ := k μ H S st hS
    obtain ⟨z, e1, rfl⟩ := enumD_get e
    obtain ⟨v, ev, r⟩ := g.get e1
    obtain ⟨T, u, rfl, hT, rfl, q⟩ := y
    have z := q vs h1
    rw [ev] at z
    cases z
    exact laid_pair hS hT r
  stop := fun μ H S st hS hs => by
    obtain ⟨vs, h1, g⟩ := k μ H S st hS
    exact ⟨vs, h1, by rw [g.length, enumD_length]; exact Nat.le_refl _⟩
theorem sv_s {z : Str} : Serves p Rl (z.cps.toList.map fun c => .str ⟨#[c]⟩) none (L2.Its z) where
  go := fun i d μ H S st hS hs e => by
    simp only [List.getElem?_map, Option.map_eq_some_iff] at e
    obtain ⟨c, e, _⟩ := e
    have := (List.getElem?_eq_some_iff.mp e).1
    show i < z.cps.size
    simpa using this
  yld := fun i d μ H S x H' st hS hs e y => by
    simp only [List.getElem?_map, Option.map_eq_some_iff] at e
    obtain ⟨c, e, rfl⟩ := e
    obtain ⟨rfl, c', e', rfl⟩ := y
    have e2 : z.cps[i]? = some c := by simpa using e
    rw [e2] at e'
    cases e'
    exact ⟨Stp.refl, hS, of_str⟩
  stop := fun μ H S st hS hs => by
    show z.cps.size ≤ _
    simp
theorem sv_r {lo : Int} {n : Nat} : Serves p Rl (rngD lo n) none (Itr lo n) where
  go := fun i d μ H S st hS hs e => by
    have := (List.getElem?_eq_some_iff.mp e).1
    unfold rngD at this
    show i < n
    simpa using this
  yld := fun i d μ H S x H' st hS hs e y => by
    have hi := (List.getElem?_eq_some_iff.mp e).1
    unfold rngD at e hi
    simp only [List.length_map, List.length_range] at hi
    simp only [List.getElem?_map, List.getElem?_range hi, Option.map_some, Option.some.injEq] at e
    subst e
    obtain ⟨rfl, rfl⟩ := y
    exact ⟨Stp.refl, hS, of_int⟩
  stop := fun μ H S st hS hs => by
    show n ≤ _
    unfold rngD
    simp
/-- the list of a value, at each later state -/
theorem key_of {v : EV} {u : V} {H : Hp} {μ : List Addr} {S : Sto} {xs : List D} {src : Option Nat} (hS : StOk p.K p.w μ H S) (r : RepEV p.K p.w μ H v u) (e : itsV S v = some (xs, src)) :
    (∃ A, u = .ref A ∧ (∃ vs, SqL p.K H A vs) ∧ KeyL p (fun μ' H' => Stp μ H μ' H') xs src A) ∨ (∃ A, u = .ref A ∧ (∃ vs, SqT p.K H A vs) ∧ KeyT p (fun μ' H' => Stp μ H μ' H') xs src A) ∨ ∃ z, u = .str z ∧ xs = (z.cps.toList.map fun c => .str ⟨#[c]⟩) ∧ src = none := by
  have own : ∀ {ys : List D} {a : Addr} {vs : List V}, H a = some (.lst vs) → RepL p.K p.w μ H ys vs → a ∉ μ → KeyL p (fun μ' H' => Stp μ H μ' H') ys none a := fun h2 h3 h4 μ' H' S' st hS' _ =>
    ⟨_, SqL.of (st.keep _ _ h2 h4), RepL.mono st.pre (st.kp hS) _ _ h3⟩
  cases v with
  | own ys =>
    cases e
    obtain ⟨a, vs, rfl, h2, h3, h4⟩ := r
    exact .inl ⟨a, rfl, ⟨vs, SqL.of h2⟩, own h2 h3 h4⟩
  | brw ys =>
    cases e
    obtain ⟨a, vs, rfl, h2, h3, h4⟩ := r
    exact .inl ⟨a, rfl, ⟨vs, SqL.of h2⟩, own h2 h3 h4⟩
  | d x =>
    cases x with
    | str z =>
      cases e
      exact .inr (.inr ⟨z, ev_str r, rfl, rfl⟩)
    | tup ys =>
      cases e
      obtain ⟨a, vs, rfl, h2, h3⟩ := ev_tup r
      exact .inr (.inl ⟨a, rfl, ⟨vs, h2⟩, fun μ' H' S' st hS' _ => ⟨vs, (st.kp hS).t h2, RepL.mono st.pre (st.kp hS) _ _ h3⟩⟩)
    | lst ys =>
      cases e
      obtain ⟨a, vs, rfl, h2, h3⟩ := ev_lst r
      exact .inl ⟨a, rfl, ⟨vs, h2.l⟩, fun μ' H' S' st hS' _ => ⟨vs, ((st.kp hS).f h2).l, RepL.mono st.pre (st.kp hS) _ _ h3⟩⟩
    | ref n =>
      obtain ⟨a, rfl, h2⟩ := ev_ref r
      obtain ⟨ys, vs, h3, h4, h5⟩ := hS.ob n a h2
      have e' : (match S[n]? with | some (.lst xs) => some (xs, some n) | none => none) = some (xs, src) := e
      rw [h3] at e'
      cases e'
      refine .inl ⟨a, rfl, ⟨vs, SqL.of h4⟩, fun μ' H' S' st hS' hs => ?_⟩
      obtain ⟨zs, us, h6, h7, h8⟩ := hS'.ob n a (pre_get st.pre h2)
      have hs' : S'[n]? = some (.lst xs) := of_decide_eq_true hs
      rw [hs'] at h6
      cases h6
      exact ⟨us, SqL.of h7, h8⟩
    | _ => cases e
/-- .. of data: whatever lists are changed -/
theorem key_ofK {x : D} {u : V} {H : Hp} {μ : List Addr} {S : Sto} {xs : List D} {src : Option Nat} (hS : StOk p.K p.w μ H S) (r : Rep p.K p.w μ H x u) (e : itsV S (.d x) = some (xs, src)) :
    (∃ A, u = .ref A ∧ (∃ vs, SqL p.K H A vs) ∧ KeyL p (fun μ' H' => Kx μ H μ' H') xs src A) ∨ (∃ A, u = .ref A ∧ (∃ vs, SqT p.K H A vs) ∧ KeyT p (fun μ' H' => Kx μ H μ' H') xs src A) ∨ ∃ z, u = .str z ∧ xs = (z.cps.toList.map fun c => .str ⟨#[c]⟩) ∧ src = none := by
  cases x with
  | str z =>
    cases e
    exact .inr (.inr ⟨z, rep_str r, rfl, rfl⟩)
  | tup ys =>
    cases e
    obtain ⟨a, vs, rfl, h2, h3⟩ := rep_tup r
    exact .inr (.inl ⟨a, rfl, ⟨vs, h2⟩, fun μ' H' S' st hS' _ => ⟨vs, st.kp.t h2, RepL.mono st.pre st.kp _ _ h3⟩⟩)
  | lst ys =>
    cases e
    obtain ⟨a, vs, rfl, h2, h3⟩ := rep_lst r
    exact .inl ⟨a, rfl, ⟨vs, h2.l⟩, fun μ' H' S' st hS' _ => ⟨vs, (st.kp.f h2).l, RepL.mono st.pre st.kp _ _ h3⟩⟩
  | ref n =>
    obtain ⟨a, rfl, h2⟩ := rep_ref r
    obtain ⟨ys, vs, h3, h4, h5⟩ := hS.ob n a h2
    have e' : (match S[n]? with | some (.lst xs) => some (xs, some n) | none => none) = some (xs, src) := e
    rw [h3] at e'
    cases e'
    refine .inl ⟨a, rfl, ⟨vs, SqL.of h4⟩, fun μ' H' S' st hS' hs => ?_⟩
    obtain ⟨zs, us, h6, h7, h8⟩ := hS'.ob n a (pre_get st.pre h2)
    have hs' : S'[n]? = some (.lst xs) := of_decide_eq_true hs
    rw [hs'] at h6
    cases h6
    exact ⟨us, SqL.of h7, h8⟩
  | _ => cases e
theorem si_sq (hK : X.K = p.K) (ha : PE X a (tE p la)) : PI X tg a (tI p (.sq la)) :=
  (pi_seq ha).mono fun σ H R ⟨ρ, S, μ, hS, hρ, h⟩ => by
    unfold evalI at h
    refine ⟨ρ, S, μ, hS, hρ, (h.bind late_I hS hρ).imp fun x H1 ⟨v1, S1, μ1, m1, h1⟩ => ?_⟩
    obtain ⟨⟨xs, src⟩, e, h1⟩ := h1.opt
    rcases key_of m1.S m1.r.1 e with ⟨A, rfl, ⟨vs, hv⟩, k⟩ | ⟨A, rfl, ⟨vs, hv⟩, k⟩ | ⟨z, rfl, rfl, rfl⟩
    · exact .inl ⟨A, vs, rfl, hK ▸ hv, h1.here m1.S (hK ▸ sv_l k)⟩
    · exact .inr (.inl ⟨A, vs, rfl, hK ▸ hv, h1.here m1.S (hK ▸ sv_t k)⟩)
    · exact .inr (.inr ⟨z, rfl, h1.here m1.S sv_s⟩)
theorem si_rng1 {nm pos : Pos} (hg : Gl X "range") (hm : X.mg "range" = none) (hs : starEach [a] X.env = [(false, eval a X.env)]) (ha : PE X a (tE p la)) : PI X tg (.Call (.Name "range" nm) [a] [] pos) (tI p (.rng1 la)) :=
  (pi_range1 hg hm (pa_cons ha pa_nil hs) hs).mono fun σ H R ⟨ρ, S, μ, hS, hρ, h⟩ => by
    unfold evalI at h
    refine ⟨ρ, S, μ, hS, hρ, (h.bind late_I hS hρ).imp fun x H1 ⟨v1, S1, μ1, m1, h1⟩ => ?_⟩
    split at h1
    · rename_i j
      split at h1
      · rename_i hj
        exact ⟨j, by rw [ev_int m1.r.1], hj.1, hj.2, h1.here m1.S sv_r⟩
      · exact h1.elim
    · exact h1.elim
theorem si_rng2 {b : Expr} {lb : LE} {nm pos : Pos} (hg : Gl X "range") (hm : X.mg "range" = none) (hs : starEach [a, b] X.env = [(false, eval a X.env), (false, eval b X.env)]) (hs2 : starEach [b] X.env = [(false, eval b X.env)]) (ha : PE X a (tE p la)) (hb : PE X b (tE p lb)) :
    PI X tg (.Call (.Name "range" nm) [a, b] [] pos) (tI p (.rng2 la lb)) :=
  (pi_range2 hg hm (pa_cons ha (pa_cons hb pa_nil hs2) (by rw [hs, hs2])) hs hs2).mono fun σ H R ⟨ρ, S, μ, hS, hρ, h⟩ => by
    unfold evalI at h
    refine two_E late_I h hS hρ fun μ2 H2 S2 v1 v2 x y s2 e2 r1 r2 q => ?_
    split at q
    · rename_i i j
      split at q
      · rename_i hj
        exact ⟨i, j, by rw [ev_int r1, ev_int r2], hj, q.here s2 sv_r⟩
      · exact q.elim
    · exact q.elim
def iEnumA (K : PySem.W.Frag) (ta : TA) : TI := fun σ H R => ta σ H fun vs H1 => (∃ a xs, vs = [.ref a] ∧ SqL K H1 a xs ∧ R (Ite K a) H1) ∨ ∃ a xs, vs = [.ref a] ∧ SqT K H1 a xs ∧ R (Itet K a) H1
theorem pi_enumA {e : Expr} {ta : TA} {pp pos tpos : Pos} {elts : List Expr} {kk : Nat} (hg : Gl X "enumerate") (hm : X.mg "enumerate" = none) (ha : PA X [e] ta) (hs : starEach [e] X.env = [(false, eval e X.env)]) :
    PI X (.Tuple elts kk tpos) (.Call (.Name "enumerate" pp) [e] [] pos) (iEnumA X.K ta) := by
  refine ⟨fun pins s σ H R I h => ?_⟩
  refine Call_ (ld_blt I hg hm boot_enumerate (PyProof.Rows.callWith_type1 (thn (ha.run pos pins s σ H _ I h) fun us s1 ⟨vs, H1, I1, r1, q1⟩ => ?_) hs rfl))
  have fp : ∀ b ∈ [s1.heap.objs.size + 1, s1.heap.objs.size], FpOk X pins H1 b := fun b hb => by
    have hle : s1.heap.objs.size ≤ b := by
      have e' : b = s1.heap.objs.size + 1 ∨ b = s1.heap.objs.size := by simpa using hb
      rcases e' with z | z <;> rw [z]
      · exact Nat.le_add_right _ _
      · exact Nat.le_refl _
    exact I1.fpOk hle (I1.hok.fresh hle)
  rcases q1 with ⟨a, xs, ex, hq, q⟩ | ⟨a, xs, ex, hq, q⟩ <;> subst ex
  · obtain ⟨its, rv, p', hz⟩ := I1.list hq
    cases r1 with
    | cons r rr =>
      cases rr
      cases r
      refine call_enumerate_list p'.isList fun h' he hit hsz hk => wpAny_pyIter_enum he ?_
      exact ⟨s1.heap.objs.size + 1, [s1.heap.objs.size + 1, s1.heap.objs.size], _, _, H1, rfl, I1.kept (t' := s1.toks) hk, turn_enum a (s1.heap.objs.size + 1) s1.heap.objs.size, ⟨⟨.none, he⟩, hit, Nat.succ_ne_self _⟩, fp, q⟩
  · obtain ⟨its, rv, p', hz⟩ := I1.tuple hq
    cases r1 with
    | cons r rr =>
      cases rr
      cases r
      refine enumBegins (begins_tuple a its.toArray) p' fun h' he hit hk => wpAny_pyIter_enum he ?_
      exact ⟨s1.heap.objs.size + 1, [s1.heap.objs.size + 1, s1.heap.objs.size], _, _, H1, rfl, I1.kept (t' := s1.toks) hk, turn_enumT a (s1.heap.objs.size + 1) s1.heap.objs.size, ⟨⟨.none, he⟩, ⟨_, hit, rfl, rfl⟩, Nat.succ_ne_self _⟩, fp, q⟩
theorem si_enum {nm pos tpos : Pos} {elts : List Expr} {kk : Nat} (hK : X.K = p.K) (hg : Gl X "enumerate") (hm : X.mg "enumerate" = none) (hs : starEach [a] X.env = [(false, eval a X.env)]) (ha : PE X a (tE p la)) :
    PI X (.Tuple elts kk tpos) (.Call (.Name "enumerate" nm) [a] [] pos) (tI p (.enum la)) :=
  (pi_enumA hg hm (pa_cons ha pa_nil hs) hs).mono fun σ H R ⟨ρ, S, μ, hS, hρ, h⟩ => by
    unfold evalI at h
    refine ⟨ρ, S, μ, hS, hρ, (h.bind late_I hS hρ).imp fun x H1 ⟨v1, S1, μ1, m1, h1⟩ => ?_⟩
    obtain ⟨xs, e, h1⟩ := h1.optB
    have e2 : itsV S1 v1 = some (xs, none) ∧ ∀ z, v1 ≠ .d (.str z) := by
      unfold enumV at e
      split at e <;> cases e <;> exact ⟨rfl, fun _ z => nomatch z⟩
    rcases key_of m1.S m1.r.1 e2.1 with ⟨A, rfl, ⟨vs, hv⟩, k⟩ | ⟨A, rfl, ⟨vs, hv⟩, k⟩ | ⟨z, rfl, e3, _⟩
    · exact .inl ⟨A, vs, rfl, hK ▸ hv, h1.here (R := RI p) m1.S (show Serves _ _ _ _ _ from hK ▸ sv_el (S1 := []) fun μ H S st hS => k μ H S st hS rfl)⟩
    · exact .inr ⟨A, vs, rfl, hK ▸ hv, h1.here (R := RI p) m1.S (show Serves _ _ _ _ _ from hK ▸ sv_et (S1 := []) fun μ H S st hS => k μ H S st hS rfl)⟩
    · exfalso
      have r := m1.r.1
      unfold enumV at e
      split at e
      · obtain ⟨_, _, q, _⟩ := ev_tup r; cases q
      · obtain ⟨_, _, q, _⟩ := ev_lst r; cases q
      · obtain ⟨_, _, q, _⟩ := r; cases q
      · obtain ⟨_, _, q, _⟩ := r; cases q
      · cases e
/-! ### in a for -/
theorem sj_sq (hK : X.K = p.K) (ha : PE X a (tE p la)) : PI X tg a (tJ p (.sq la)) :=
  (pi_seq (sv_val ha)).mono fun σ H R ⟨ρ, S, μ, hS, hρ, h⟩ => by
    unfold evalJ at h
    refine ⟨ρ, S, μ, hS, hρ, (h.bind (R := RV p) late_J hS hρ).imp fun x H1 ⟨v1, S1, μ1, m1, h1⟩ => ?_⟩
    obtain ⟨⟨xs, src⟩, e, h1⟩ := h1.opt
    rcases key_ofK m1.S m1.r e with ⟨A, rfl, ⟨vs, hv⟩, k⟩ | ⟨A, rfl, ⟨vs, hv⟩, k⟩ | ⟨z, rfl, rfl, rfl⟩
    · exact .inl ⟨A, vs, rfl, hK ▸ hv, h1.here m1.S (hK ▸ sv_l k)⟩
    · exact .inr (.inl ⟨A, vs, rfl, hK ▸ hv, h1.here m1.S (hK ▸ sv_t k)⟩)
    · exact .inr (.inr ⟨z, rfl, h1.here m1.S sv_s⟩)
theorem sj_rng1 {nm pos : Pos} (hg : Gl X "range") (hm : X.mg "range" = none) (hs : starEach [a] X.env = [(false, eval a X.env)]) (ha : PE X a (tE p la)) : PI X tg (.Call (.Name "range" nm) [a] [] pos) (tJ p (.rng1 la)) :=
  (pi_range1 hg hm (pa_cons ha pa_nil hs) hs).mono fun σ H R ⟨ρ, S, μ, hS, hρ, h⟩ => by
    unfold evalJ at h
    refine ⟨ρ, S, μ, hS, hρ, (h.bind late_J hS hρ).imp fun x H1 ⟨v1, S1, μ1, m1, h1⟩ => ?_⟩
    split at h1
    · rename_i j
      split at h1
      · rename_i hj
        exact ⟨j, by rw [ev_int m1.r.1], hj.1, hj.2, h1.here m1.S sv_r⟩
      · exact h1.elim
    · exact h1.elim
theorem sj_rng2 {b : Expr} {lb : LE} {nm pos : Pos} (hg : Gl X "range") (hm : X.mg "range" = none) (hs : starEach [a, b] X.env = [(false, eval a X.env), (false, eval b X.env)]) (hs2 : starEach [b] X.env = [(false, eval b X.env)]) (ha : PE X a (tE p la)) (hb : PE X b (tE p lb)) :
    PI X tg (.Call (.Name "range" nm) [a, b] [] pos) (tJ p (.rng2 la lb)) :=
  (pi_range2 hg hm (pa_cons ha (pa_cons hb pa_nil hs2) (by rw [hs, hs2])) hs hs2).mono fun σ H R ⟨ρ, S, μ, hS, hρ, h⟩ => by
    unfold evalJ at h
    refine two_E late_J h hS hρ fun μ2 H2 S2 v1 v2 x y s2 e2 r1 r2 q => ?_
    split at q
    · rename_i i j
      split at q
      · rename_i hj
        exact ⟨i, j, by rw [ev_int r1, ev_int r2], hj, q.here s2 sv_r⟩
      · exact q.elim
    · exact q.elim
theorem sj_enum {nm pos tpos : Pos} {elts : List Expr} {kk : Nat} (hK : X.K = p.K) (hg : Gl X "enumerate") (hm : X.mg "enumerate" = none) (hs : starEach [a] X.env = [(false, eval a X.env)]) (ha : PE X a (tE p la)) :
    PI X (.Tuple elts kk tpos) (.Call (.Name "enumerate" nm) [a] [] pos) (tJ p (.enum la)) :=
  (pi_enumA hg hm (pa_cons (sv_val ha) pa_nil hs) hs).mono fun σ H R ⟨ρ, S, μ, hS, hρ, h⟩ => by
    unfold evalJ at h
    refine ⟨ρ, S, μ, hS, hρ, (h.bind (R := RV p) late_J hS hρ).imp fun x H1 ⟨v1, S1, μ1, m1, h1⟩ => ?_⟩
    obtain ⟨xs, e, h1⟩ := h1.optB
    have e2 : itsV S1 (.d v1) = some (xs, none) ∧ ∀ z, v1 ≠ .str z := by
      cases v1 <;> cases e <;> exact ⟨rfl, fun _ z => nomatch z⟩
    rcases key_ofK m1.S m1.r e2.1 with ⟨A, rfl, ⟨vs, hv⟩, k⟩ | ⟨A, rfl, ⟨vs, hv⟩, k⟩ | ⟨z, rfl, e3, _⟩
    · exact .inl ⟨A, vs, rfl, hK ▸ hv, h1.here (R := RJ p) m1.S (show Serves _ _ _ _ _ from hK ▸ sv_el (S1 := []) fun μ H S st hS => k μ H S st hS rfl)⟩
    · exact .inr ⟨A, vs, rfl, hK ▸ hv, h1.here (R := RJ p) m1.S (show Serves _ _ _ _ _ from hK ▸ sv_et (S1 := []) fun μ H S st hS => k μ H S st hS rfl)⟩
    · exfalso
      cases v1 with
      | tup _ => obtain ⟨_, _, q, _⟩ := rep_tup m1.r; cases q
      | lst _ => obtain ⟨_, _, q, _⟩ := rep_lst m1.r; cases q
      | _ => cases e
end
end Pl
end

section
set_option Elab.async false
set_option linter.all false
set_option maxRecDepth 100000
/-! Targets; comprehensions; calls. -/
namespace Pl
open PySem PySem.Spec PyProof.Rows L2

/-! ### slots -/
theorem wipe_get (σ : L2.St) : ∀ (vs : List Nat) (j : Nat), (wipe σ vs)[j]? = if j ∈ vs then σ[j]?.map fun _ => none else σ[j]?
  | [], j => by simp [wipe]
  | v :: vs, j => by
    show ((wipe σ vs).set v none)[j]? = _
    by_cases h : v = j
    · subst h
      rw [if_pos (by simp)]
      by_cases hl : v < σ.length
      · rw [List.getElem?_set_self (by rw [wipe_length]; exact hl), List.getElem?_eq_getElem hl]
        rfl
      · rw [List.getElem?_eq_none (by rw [List.length_set, wipe_length]; omega), List.getElem?_eq_none (by omega)]
        rfl
    · rw [List.getElem?_set_ne h, wipe_get σ vs j]
      have : (j ∈ v :: vs) ↔ j ∈ vs := by simp [Ne.symm h]
      simp only [this]
theorem wipeE_length (ρ : Env) : ∀ vs : List Nat, (wipeE ρ vs).length = ρ.length
  | [] => rfl
  | v :: vs => by unfold wipeE; rw [List.length_set, wipeE_length ρ vs]
theorem wipeE_get (ρ : Env) : ∀ (vs : List Nat) (j : Nat), (wipeE ρ vs)[j]? = if j ∈ vs then ρ[j]?.map fun _ => none else ρ[j]?
  | [], j => by simp [wipeE]
  | v :: vs, j => by
    show ((wipeE ρ vs).set v none)[j]? = _
    by_cases h : v = j
    · subst h
      rw [if_pos (by simp)]
      by_cases hl : v < ρ.length
      · rw [List.getElem?_set_self (by rw [wipeE_length]; exact hl), List.getElem?_eq_getElem hl]
        rfl
      · rw [List.getElem?_eq_none (by rw [List.length_set, wipeE_length]; omega), List.getElem?_eq_none (by omega)]
        rfl
    · rw [List.getElem?_set_ne h, wipeE_get ρ vs j]
      have : (j ∈ v :: vs) ↔ j ∈ vs := by simp [Ne.symm h]
      simp only [this]
theorem wipe_set {σ : L2.St} {i : Nat} {x : Option V} {vs : List Nat} (h : i ∈ vs) : wipe (σ.set i x) vs = wipe σ vs := by
  apply List.ext_getElem?
  intro j
  rw [wipe_get, wipe_get]
  by_cases hj : j ∈ vs
  · rw [if_pos hj, if_pos hj]
    by_cases e : i = j
    · subst e
      by_cases hl : i < σ.length
      · rw [List.getElem?_set_self hl, List.getElem?_eq_getElem hl]
        rfl
      · rw [List.getElem?_eq_none (by rw [List.length_set]; omega), List.getElem?_eq_none (by omega)]
    · rw [List.getElem?_set_ne e]
  · rw [if_neg hj, if_neg hj, List.getElem?_set_ne (fun e => hj (by rw [← e]; exact h))]
theorem wipe_wipe (σ : L2.St) (vs : List Nat) : wipe (wipe σ vs) vs = wipe σ vs := by
  apply List.ext_getElem?
  intro j
  rw [wipe_get, wipe_get]
  by_cases hj : j ∈ vs
  · rw [if_pos hj, if_pos hj]
    cases σ[j]? <;> rfl
  · rw [if_neg hj]
section
variable {K : PySem.W.Frag} {w : World} {μ : List Addr} {H : Hp} {ρ : Env} {σ : L2.St}
theorem EnvOk.wipe (h : EnvOk K w μ H ρ σ) (vs : List Nat) : EnvOk K w μ H (wipeE ρ vs) (L2.wipe σ vs) := by
  have key : ∀ {j : Nat} {e : EV}, (wipeE ρ vs)[j]? = some (some e) → ρ[j]? = some (some e) ∧ j ∉ vs := fun {j e} q => by
    rw [wipeE_get] at q
    by_cases hj : j ∈ vs
    · rw [if_pos hj] at q
      cases z : ρ[j]? with
      | none => rw [z] at q; cases q
      | some o => rw [z] at q; cases q
    · rw [if_neg hj] at q
      exact ⟨q, hj⟩
  have keyS : ∀ {j : Nat} {e : V}, (L2.wipe σ vs)[j]? = some (some e) → σ[j]? = some (some e) := fun {j e} q => (wipe_some q).1
  refine ⟨by rw [wipeE_length, wipe_length]; exact h.len, fun i e q => ?_, fun i j a xs ys q1 q2 q3 q4 => h.apart i j a xs ys (key q1).1 (key q2).1 (keyS q3) (keyS q4), fun i xs q => h.nobrw i xs (key q).1⟩
  obtain ⟨q1, q2⟩ := key q
  obtain ⟨v, e1, r⟩ := h.at_ i e q1
  exact ⟨v, by rw [wipe_get, if_neg q2]; exact e1, r⟩
theorem EnvOk.set {i : Nat} {d : D} {v : V} (h : EnvOk K w μ H ρ σ) (hi : i < ρ.length) (r : Rep K w μ H d v) : EnvOk K w μ H (ρ.set i (some (.d d))) (σ.set i (some v)) := by
  have hs : i < σ.length := by rw [← h.len]; exact hi
  have key : ∀ {j : Nat} {xs : List D}, (ρ.set i (some (.d d)))[j]? = some (some (.own xs)) → ρ[j]? = some (some (.own xs)) ∧ i ≠ j := fun {j xs} q => by
    by_cases e : i = j
    · subst e
      rw [List.getElem?_set_self hi] at q
      cases q
    · rw [List.getElem?_set_ne e] at q
      exact ⟨q, e⟩
  refine ⟨by rw [List.length_set, List.length_set]; exact h.len, fun j e q => ?_, fun j k a xs ys q1 q2 q3 q4 => ?_, fun j xs q => ?_⟩
  · by_cases e' : i = j
    · subst e'
      rw [List.getElem?_set_self hi] at q
      cases q
      exact ⟨v, List.getElem?_set_self hs, r⟩
    · rw [List.getElem?_set_ne e'] at q
      obtain ⟨u, e1, r1⟩ := h.at_ j e q
      exact ⟨u, by rw [List.getElem?_set_ne e']; exact e1, r1⟩
  · obtain ⟨a1, a2⟩ := key q1
    obtain ⟨b1, b2⟩ := key q2
    rw [List.getElem?_set_ne a2] at q3
    rw [List.getElem?_set_ne b2] at q4
    exact h.apart j k a xs ys a1 b1 q3 q4
  · by_cases e' : i = j
    · subst e'
      rw [List.getElem?_set_self hi] at q
      cases q
    · rw [List.getElem?_set_ne e'] at q
      exact h.nobrw j xs q
end
def LT.ns : LT → List Nat
  | .name i => [i]
  | .names is => is
/-- slots that differ only at the names -/
def SameBut (is : List Nat) (σ σ1 : L2.St) : Prop := ∀ vs, (∀ i ∈ is, i ∈ vs) → wipe σ1 vs = wipe σ vs
/-- a target takes the data -/
def tG (p : Px) (tg : LT) : TG := fun v σ H Q => ∃ d ρ ρ1 μ, Rep p.K p.w μ H d v ∧ EnvOk p.K p.w μ H ρ σ ∧ bindT tg d ρ = some ρ1 ∧ ∀ σ1, EnvOk p.K p.w μ H ρ1 σ1 → SameBut tg.ns σ σ1 → Q σ1 H
def tGs (p : Px) (is : List Nat) : TGs := fun vs σ H Q => ∃ ds ρ ρ1 μ, RepL p.K p.w μ H ds vs ∧ EnvOk p.K p.w μ H ρ σ ∧ bindNames is ds ρ = some ρ1 ∧ ∀ σ1, EnvOk p.K p.w μ H ρ1 σ1 → SameBut is σ σ1 → Q σ1 H
section
variable {X : Cx} {p : Px}
theorem sg_name {i : Nat} {x : Str} {pos : Pos} (hN : X.N.Nodup) (hi : X.N[i]? = some x) (hx : Loc X.env.scope x) (hf : X.fn x = true ∨ X.env.scope.names.lookup x = some .local) : PG X (.Name x pos) (tG p (.name i)) :=
  (pg_name hN hi hx hf).mono fun v σ H Q ⟨d, ρ, ρ1, μ, r, hρ, e, q⟩ => by
    unfold bindT at e
    simp only at e
    split at e
    · rename_i hl
      cases e
      exact q _ (hρ.set hl r) fun vs h => wipe_set (h i (by simp [LT.ns]))
    · cases e
theorem sgs_nil : PGs X [] (tGs p []) := pgs_nil.mono fun vs σ H Q ⟨ds, ρ, ρ1, μ, r, hρ, e, q⟩ => by
  cases ds with
  | nil =>
    unfold bindNames at e
    cases e
    unfold RepL at r
    exact ⟨r, q σ hρ fun _ _ => rfl⟩
  | cons d ds => unfold bindNames at e; cases e
theorem sgs_cons {i : Nat} {is : List Nat} {x : Str} {pos : Pos} {es : List Expr} (hN : X.N.Nodup) (hi : X.N[i]? = some x) (hx : Loc X.env.scope x) (hf : X.fn x = true ∨ X.env.scope.names.lookup x = some .local) (hr : PGs X es (tGs p is)) : PGs X (.Name x pos :: es) (tGs p (i :: is)) :=
  (pgs_cons (pg_name hN hi hx hf) hr).mono fun vs σ H Q ⟨ds, ρ, ρ1, μ, r, hρ, e, q⟩ => by
    cases ds with
    | nil => unfold bindNames at e; cases e
    | cons d ds =>
      unfold bindNames at e
      split at e
      · rename_i hl
        unfold RepL at r
        obtain ⟨v, vr, rfl, r1, r2⟩ := r
        refine ⟨v, vr, rfl, ds, _, ρ1, μ, r2, hρ.set hl r1, e, fun σ1 h1 s1 => q σ1 h1 fun vs h => ?_⟩
        rw [s1 vs fun j hj => h j (by simp [hj]), wipe_set (h i (by simp))]
      · cases e
theorem sg_names {is : List Nat} {es : List Expr} {k : Nat} {pos : Pos} (hK : X.K = p.K) (hc : X.calm = true) (h : PGs X es (tGs p is)) (hn : (assignEach es X.env).length = is.length) (hst : (assignEach es X.env).findIdx? (·.1) = none) : PG X (.Tuple es k pos) (tG p (.names is)) :=
  (pg_tup hc h hn hst).mono fun v σ H Q ⟨d, ρ, ρ1, μ, r, hρ, e, q⟩ => by
    cases d with
    | tup xs =>
      obtain ⟨a, vs, rfl, h1, h2⟩ := rep_tup r
      have e' : bindNames is xs ρ = some ρ1 := e
      have hl : ∀ (is : List Nat) (xs : List D) (ρ ρ1 : Env), bindNames is xs ρ = some ρ1 → xs.length = is.length := by
        intro is
        induction is with
        | nil => intro xs ρ ρ1 e; cases xs with
          | nil => rfl
          | cons x xs => unfold bindNames at e; cases e
        | cons i is ih => intro xs ρ ρ1 e; cases xs with
          | nil => unfold bindNames at e; cases e
          | cons x xs =>
            unfold bindNames at e
            split at e
            · rw [List.length_cons, List.length_cons, ih _ _ _ e]
            · cases e
      exact ⟨a, vs, rfl, hK ▸ h1, by rw [h2.length]; exact hl _ _ _ _ e', xs, ρ, ρ1, μ, h2, hρ, e', q⟩
    | _ => cases e

/-! ### comprehensions -/
abbrev Px.quiet (p : Px) : Px := { p with W := fun _ _ _ _ => False }
theorem _root_.L2.PTs.mono {ifs : List Expr} {t t' : TT} (h : PTs X ifs t) (k : ∀ σ H Q, t' σ H Q → t σ H Q) : PTs X ifs t' := ⟨fun pins s σ H Q I q => h.run pins s σ H Q I (k _ _ _ q)⟩
theorem sts_nil : PTs X [] (tT p .nopart) := pts_nil.mono fun σ H Q ⟨ρ, S, μ, hS, hρ, h⟩ => by unfold evalT at h; exact h.here hS rfl
theorem upd_lst_ok {K : PySem.W.Frag} {w : World} {μ : List Addr} {H : Hp} {S : Sto} {a : Addr} {vs us : List V} (h : StOk K w μ H S) (e : H a = some (.lst vs)) (m : a ∉ μ) : StOk K w μ (upd H a (.lst us)) S ∧ Kp H (upd H a (.lst us)) := by
  have k : Kp H (upd H a (.lst us)) := fun b u q n => by
    rw [upd_ne (fun z => n (by rw [z, e] at q; cases q; trivial))]
    exact q
  refine ⟨⟨h.len, h.nd, fun n b q => ?_⟩, k⟩
  obtain ⟨xs, us', e1, e2, r⟩ := h.ob n b q
  refine ⟨xs, us', e1, ?_, RepL.mono (List.prefix_refl _) k xs us' r⟩
  rw [upd_ne (fun z => m (by rw [← z]; exact List.mem_of_getElem? q))]
  exact e2
theorem se_comp {elt tg iter : Expr} {ifs : List Expr} {scope : Scope} {own : List (Str × Nat)} {pos : Pos} {lel lit ltst : LE} {ltg : LT} (hK : X.K = p.K) (hc : X.calm = true) (hN : X.N.Nodup) (hi : PI X tg iter (tI p lit)) (ok : BlkOk X.N X.env.scope scope own) (hin : ∀ i ∈ ltg.ns, i ∈ own.map (·.2))
    (hg : ∀ (s : Shared) (H : Hp) (C : Addr) (cl : List (Str × Addr)) (fp : List Addr), PG (X.blk s H scope (compEnvC scope cl C X.env) fp) tg (tG p.quiet ltg)) (ht : ∀ (s : Shared) (H : Hp) (C : Addr) (cl : List (Str × Addr)) (fp : List Addr), PTs (X.blk s H scope (compEnvC scope cl C X.env) fp) ifs (tT p.quiet ltst))
    (he : ∀ (s : Shared) (H : Hp) (C : Addr) (cl : List (Str × Addr)) (fp : List Addr), PE (X.blk s H scope (compEnvC scope cl C X.env) fp) elt (tE p.quiet lel)) (hs : ∀ x, foldedSetIterable iter X.env x = pure x) :
    PE X (.ListComp elt [⟨tg, iter, ifs, 0⟩] scope pos) (tE p (.comp lel ltg lit ltst own)) :=
  (pe_lc hc hN hi ok hg ht (fun s H C cl fp => sv_val (he s H C cl fp)) hs).mono fun σ H Q ⟨ρ, S, μ, hS, hρ, h⟩ => by
    unfold evalE at h
    refine ⟨ρ, S, μ, hS, hρ, (h.bind late_E hS hρ).imp fun J H1 ⟨its, S1, μ1, m1, h1⟩ => fun A hA => ?_⟩
    have sv : Serves p (fun μ' H' => Stp μ1 H1 μ' H') its.1 its.2 J := m1.r
    have env : ∀ {μ' H' S'}, Stp μ1 H1 μ' H' → StOk p.K p.w μ' H' S' → EnvOk p.K p.w μ' H' (wipeE ρ (own.map (·.2))) (wipe σ (own.map (·.2))) := fun st _ => (m1.E.stp st m1.S).wipe _
    refine ⟨fun i m H' => m = its.1.length - i ∧ i ≤ its.1.length ∧ ∃ acc μ' S' vs, Stp μ1 H1 μ' H' ∧ StOk p.K p.w μ' H' S' ∧ A ∉ μ' ∧ H' A = some (.lst vs) ∧ RepL p.K p.w μ' H' acc vs ∧
      Wp p σ (RE p) μ1 H1 (compLoop (fun ρ S => evalE p.G p.call lel ρ S) (fun ρ S => evalT p.G p.call ltst ρ S) ltg (wipeE ρ (own.map (·.2))) (fun S => stays S its.1 its.2) (its.1.drop i) S' acc) Q, ⟨_, rfl, Nat.zero_le _, [], μ1, S1, [], Stp.laid m1.S hA, m1.S.laid hA, m1.S.notin hA, upd_same, RepL.nil, h1⟩, ?_⟩
    rintro i m H' ⟨rfl, hi', acc, μ', S', vs, st, hS', hm, hv, g, h2⟩
    by_cases hlt : i < its.1.length
    · have ed : its.1.drop i = its.1[i] :: its.1.drop (i + 1) := List.drop_eq_getElem_cons hlt
      rw [ed] at h2
      unfold compLoop at h2
      split at h2
      · rename_i hc2
        obtain ⟨hsrc, hz⟩ := Bool.and_eq_true_iff.mp hc2
        have ex : its.1[i]? = some its.1[i] := List.getElem?_eq_getElem hlt
        refine .inr ⟨sv.go i _ μ' H' S' st hS' hsrc ex, fun H'' => ∃ m', m' < its.1.length - i ∧ m' = its.1.length - (i + 1) ∧ i + 1 ≤ its.1.length ∧ ∃ acc μ' S' vs, Stp μ1 H1 μ' H'' ∧ StOk p.K p.w μ' H'' S' ∧ A ∉ μ' ∧ H'' A = some (.lst vs) ∧ RepL p.K p.w μ' H'' acc vs ∧
          Wp p σ (RE p) μ1 H1 (compLoop (fun ρ S => evalE p.G p.call lel ρ S) (fun ρ S => evalT p.G p.call ltst ρ S) ltg (wipeE ρ (own.map (·.2))) (fun S => stays S its.1 its.2) (its.1.drop (i + 1)) S' acc) Q, fun _ z => z, fun x H'' y => ?_⟩
        obtain ⟨st2, hS2, rx⟩ := sv.yld i _ μ' H' S' x H'' st hS' hsrc ex y
        have st3 := st.trans hS' st2
        cases eb : bindT ltg its.1[i] (wipeE ρ (own.map (·.2))) with
        | none => rw [eb] at h2; exact h2.elim
        | some ρ1 =>
          rw [eb] at h2
          refine ⟨_, _, ρ1, μ', rx, env st3 hS2, eb, fun σ1 hρ1 same => ⟨?_, ρ1, S', μ', hS2, hρ1, (h2.calmO (R := RB) st3 hS2 hρ1).imp fun k H3 ⟨k', S3, μ3, m3, h3⟩ => ?_⟩⟩
          · rw [same _ hin, wipe_wipe]
          have ek : k = k' := m3.r
          subst ek
          have st4 := st3.trans hS2 m3.st
          have hA3 : H3 A = some (.lst vs) := m3.st.keep _ _ (st2.keep _ _ hv hm) (st2.out hv hm)
          have hm3 : A ∉ μ3 := m3.st.out (st2.keep _ _ hv hm) (st2.out hv hm)
          have g3 : RepL p.K p.w μ3 H3 acc vs := RepL.mono m3.st.pre (m3.st.kp hS2) _ _ (RepL.mono st2.pre (st2.kp hS') _ _ g)
          cases k with
          | false =>
            exact ⟨_, by omega, rfl, hlt, acc, μ3, S3, vs, st4, m3.S, hm3, hA3, g3, h3⟩
          | true =>
            simp only [if_true] at h3
            have h3' : Wp p σ (RE p) μ1 H1 ((((evalE p.G p.call lel ρ1 S3).calm.bind fun x S => optR x.val S)).bind fun y S2 => compLoop (fun ρ S => evalE p.G p.call lel ρ S) (fun ρ S => evalT p.G p.call ltst ρ S) ltg (wipeE ρ (own.map (·.2))) (fun S => stays S its.1 its.2) (its.1.drop (i + 1)) S2 (acc ++ [y])) Q := by
              rw [Res.bind_assoc]
              exact h3
            have e4 : ((evalE p.G p.call lel ρ1 S3).calm.bind fun x S => optR x.val S) = ((evalE p.G p.call lel ρ1 S3).bind fun x S => optR x.val S).calm := by
              cases evalE p.G p.call lel ρ1 S3 with
              | ok a S => show optR a.val S = (optR a.val S).calm; cases a.val <;> rfl
              | exc c S => rfl
              | stuck => rfl
            rw [e4] at h3'
            refine ⟨ρ1, S3, μ3, m3.S, m3.E, (h3'.calmO (R := RV p) st4 m3.S m3.E).imp fun u H4 ⟨d, S4, μ4, m4, h4⟩ => ?_⟩
            have hA4 : H4 A = some (.lst vs) := m4.st.keep _ _ hA3 hm3
            have hm4 : A ∉ μ4 := m4.st.out hA3 hm3
            have g4 : RepL p.K p.w μ4 H4 acc vs := RepL.mono m4.st.pre (m4.st.kp m3.S) _ _ g3
            obtain ⟨o1, o2⟩ := upd_lst_ok (us := vs ++ [u]) m4.S hA4 hm4
            refine ⟨vs, hA4, by rw [g4.length]; exact of_decide_eq_true hz, _, by omega, rfl, hlt, acc ++ [d], μ4, S4, vs ++ [u], ?_, o1, hm4, upd_same, RepL.mono (List.prefix_refl _) o2 _ _ (g4.app (RepL.one m4.r)), h4⟩
            have st5 := st4.trans m3.S m4.st
            exact ⟨st5.pre, fun b o e m => by rw [upd_ne (fun z => by rw [z, hA] at e; cases e)]; exact st5.keep b o e m, st5.new⟩
      · exact h2.elim
    · have ei : i = its.1.length := by omega
      subst ei
      rw [List.drop_length] at h2
      unfold compLoop at h2
      split at h2
      · rename_i hsrc
        exact .inl ⟨sv.stop μ' H' S' st hS' hsrc, h2 (.ref A) μ' H' st hS' ⟨⟨A, vs, rfl, hv, g, hm⟩, fun _ _ b e => by cases e; exact hA⟩⟩
      · exact h2.elim
end
end Pl
end

section
set_option Elab.async false
set_option linter.all false
set_option maxRecDepth 100000
/-! Defs and calls, where no repr is at work around. -/
namespace Pl
open PySem PySem.Spec PyProof.Rows L2

/-- a def's promise, no repr around -/
structure FnG (P : Program) (w : World) (K : PySem.W.Frag) (mg : Str → Option Value) (bs : Heap) (k : Nat) (f : Addr) (fd : FuncData) (ps : List Str) (sp : Sp) : Prop where
  ar : ∀ vs H Q E, sp vs H Q E → vs.length = ps.length
  go : ∀ (A : Around) (around : List PySem.Env) (s : Shared) (H : Hp) (args : Args) (us : List Value) (vs : List V) (Q : VK) (E : XK), A.guards = some [] → Room k A → Env0 P w K mg bs A around s H →
    BindsTo s fd args (ps.zip us) → Vals vs us → sp vs H Q E → codeAny (PySem.model P w) A (.call (.ref f) args) (CR (L2.CX P w) around P w H s Q E) s
theorem guards_deeper {A : Around} {env : PySem.Env} (h : A.guards = some []) : (A.deeper env).guards = some [] := h
/-- a def of the text, by its body -/
theorem fn_ofG {P : Program} {w : World} {K : PySem.W.Frag} {mg : Str → Option Value} {bs : Heap} {k : Nat} {f : Addr} {name qual : Str} {params : Arguments} {body : List Stmt} {scope : Scope} {dV kV doc pm cdv ct oc : Value}
    {an od : Option Addr} {osl : Array (Option Value)} {N ps : List Str} {sp : Sp} (lk : K.lookup f = some ⟨oc, od, .func (PySem.W.fnOf name qual params body scope dV kV doc pm an cdv ct), osl⟩)
    (hcd : PySem.W.codeIn K cdv qual = true) (S : FnScope N ps scope) (ar : ∀ vs H Q E, sp vs H Q E → vs.length = ps.length)
    (hb : ∀ (A : Around) (around : List PySem.Env) (s : Shared) (H : Hp) (vs : List V) (Q : VK) (E : XK), A.guards = some [] → Room k (A.deeper (envOfC qual scope s.heap.objs.size f cdv)) → sp vs H Q E →
      ∃ t, PSs (cxOf (L2.CX P w) P w K mg bs N qual scope f cdv A around s H E) body t ∧ t { nx := fun _ H' => Q .non H', rt := Q } (start N vs) H) :
    FnG P w K mg bs (k + 1) f (PySem.W.fnOf name qual params body scope dV kV doc pm an cdv ct) ps sp := by
  refine ⟨ar, fun A around s H args us vs Q E hgu hr e0 hbi r hsp => ?_⟩
  have lenV := ar _ _ _ _ hsp
  have KX : K.In s.heap := e0.mod.kin.keeps fun b o e => (e0.bs b o e).1
  have lim : s.heap.NoLimit := e0.mod.nolimit.keeps fun b o e => (e0.bs b o e).1
  have kinds : ∀ y ∈ ps.zip us, scope.names.lookup y.1 = some .local ∨ (scope.names.lookup y.1 = some .cell ∧ ((cellsFrom (s.heap.objs.size + 1) scope.names []).lookup y.1).isSome = true) := by
    rintro ⟨n, v⟩ hy
    rcases S.par n (List.of_mem_zip hy).1 with q | q
    · exact Or.inl q
    · exact Or.inr ⟨q, PySem.W.cellsFrom_some _ _ _ (Or.inl q)⟩
  refine codeAny_call_function hr.depth (KX _ _ lk) rfl S.co S.gen rfl (PySem.W.codeRec_of KX hcd) (hbi _ _ _ _ (wpAny_newFunctionEnv_cells S.kind kinds fun env he s1 x => ?_))
  subst he
  refine ⟨lim.keeps x.toInCall.keep, codeAny_func ?_⟩
  obtain ⟨t, ht, hq⟩ := hb A around s H vs Q E hgu (hr.deeper _) hsp
  have I0 : Inv (cxOf (L2.CX P w) P w K mg bs N qual scope f cdv A around s H E) [] (start N vs) H s1 := inv_start S hr.hd e0 lenV r x
  refine wpAny_mono (ht.run [] s1 (start N vs) H _ I0 hq) (fun fl s' hs => ?_) fun _ _ z => z
  have last : ∀ {σ2 : L2.St} {H2 : Hp} {v : V} {u : Value}, Inv (cxOf (L2.CX P w) P w K mg bs N qual scope f cdv A around s H E) [] σ2 H2 s' → RelV v u → Q v H2 → CE around P w H s Q u s' :=
    fun {_ H2 v _} J rv q => ⟨v, H2, J.os, J.bare, J.base, J.hok, rv, q⟩
  cases fl with
  | next =>
    obtain ⟨_, _, J, q⟩ := hs
    exact last (v := V.non) (u := Value.none) J rfl q
  | ret u =>
    obtain ⟨_, _, _, J, rv, q⟩ := hs
    exact last J rv q
  | brk =>
    obtain ⟨_, _, _, q⟩ := hs
    exact q.elim
  | cont =>
    obtain ⟨_, _, _, q⟩ := hs
    exact q.elim
section
variable {X : Cx} {k : Nat} {f : Addr} {fd : FuncData} {ps : List Str} {sp : Sp} {W : WX} {x : Str} {nm pos : Pos} {e : Expr} {es : List Expr} {t : TA}
theorem run_fnG {pins : List (Addr × Obj)} {σ : L2.St} {H : Hp} {s : Shared} {Q : VK} {us : List Value} {vs : List V} (F : FnG X.prog X.w X.K X.mg X.base k f fd ps sp) (hgu : X.A.guards = some []) (hr : Room k X.A) (hb : Binds X.K fd ps []) (tk : Takes X W)
    (I : Inv X pins σ H s) (r : Vals vs us) (h : sp vs H Q (WE W σ)) : wpAny (PySem.model X.prog X.w) X.A (call (.ref f) us) (EP X pins σ Q) X.xe s := by
  have lenU : us.length = ps.length := by rw [← r.length]; exact F.ar _ _ _ _ h
  have b := hb s us I.kIn (by simpa using lenU)
  rw [List.append_nil] at b
  refine wpAny_call (codeAny_mono (F.go X.A X.stack s H ⟨us, []⟩ us vs Q (WE W σ) hgu hr I.env0 b r h) fun out s' hq => ?_)
  cases out with
  | error e => exact passAt tk σ pins H s e s' I hq
  | ok fl => cases fl with
    | ret u => exact I.after hq
    | next => exact hq.elim
    | brk => exact hq.elim
    | cont => exact hq.elim
theorem pe_callG (F : FnG X.prog X.w X.K X.mg X.base k f fd ps sp) (hgu : X.A.guards = some []) (hr : Room k X.A) (hg : Gl X x) (hm : X.mg x = some (.ref f)) (hk : PySem.W.keepIn X.K (.ref f) = true) (hb : Binds X.K fd ps []) (tk : Takes X W) (ha : PA X (e :: es) t)
    (hdb : (x == ("__debug__" : Str)) = false) (he : starEach (e :: es) X.env = (false, eval e X.env) :: starEach es X.env) (hpl : (backTo pos (starEach es X.env)).any (·.1) = false) : PE X (.Call (.Name x nm) (e :: es) [] pos) (tCallS sp (WE W) t) := by
  refine ⟨fun pins s σ H Q I h => wpAny_Call_Name_kw (ld_glob I hg hm ?_ hdb)⟩
  exact PySem.W.callWith_K (h₀ := X.base) I.ok.mod.kin hk (thn (ha.run pos pins s σ H _ I h) fun us s1 ⟨vs, H1, I1, r, q⟩ => ⟨I1.kIn, run_fnG F hgu hr hb tk I1 r q⟩) he hpl
theorem pe_callG0 (F : FnG X.prog X.w X.K X.mg X.base k f fd ps sp) (hgu : X.A.guards = some []) (hr : Room k X.A) (hg : Gl X x) (hm : X.mg x = some (.ref f)) (hk : PySem.W.keepIn X.K (.ref f) = true) (hb : Binds X.K fd ps []) (tk : Takes X W)
    (hdb : (x == ("__debug__" : Str)) = false) : PE X (.Call (.Name x nm) [] [] pos) (tCallS sp (WE W) tNil) := by
  refine ⟨fun pins s σ H Q I h => wpAny_Call_Name_kw (ld_glob I hg hm ?_ hdb)⟩
  exact PySem.W.callWith_K0 I.kIn hk (run_fnG (us := []) F hgu hr hb tk I .nil h)
end
/-- the interpreter's promise of a def -/
def spC (K : PySem.W.Frag) (w : World) (G : Gd) (call : Call) (x : Str) : Sp := fun vs H Q E => ∃ μ S xs, StOk K w μ H S ∧ RepL K w μ H xs vs ∧ Wp ⟨K, w, G, call, fun c d _ H => E c d H⟩ [] (RE ⟨K, w, G, call, fun c d _ H => E c d H⟩) μ H (call x xs S) Q
theorem Wp.toC {p : Px} {σ : L2.St} {μ : List Addr} {H : Hp} {r : Res EV} {Q : VK} (h : Wp p σ (RE p) μ H r Q) : Wp ⟨p.K, p.w, p.G, p.call, fun c d _ H => WE p.W σ c d H⟩ [] (RE ⟨p.K, p.w, p.G, p.call, fun c d _ H => WE p.W σ c d H⟩) μ H r Q := by
  cases r with
  | ok a S => exact h
  | exc c S => exact h
  | stuck => exact h
section
variable {X : Cx} {p : Px} {k : Nat} {f : Addr} {fd : FuncData} {ps : List Str} {x : Str} {nm pos : Pos} {e : Expr} {es : List Expr} {les : List LE}
theorem se_call (F : FnG X.prog X.w X.K X.mg X.base k f fd ps (spC p.K p.w p.G p.call x)) (hgu : X.A.guards = some []) (hr : Room k X.A) (hg : Gl X x) (hm : X.mg x = some (.ref f)) (hk : PySem.W.keepIn X.K (.ref f) = true) (hb : Binds X.K fd ps []) (tk : Takes X p.W)
    (ha : PA X (e :: es) (tVs p les)) (hdb : (x == ("__debug__" : Str)) = false) (he : starEach (e :: es) X.env = (false, eval e X.env) :: starEach es X.env) (hpl : (backTo pos (starEach es X.env)).any (·.1) = false) : PE X (.Call (.Name x nm) (e :: es) [] pos) (tE p (.call x les)) :=
  (pe_callG F hgu hr hg hm hk hb tk ha hdb he hpl).mono fun σ H Q ⟨ρ, S, μ, hS, hρ, h⟩ => by
    unfold evalE at h
    exact ⟨ρ, S, μ, hS, hρ, (h.bind (R := RVs p) late_E hS hρ).imp fun vs H1 ⟨xs, S1, μ1, m1, h1⟩ => ⟨μ1, S1, xs, m1.S, m1.r, h1.toC⟩⟩
theorem se_call0 (F : FnG X.prog X.w X.K X.mg X.base k f fd ps (spC p.K p.w p.G p.call x)) (hgu : X.A.guards = some []) (hr : Room k X.A) (hg : Gl X x) (hm : X.mg x = some (.ref f)) (hk : PySem.W.keepIn X.K (.ref f) = true) (hb : Binds X.K fd ps []) (tk : Takes X p.W)
    (hdb : (x == ("__debug__" : Str)) = false) : PE X (.Call (.Name x nm) [] [] pos) (tE p (.call x [])) :=
  (pe_callG0 F hgu hr hg hm hk hb tk hdb).mono fun σ H Q ⟨ρ, S, μ, hS, hρ, h⟩ => by
    unfold evalE evalVs at h
    exact ⟨μ, S, [], hS, RepL.nil, Wp.toC h⟩
end

/-! ### an item of a written dict -/
def zipD (ks : List Str) (ns : List Int) : List (Key × V) := (ks.zip ns).map fun q => (.inr q.1, .int q.2)
def okDisp (ks : List Str) (ns : List Int) : Bool := (ks.zip ns).all fun q => match valV (mergeK [] (zipD ks ns)) (.inr q.1) with
  | some (.int m) => decide ((ks.zip ns).lookup q.1 = some m)
  | _ => false
theorem mem_of_look {α : Type} : ∀ {l : List (Str × α)} {z : Str} {n : α}, l.lookup z = some n → ∃ z', z' = z ∧ (z', n) ∈ l
  | (a, b) :: r, z, n, h => by
    rw [List.lookup_cons] at h
    cases hb : z == a with
    | true =>
      rw [hb] at h
      cases h
      exact ⟨a, (beq_iff_eq.mp hb).symm, List.mem_cons_self⟩
    | false =>
      rw [hb] at h
      obtain ⟨z', e, m⟩ := mem_of_look h
      exact ⟨z', e, List.mem_cons_of_mem _ m⟩
theorem disp_look {ks : List Str} {ns : List Int} {z : Str} {n : Int} (h : okDisp ks ns = true) (e : (ks.zip ns).lookup z = some n) : valV (mergeK [] (zipD ks ns)) (.inr z) = some (.int n) := by
  obtain ⟨z', rfl, m⟩ := mem_of_look e
  have q := List.all_eq_true.mp h _ m
  simp only at q
  split at q
  · rename_i m' e1
    have q := of_decide_eq_true q
    rw [e] at q
    cases q
    exact e1
  · cases q
inductive DispOk : List (Option Expr) → List Expr → List Str → List Int → Prop where
  | nil : DispOk [] [] [] []
  | cons {z : Str} {n : Int} {j k : Nat} {p1 p2 : Pos} {keys : List (Option Expr)} {vals : List Expr} {ks : List Str} {ns : List Int} (h : DispOk keys vals ks ns) :
    DispOk (some (.Constant (.str z) j p1) :: keys) (.Constant (.int n) k p2 :: vals) (z :: ks) (n :: ns)
def dTrs (ks : List Str) (ns : List Int) : List (TE × TE) := (ks.zip ns).map fun q => (tC (.str q.1), tC (.int q.2))
section
variable {X : Cx} {p : Px} {pos p2 : Pos} {keys : List (Option Expr)} {vals : List Expr} {ks : List Str} {ns : List Int} {b : Expr} {lb : LE}
theorem DispOk.pps (h : DispOk keys vals ks ns) : PPs X pos keys vals (dTrs ks ns) := by
  induction h with
  | nil => exact pps_nil
  | cons h ih => exact pps_cons pe_str pe_int ih
theorem DispOk.len (h : DispOk keys vals ks ns) : keys.length = vals.length ∧ keys.length = ks.length ∧ ks.length = ns.length ∧ keys.all (·.isSome) = true := by
  induction h with
  | nil => exact ⟨rfl, rfl, rfl, rfl⟩
  | cons h ih => obtain ⟨a, b, c, d⟩ := ih; exact ⟨by simp [a], by simp [b], by simp [c], by simp [d]⟩
theorem tPairs_disp {σ : L2.St} {H : Hp} {Q : List (V × V) → Hp → Prop} : ∀ (l : List (Str × Int)) (ps : List (V × V)), Q (ps ++ l.map fun q => (V.str q.1, V.int q.2)) H → tPairs (l.map fun q => (tC (.str q.1), tC (.int q.2))) σ H fun qs H' => Q (ps ++ qs) H'
  | [], ps, h => by simpa [tPairs] using h
  | q :: l, ps, h => by
    have ih := tPairs_disp (σ := σ) (Q := Q) (H := H) l (ps ++ [(V.str q.1, V.int q.2)]) (by simpa using h)
    show tPairs (l.map fun q => (tC (.str q.1), tC (.int q.2))) σ H fun ps3 H3 => Q (ps ++ ((V.str q.1, V.int q.2) :: ps3)) H3
    simpa using ih
theorem se_didx (hu : X.A.units + 1 < cLine) (hd : DispOk keys vals ks ns) (h0 : keys ≠ []) (h15 : keys.length ≤ 15) (hk : okDisp ks ns = true) (hb : PE X b (tE p lb)) (hs : NoSl b) : PE X (.Subscript (.Dict keys vals p2) b pos) (tE p (.didx ks ns lb)) :=
  (pe_dget hu (pe_disp hd.pps hd.len.2.2.2 hd.len.1 h0 h15) hb hs).mono fun σ H Q ⟨ρ, S, μ, hS, hρ, h⟩ => by
    unfold evalE at h
    show tDisp (dTrs ks ns) σ H fun x H1 => tE p lb σ H1 fun y H2 => ∃ a v, x = .ref a ∧ DGet H2 a y (some v) ∧ Q v H2
    intro a ha
    refine tPairs_disp (σ := σ) (H := upd H a (.dK [])) (Q := fun ps H2 => H2 a = some (.dK []) ∧ ∃ kvs : List (Key × V), ps = kvs.map (fun kv => (kV kv.1, kv.2)) ∧ kvs.length ≤ 15 ∧ tE p lb σ (upd H2 a (.dK (mergeK [] kvs))) fun y H2 => ∃ a' v, V.ref a = .ref a' ∧ DGet H2 a' y (some v) ∧ Q v H2) (ks.zip ns) [] ⟨upd_same, zipD ks ns, by unfold zipD; simp [kV], by unfold zipD; rw [List.length_map, List.length_zip]; have := hd.len.2.1; omega, ?_⟩
    rw [L2.upd_upd]
    have st := Stp.laid (o := .dK (mergeK [] (zipD ks ns))) hS ha
    have hS1 := hS.laid (o := .dK (mergeK [] (zipD ks ns))) ha
    refine ⟨ρ, S, μ, hS1, hρ.stp st hS, (h.bindO st hS1 (hρ.stp st hS)).imp fun y H2 ⟨v1, S2, μ2, m2, h2⟩ => ?_⟩
    split at h2
    · rename_i z
      obtain ⟨n, e, h2⟩ := h2.optO
      have ey := ev_str m2.r.1
      refine ⟨a, .int n, rfl, ?_, h2 (.int n) μ2 H2 (st.trans hS1 m2.st) m2.S ⟨(of_int : Rep p.K p.w μ2 H2 (.int n) (.int n)), fun _ e => nomatch e⟩⟩
      rw [ey, ← disp_look hk e]
      exact DGet.k (k := .inr z) (m2.st.keep _ _ upd_same (hS.notin ha))
    · exact h2.elim
end
end Pl
end

section
set_option Elab.async false
set_option linter.all false
set_option maxRecDepth 100000
/-! The check: a text of the small language is the program's; what it says, the machine does. -/
namespace Pl
open PySem PySem.Spec PyProof.Rows L2

structure Sc where
  N : List Str
  sc : Scope
  fnc : Str → Bool
  free : List Str
  defs : List Str
  excs : List Str
structure Fit (p : Px) (X : Cx) (c : Sc) : Prop where
  K : X.K = p.K
  w : X.w = p.w
  calm : X.calm = true
  un : X.A.units + 65 < cLine
  gu : X.A.guards = some []
  nd : X.N.Nodup
  N : X.N = c.N
  sc : X.env.scope = c.sc
  fn : X.fn = c.fnc
  tk : Takes X p.W
  const : ∀ x d, p.G.consts.lookup x = some d → ∃ u v, X.mg x = some u ∧ RelV v u ∧ ∀ μ H, Rep p.K p.w μ H d v
  free : ∀ x, x ∈ c.free → X.mg x = none
  defs : ∀ x, x ∈ c.defs → ∃ k f fd ps, FnG X.prog X.w X.K X.mg X.base k f fd ps (spC p.K p.w p.G p.call x) ∧ Room k X.A ∧ X.mg x = some (.ref f) ∧ PySem.W.keepIn X.K (.ref f) = true ∧ Binds X.K fd ps []
def Sc.blk (c : Sc) (scope : Scope) : Sc := { c with sc := relS scope c.sc, fnc := fun x => scope.names.lookup x == some .cell }
theorem Fit.blk {p : Px} {X : Cx} {c : Sc} (F : Fit p X c) (s : Shared) (H : Hp) (scope : Scope) (cl : List (Str × Addr)) (C : Addr) (fp : List Addr) : Fit p.quiet (X.blk s H scope (compEnvC scope cl C X.env) fp) (c.blk scope) where
  K := F.K
  w := F.w
  calm := F.calm
  un := F.un
  gu := F.gu
  nd := F.nd
  N := F.N
  sc := by show relS scope X.env.scope = relS scope c.sc; rw [F.sc]
  fn := rfl
  tk := fun u s' ⟨_, _, _, _, _, _, _, _, _, _, _, _, _, _, _, _, h⟩ => h.elim
  const := F.const
  free := F.free
  defs := F.defs

/-! ### looks at the text -/
def dbg (x : Str) : Bool := !(x == ("__debug__" : Str)) && !(x == ("__classdict__" : Str))
def visB (sc : Scope) (x : Str) : Bool := decide (sc.names.lookup x = some .local) || decide (sc.names.lookup x = some .cell) || decide (sc.names.lookup x = some .free)
def glB (sc : Scope) (x : Str) : Bool := decide (sc.names.lookup x = some .globalImplicit)
def locB (c : Sc) (x : Str) : Bool := decide (c.sc.names.lookup x = some .local) || (decide (c.sc.names.lookup x = some .cell) && c.fnc x)
def plainT : Expr → Bool
  | .BoolOp .. => false
  | .UnaryOp .Not _ _ => false
  | .IfExp .. => false
  | .Compare .. => false
  | _ => true
def noStar : Expr → Bool
  | .Starred .. => false
  | _ => true
def noSlice : Expr → Bool
  | .Slice .. => false
  | _ => true
def noCall : Expr → Bool
  | .Call .. => false
  | _ => true
def noSet : Expr → Bool
  | .Set .. => false
  | _ => true
def nameIs (c : Sc) (f : String) (x : Str) : Bool := decide (x = Str.ofString f) && glB c.sc x && decide (x ∈ c.free)
def biN : BI → Option String
  | .len => some "len"
  | .abs => some "abs"
  | .int => some "int"
  | .repr => some "repr"
  | .all => some "all"
  | .any => some "any"
  | .tuple => some "tuple"
  | .list => some "list"
  | .max => none
  | .min => none
def biN2 : BI → Option String
  | .max => some "max"
  | .min => some "min"
  | _ => none
def cstB : D → Const → Bool
  | .non, .none => true
  | .bl a, .bool b => decide (a = b)
  | .int a, .int b => decide (a = b)
  | .str a, .str b => decide (a = b)
  | _, _ => false
def dispB : List Str → List Int → List (Option Expr) → List Expr → Bool
  | [], [], [], [] => true
  | z :: ks, n :: ns, some (.Constant (.str z') _ _) :: keys, .Constant (.int n') _ _ :: vals => decide (z = z') && decide (n = n') && dispB ks ns keys vals
  | _, _, _, _ => false
def okG (c : Sc) : LT → Expr → Bool
  | .name i, .Name x _ => decide (c.N[i]? = some x) && locB c x
  | .names is, .Tuple es _ _ => okGs is es
  | _, _ => false
where okGs : List Nat → List Expr → Bool
  | [], [] => true
  | i :: is, .Name x _ :: es => decide (c.N[i]? = some x) && locB c x && okGs is es
  | _, _ => false
mutual
def okE : LE → Sc → Expr → Bool
  | .var i, c, e => (match e with
    | .Name x _ => decide (c.N[i]? = some x) && visB c.sc x && dbg x
    | _ => false)
  | .cst d, _, e => (match e with
    | .Constant k _ _ => cstB d k
    | _ => false)
  | .glob x, c, e => (match e with
    | .Name y _ => decide (x = y) && glB c.sc x && dbg x
    | _ => false)
  | .tup es, c, e => (match e with
    | .Tuple es' _ _ => okA es c es'
    | _ => false)
  | .lst es, c, e => (match e with
    | .List es' _ => okA es c es'
    | _ => false)
  | .bin op a b, c, e => (match e with
    | .BinOp a' op' b' _ => decide (op = op') && okE a c a' && okE b c b'
    | _ => false)
  | .neg a, c, e => (match e with
    | .UnaryOp .USub a' _ => okE a c a'
    | _ => false)
  | .cmp op a b, c, e => (match e with
    | .Compare a' [op'] [b'] _ => decide (op = op') && !behindInMarks op b' && okE a c a' && okE b c b'
    | _ => false)
  | .chain o1 o2 a b d, c, e => (match e with
    | .Compare a' [o1', o2'] [b', d'] _ => decide (o1 = o1') && decide (o2 = o2') && !lastMarks [o1, o2] [b', d'] && okE a c a' && okE b c b' && okE d c d'
    | _ => false)
  | .and2 a b, c, e => (match e with
    | .BoolOp .And (a' :: b' :: r) pos => okE a c a' && okE b c (.BoolOp .And (b' :: r) pos)
    | _ => false)
  | .or2 a b, c, e => (match e with
    | .BoolOp .Or (a' :: b' :: r) pos => okE a c a' && okE b c (.BoolOp .Or (b' :: r) pos)
    | _ => false)
  | .one a, c, e => (match e with
    | .BoolOp _ [a'] _ => okE a c a'
    | _ => false)
  | .not1 a, c, e => (match e with
    | .UnaryOp .Not a' _ => okE a c a'
    | _ => false)
  | .ite t a b, c, e => (match e with
    | .IfExp t' a' b' _ => okT t c t' && okE a c a' && okE b c b'
    | _ => false)
  | .idx a i, c, e => (match e with
    | .Subscript a' i' _ => noSlice i' && okE a c a' && okE i c i'
    | _ => false)
  | .didx ks ns i, c, e => (match e with
    | .Subscript (.Dict keys vals _) i' _ => dispB ks ns keys vals && !keys.isEmpty && decide (keys.length ≤ 15) && okDisp ks ns && noSlice i' && okE i c i'
    | _ => false)
  | .slice a lo hi, c, e => (match e with
    | .Subscript a' (.Slice lo' hi' none _) _ => okE a c a' && okP lo c lo' && okP hi c hi'
    | _ => false)
  | .call f es, c, e => (match e with
    | .Call (.Name x _) es' [] _ => decide (f = x) && glB c.sc x && decide (x ∈ c.defs) && dbg x && okA es c es'
    | _ => false)
  | .bi1 f a, c, e => (match biN f, e with
    | some g, .Call (.Name x _) [a'] [] _ => nameIs c g x && noStar a' && okE a c a'
    | _, _ => false)
  | .bi2 f a b, c, e => (match biN2 f, e with
    | some g, .Call (.Name x _) [a', b'] [] _ => nameIs c g x && noStar a' && noStar b' && okE a c a' && okE b c b'
    | _, _ => false)
  | .join a b, c, e => (match e with
    | .Call (.Attribute a' m apos) [b'] [] pos => decide (m = Str.ofString "join") && noStar b' && noCall a' && decide ((apos.endLine == pos.line) = true) && okE a c a' && okE b c b'
    | _ => false)
  | .isi a t, c, e => (match e with
    | .Call (.Name x _) [a', .Name y _] [] _ => nameIs c "isinstance" x && decide (t ∈ ["int", "str", "tuple", "list", "bool"]) && nameIs c t y && noStar a' && okE a c a'
    | _ => false)
  | .comp elt tg it tst own, c, e => (match e with
    | .ListComp elt' [⟨tg', it', ifs, 0⟩] scope _ => okI it c it' tg' && blkC c.N c.sc scope own && okG (c.blk scope) tg tg' && tg.ns.all (fun i => decide (i ∈ own.map (·.2))) && okF tst (c.blk scope) ifs && okE elt (c.blk scope) elt' && noSet it'
    | _ => false)
  | .share a, c, e => okE a c e
  | .nopart, _, _ => false
  | .rng1 _, _, _ => false
  | .rng2 _ _, _, _ => false
  | .enum _, _, _ => false
  | .tru _, _, _ => false
  | .pt _, _, _ => false
  | .sq _, _, _ => false
def okA : List LE → Sc → List Expr → Bool
  | [], _, es' => es'.isEmpty
  | e :: es, c, es' => (match es' with
    | e' :: es' => okE e c e' && noStar e' && okA es c es'
    | [] => false)
def okP : LE → Sc → Option Expr → Bool
  | .nopart, _, e => e.isNone
  | .pt e, c, e' => (match e' with
    | some e' => okE e c e'
    | none => false)
  | _, _, _ => false
def okT : LE → Sc → Expr → Bool
  | .not1 a, c, e => (match e with
    | .UnaryOp .Not a' _ => okT a c a'
    | _ => false)
  | .and2 a b, c, e => (match e with
    | .BoolOp .And (a' :: b' :: r) pos => okT a c a' && okT b c (.BoolOp .And (b' :: r) pos)
    | _ => false)
  | .or2 a b, c, e => (match e with
    | .BoolOp .Or (a' :: b' :: r) pos => okT a c a' && okT b c (.BoolOp .Or (b' :: r) pos)
    | _ => false)
  | .one a, c, e => (match e with
    | .BoolOp _ [a'] _ => okT a c a'
    | _ => false)
  | .cmp op a b, c, e => (match e with
    | .Compare a' [op'] [b'] _ => decide (op = op') && !behindInMarks op b' && okE a c a' && okE b c b'
    | _ => false)
  | .chain o1 o2 a b d, c, e => (match e with
    | .Compare a' [o1', o2'] [b', d'] _ => decide (o1 = o1') && decide (o2 = o2') && !lastMarks [o1, o2] [b', d'] && okE a c a' && okE b c b' && okE d c d'
    | _ => false)
  | .tru e, c, e' => plainT e' && okE e c e'
  | _, _, _ => false
def okF : LE → Sc → List Expr → Bool
  | .nopart, _, es => es.isEmpty
  | .tru e, c, es => (match es with
    | [e'] => plainT e' && okE e c e'
    | _ => false)
  | .cmp op a b, c, es => (match es with
    | [.Compare a' [op'] [b'] _] => decide (op = op') && !behindInMarks op b' && okE a c a' && okE b c b'
    | _ => false)
  | .not1 a, c, es => (match es with
    | [.UnaryOp .Not a' _] => okT a c a'
    | _ => false)
  | .and2 a b, c, es => (match es with
    | [.BoolOp .And (a' :: b' :: r) pos] => okT a c a' && okT b c (.BoolOp .And (b' :: r) pos)
    | _ => false)
  | .or2 a b, c, es => (match es with
    | [.BoolOp .Or (a' :: b' :: r) pos] => okT a c a' && okT b c (.BoolOp .Or (b' :: r) pos)
    | _ => false)
  | _, _, _ => false
def okI : LE → Sc → Expr → Expr → Bool
  | .sq e, c, e', _ => okE e c e'
  | .rng1 a, c, e, _ => (match e with
    | .Call (.Name x _) [a'] [] _ => nameIs c "range" x && noStar a' && okE a c a'
    | _ => false)
  | .rng2 a b, c, e, _ => (match e with
    | .Call (.Name x _) [a', b'] [] _ => nameIs c "range" x && noStar a' && noStar b' && okE a c a' && okE b c b'
    | _ => false)
  | .enum a, c, e, t => (match e, t with
    | .Call (.Name x _) [a'] [] _, .Tuple _ _ _ => nameIs c "enumerate" x && noStar a' && okE a c a'
    | _, _ => false)
  | _, _, _, _ => false
end

/-! ### lemmas of the looks -/
theorem isT_of {a : Expr} {env : PySem.Env} (h : plainT a = true) : ∀ whole, isTrue a env whole = (do let v ← whole; standAt a.pos; holding [v] (truthy v)) := by
  intro wh
  cases a with
  | BoolOp _ _ _ => cases h
  | IfExp _ _ _ _ => cases h
  | Compare _ _ _ _ => cases h
  | UnaryOp op _ _ => cases op <;> first | rfl | cases h
  | _ => rfl
theorem star_of {a : Expr} {es : List Expr} {env : PySem.Env} (h : noStar a = true) : starEach (a :: es) env = (false, eval a env) :: starEach es env := by
  cases a <;> first | rfl | cases h
theorem plainIx_of {b : Expr} (h : noSlice b = true) : PlainIx b := by
  intro o i
  cases b <;> first | rfl | cases h
theorem noSl_of {b : Expr} (h : noSlice b = true) : NoSl b := by
  intro o i
  cases b <;> first | rfl | cases h
theorem base_of {a : Expr} {m : Str} {env : PySem.Env} (h : noCall a = true) : attributeBase a m env (eval a env) = eval a env := by
  cases a <;> first | rfl | cases h
theorem set_of {a : Expr} {env : PySem.Env} (h : noSet a = true) : ∀ x, foldedSetIterable a env x = pure x := by
  intro x
  cases a <;> first | rfl | cases h
theorem vis_of {sc : Scope} {x : Str} (h : visB sc x = true) : Vis sc x := by
  unfold visB at h
  simp only [Bool.or_eq_true, decide_eq_true_eq] at h
  rcases h with (h | h) | h
  · exact .inl h
  · exact .inr (.inl h)
  · exact .inr (.inr h)
theorem dbg_of {x : Str} (h : dbg x = true) : (x == ("__debug__" : Str)) = false ∧ (x == ("__classdict__" : Str)) = false := by
  unfold dbg at h
  simp only [Bool.and_eq_true, Bool.not_eq_true'] at h
  exact h
section
variable {p : Px} {X : Cx} {c : Sc}
theorem gl_of (F : Fit p X c) {x : Str} (h : glB c.sc x = true) : Gl X x := by
  have h := of_decide_eq_true h
  show X.env.scope.names.lookup x = _
  rw [F.sc]
  exact h
theorem nm_of (F : Fit p X c) {f : String} {x : Str} (h : nameIs c f x = true) : x = Str.ofString f ∧ Gl X x ∧ X.mg x = none := by
  unfold nameIs at h
  simp only [Bool.and_eq_true, decide_eq_true_eq] at h
  obtain ⟨⟨h1, h2⟩, h3⟩ := h
  exact ⟨h1, gl_of F h2, F.free x h3⟩
theorem loc_of (F : Fit p X c) {x : Str} (h : locB c x = true) : Loc X.env.scope x ∧ (X.fn x = true ∨ X.env.scope.names.lookup x = some .local) := by
  unfold locB at h
  simp only [Bool.or_eq_true, Bool.and_eq_true, decide_eq_true_eq] at h
  rw [F.sc, F.fn]
  rcases h with h | ⟨h1, h2⟩
  · exact ⟨.inl h, .inr h⟩
  · exact ⟨.inr h1, .inl h2⟩
theorem okGs_sound (F : Fit p X c) : ∀ (is : List Nat) (es : List Expr), okG.okGs c is es = true → PGs X es (tGs p is) ∧ (assignEach es X.env).length = is.length ∧ (assignEach es X.env).findIdx? (·.1) = none
  | [], [], _ => ⟨sgs_nil, rfl, rfl⟩
  | [], _ :: _, h => by unfold okG.okGs at h; cases h
  | _ :: _, [], h => by unfold okG.okGs at h; cases h
  | i :: is, e :: es, h => by
    cases e with
    | Name x pos =>
      unfold okG.okGs at h
      simp only [Bool.and_eq_true, decide_eq_true_eq] at h
      obtain ⟨⟨h1, h2⟩, h3⟩ := h
      obtain ⟨i1, i2, i3⟩ := okGs_sound F is es h3
      obtain ⟨l1, l2⟩ := loc_of F h2
      refine ⟨sgs_cons F.nd (by rw [F.N]; exact h1) l1 l2 i1, ?_, ?_⟩
      · show (assignEach es X.env).length + 1 = is.length + 1
        rw [i2]
      · show List.findIdx? (·.1) ((false, assign (.Name x pos) X.env) :: assignEach es X.env) = none
        rw [List.findIdx?_cons]
        simp [i3]
    | _ => unfold okG.okGs at h; cases h
theorem okG_sound (F : Fit p X c) : ∀ (tg : LT) (e : Expr), okG c tg e = true → PG X e (tG p tg)
  | .name i, e, h => by
    cases e with
    | Name x pos =>
      unfold okG at h
      simp only [Bool.and_eq_true, decide_eq_true_eq] at h
      obtain ⟨l1, l2⟩ := loc_of F h.2
      exact sg_name F.nd (by rw [F.N]; exact h.1) l1 l2
    | _ => unfold okG at h; cases h
  | .names is, e, h => by
    cases e with
    | Tuple es k pos =>
      unfold okG at h
      obtain ⟨h1, h2, h3⟩ := okGs_sound F is es h
      exact sg_names F.K F.calm h1 h2 h3
    | _ => unfold okG at h; cases h
theorem cst_sound : ∀ {d : D} {k : Const} {j : Nat} {pos : Pos}, cstB d k = true → PE X (.Constant k j pos) (tE p (.cst d)) := by
  intro d k j pos h
  unfold cstB at h
  split at h
  · exact se_cst pe_non fun _ _ => of_non
  · cases of_decide_eq_true h; exact se_cst pe_bl fun _ _ => of_bl
  · cases of_decide_eq_true h; exact se_cst pe_int fun _ _ => of_int
  · cases of_decide_eq_true h; exact se_cst pe_str fun _ _ => of_str
  · cases h
theorem disp_sound : ∀ {ks : List Str} {ns : List Int} {keys : List (Option Expr)} {vals : List Expr}, dispB ks ns keys vals = true → DispOk keys vals ks ns := by
  intro ks
  induction ks with
  | nil =>
    intro ns keys vals h
    unfold dispB at h
    split at h
    · exact .nil
    · exact nomatch ‹([] : List Str) = _ :: _›
    · cases h
  | cons z ks ih =>
    intro ns keys vals h
    unfold dispB at h
    split at h
    · exact nomatch ‹_ :: _ = ([] : List Str)›
    · cases ‹z :: ks = _ :: _›
      simp only [Bool.and_eq_true, decide_eq_true_eq] at h
      obtain ⟨⟨h1, h2⟩, h3⟩ := h
      subst h1 h2
      exact .cons (ih h3)
    · cases h
theorem plain_star : ∀ {les : List LE} {es : List Expr} {pos : Pos} {env : PySem.Env}, okA les c es = true → (backTo pos (starEach es env)).any (·.1) = false
  | [], [], _, _, _ => rfl
  | [], _ :: _, _, _, h => by simp [okA] at h
  | _ :: _, [], _, _, h => by simp [okA] at h
  | l :: les, e :: es, pos, env, h => by
    simp only [okA, Bool.and_eq_true] at h
    obtain ⟨⟨_, h2⟩, h3⟩ := h
    have ih := plain_star (pos := pos) (env := env) h3
    rw [star_of h2]
    show (false || (backTo pos (starEach es env)).any (·.1)) = false
    rw [ih]
    rfl
theorem bi1_sound (F : Fit p X c) {f : BI} {g : String} {x : Str} {nm pos : Pos} {a : Expr} {la : LE} (e : biN f = some g) (h : nameIs c g x = true) (hs : noStar a = true) (ha : PE X a (tE p la)) : PE X (.Call (.Name x nm) [a] [] pos) (tE p (.bi1 f la)) := by
  obtain ⟨h1, h2, h3⟩ := nm_of F h
  subst h1
  have st := star_of (es := []) (env := X.env) hs
  cases f <;> cases e
  · exact sb_1 (fun t h => pe_callB (cv_len F.K) h2 h3 rfl h (by decide) (by decide) st rfl) (fun _ _ _ q => q) ha st
  · exact sb_1 (fun t h => pe_callB cv_abs h2 h3 rfl h (by decide) (by decide) st rfl) (fun _ _ _ q => q) ha st
  · exact sb_1 (fun t h => pe_callTy cv_int h2 h3 rfl h (by decide) (by decide) st rfl) (fun _ _ _ q => q) ha st
  · exact sb_1 (fun t h => pe_callB (cv_repr F.K F.gu F.un) h2 h3 rfl h (by decide) (by decide) st rfl) (fun _ _ _ q => q) ha st
  · exact sb_1 (fun t h => pe_callB (cv_all F.K F.calm) h2 h3 rfl h (by decide) (by decide) st rfl) (fun _ _ _ q => q) ha st
  · exact sb_1 (fun t h => pe_callB (cv_any F.K F.calm) h2 h3 rfl h (by decide) (by decide) st rfl) (fun _ _ _ q => q) ha st
  · exact sb_1 (fun t h => pe_callTy (cv_tuple F.K) h2 h3 rfl h (by decide) (by decide) st rfl) (fun _ _ _ q => q) ha st
  · exact sb_1 (fun t h => pe_callTy (cv_list F.K) h2 h3 rfl h (by decide) (by decide) st rfl) (fun _ _ _ q => q) ha st
theorem bi2_sound (F : Fit p X c) {f : BI} {g : String} {x : Str} {nm pos : Pos} {a b : Expr} {la lb : LE} (e : biN2 f = some g) (h : nameIs c g x = true) (hs : noStar a = true) (hs2 : noStar b = true) (ha : PE X a (tE p la)) (hb : PE X b (tE p lb)) : PE X (.Call (.Name x nm) [a, b] [] pos) (tE p (.bi2 f la lb)) := by
  obtain ⟨h1, h2, h3⟩ := nm_of F h
  subst h1
  have st := star_of (es := [b]) (env := X.env) hs
  have st2 := star_of (es := []) (env := X.env) hs2
  have pl : (backTo pos (starEach [b] X.env)).any (·.1) = false := by rw [st2]; rfl
  cases f <;> cases e
  · exact sb_2 (fun t h => pe_callB (cv_max F.calm) h2 h3 rfl h (by decide) (by decide) st pl) (fun _ _ _ q => q) ha hb st st2
  · exact sb_2 (fun t h => pe_callB (cv_min F.calm) h2 h3 rfl h (by decide) (by decide) st pl) (fun _ _ _ q => q) ha hb st st2
theorem ty_sound (F : Fit p X c) {t : String} {y : Str} {pos : Pos} (ht : t ∈ ["int", "str", "tuple", "list", "bool"]) (h : nameIs c t y = true) : PE X (.Name y pos) (tC (.ty t)) := by
  obtain ⟨h1, h2, h3⟩ := nm_of F h
  subst h1
  simp only [List.mem_cons, List.not_mem_nil, or_false] at ht
  rcases ht with rfl | rfl | rfl | rfl | rfl <;> exact pe_bltn h2 h3 rfl rfl (by decide) (by decide)
/-! ### soundness -/
mutual
theorem soundE : ∀ (le : LE) {p : Px} {X : Cx} {c : Sc}, Fit p X c → ∀ e : Expr, okE le c e = true → PE X e (tE p le)
  | .var i, p, X, c, F, e, h => by
    simp only [okE] at h
    split at h
    · simp only [Bool.and_eq_true, decide_eq_true_eq] at h
      obtain ⟨⟨h1, h2⟩, h3⟩ := h
      exact se_var (by rw [F.N]; exact h1) (by rw [F.sc]; exact vis_of h2) (dbg_of h3).1 (dbg_of h3).2
    · cases h
  | .cst d, p, X, c, F, e, h => by
    simp only [okE] at h
    split at h
    · exact cst_sound h
    · cases h
  | .glob x, p, X, c, F, e, h => by
    simp only [okE] at h
    split at h
    · simp only [Bool.and_eq_true, decide_eq_true_eq] at h
      obtain ⟨⟨h1, h2⟩, h3⟩ := h
      subst h1
      cases q : p.G.consts.lookup x with
      | none => exact ⟨fun pins s σ H Q I ⟨ρ, S, μ, hS, hρ, h⟩ => by
          unfold evalE at h
          rw [q] at h
          exact h.elim⟩
      | some d =>
        obtain ⟨u, v, e1, r, rr⟩ := F.const x d q
        exact se_glob q (pe_glob (gl_of F h2) e1 r (dbg_of h3).1) rr
    · cases h
  | .tup es, p, X, c, F, e, h => by
    simp only [okE] at h
    split at h
    · exact se_tup (soundA es F _ h)
    · cases h
  | .lst es, p, X, c, F, e, h => by
    simp only [okE] at h
    split at h
    · exact se_lst (soundA es F _ h)
    · cases h
  | .bin op a b, p, X, c, F, e, h => by
    simp only [okE] at h
    split at h
    · simp only [Bool.and_eq_true, decide_eq_true_eq] at h
      obtain ⟨⟨h1, h2⟩, h3⟩ := h
      subst h1
      exact se_bin F.K _ (soundE a F _ h2) (soundE b F _ h3)
    · cases h
  | .neg a, p, X, c, F, e, h => by
    simp only [okE] at h
    split at h
    · exact se_neg (soundE a F _ h)
    · cases h
  | .cmp op a b, p, X, c, F, e, h => by
    simp only [okE] at h
    split at h
    · simp only [Bool.and_eq_true, decide_eq_true_eq, Bool.not_eq_true'] at h
      obtain ⟨⟨⟨h1, h2⟩, h3⟩, h4⟩ := h
      subst h1
      exact se_cmp F.K F.w F.un _ h2 (soundE a F _ h3) (soundE b F _ h4)
    · cases h
  | .chain o1 o2 a b d, p, X, c, F, e, h => by
    simp only [okE] at h
    split at h
    · simp only [Bool.and_eq_true, decide_eq_true_eq, Bool.not_eq_true'] at h
      obtain ⟨⟨⟨⟨⟨h1, h2⟩, h3⟩, h4⟩, h5⟩, h6⟩ := h
      subst h1 h2
      exact se_chain F.K F.w F.un _ _ h3 (soundE a F _ h4) (soundE b F _ h5) (soundE d F _ h6)
    · cases h
  | .and2 a b, p, X, c, F, e, h => by
    simp only [okE] at h
    split at h
    · simp only [Bool.and_eq_true] at h
      exact se_and (soundE a F _ h.1) (soundE b F _ h.2)
    · cases h
  | .or2 a b, p, X, c, F, e, h => by
    simp only [okE] at h
    split at h
    · simp only [Bool.and_eq_true] at h
      exact se_or (soundE a F _ h.1) (soundE b F _ h.2)
    · cases h
  | .one a, p, X, c, F, e, h => by
    simp only [okE] at h
    split at h
    · exact se_one (soundE a F _ h)
    · cases h
  | .not1 a, p, X, c, F, e, h => by
    simp only [okE] at h
    split at h
    · exact se_not (soundE a F _ h)
    · cases h
  | .ite t a b, p, X, c, F, e, h => by
    simp only [okE] at h
    split at h
    · simp only [Bool.and_eq_true] at h
      exact se_ite (soundT t F _ h.1.1).1 (soundE a F _ h.1.2) (soundE b F _ h.2)
    · cases h
  | .idx a i, p, X, c, F, e, h => by
    simp only [okE] at h
    split at h
    · simp only [Bool.and_eq_true] at h
      exact se_idx F.K F.w (soundE a F _ h.1.2) (soundE i F _ h.2) (plainIx_of h.1.1)
    · cases h
  | .didx ks ns i, p, X, c, F, e, h => by
    simp only [okE] at h
    split at h
    · simp only [Bool.and_eq_true, decide_eq_true_eq, Bool.not_eq_true'] at h
      obtain ⟨⟨⟨⟨⟨h1, h2⟩, h3⟩, h4⟩, h5⟩, h6⟩ := h
      exact se_didx (by have := F.un; omega) (disp_sound h1) (fun z => by rw [z] at h2; cases h2) h3 h4 (soundE i F _ h6) (noSl_of h5)
    · cases h
  | .slice a lo hi, p, X, c, F, e, h => by
    simp only [okE] at h
    split at h
    · simp only [Bool.and_eq_true] at h
      exact se_slice F.K (soundE a F _ h.1.1) (soundP lo F _ h.1.2) (soundP hi F _ h.2)
    · cases h
  | .call f es, p, X, c, F, e, h => by
    simp only [okE] at h
    split at h
    · simp only [Bool.and_eq_true, decide_eq_true_eq] at h
      obtain ⟨⟨⟨⟨h1, h2⟩, h3⟩, h4⟩, h5⟩ := h
      subst h1
      obtain ⟨k, fa, fd, ps, FN, hr, hm, hk, hb⟩ := F.defs _ h3
      rename_i es' pos
      cases es with
      | nil =>
        cases es' with
        | nil => exact se_call0 FN F.gu hr (gl_of F h2) hm hk hb F.tk (dbg_of h4).1
        | cons _ _ => simp [okA] at h5
      | cons l les =>
        cases es' with
        | nil => simp [okA] at h5
        | cons e' es' =>
          have ha := soundA (l :: les) F _ h5
          simp only [okA, Bool.and_eq_true] at h5
          exact se_call FN F.gu hr (gl_of F h2) hm hk hb F.tk ha (dbg_of h4).1 (star_of h5.1.2) (plain_star h5.2)
    · cases h
  | .bi1 f a, p, X, c, F, e, h => by
    simp only [okE] at h
    split at h
    · rename_i g _ _ _ _ q
      simp only [Bool.and_eq_true] at h
      exact bi1_sound F q h.1.1 h.1.2 (soundE a F _ h.2)
    · cases h
  | .bi2 f a b, p, X, c, F, e, h => by
    simp only [okE] at h
    split at h
    · rename_i g _ _ _ _ _ q
      simp only [Bool.and_eq_true] at h
      obtain ⟨⟨⟨⟨h1, h2⟩, h3⟩, h4⟩, h5⟩ := h
      exact bi2_sound F q h1 h2 h3 (soundE a F _ h4) (soundE b F _ h5)
    · cases h
  | .join a b, p, X, c, F, e, h => by
    simp only [okE] at h
    split at h
    · simp only [Bool.and_eq_true, decide_eq_true_eq] at h
      obtain ⟨⟨⟨⟨⟨h1, h2⟩, h3⟩, h4⟩, h5⟩, h6⟩ := h
      subst h1
      exact se_join F.K (soundE a F _ h5) (soundE b F _ h6) (star_of h2) (base_of h3) h4
    · cases h
  | .isi a t, p, X, c, F, e, h => by
    simp only [okE] at h
    split at h
    · simp only [Bool.and_eq_true, decide_eq_true_eq] at h
      obtain ⟨⟨⟨⟨h1, h2⟩, h3⟩, h4⟩, h5⟩ := h
      obtain ⟨e1, g1, m1⟩ := nm_of F h1
      subst e1
      exact se_isi F.K g1 m1 (ty_sound F h2 h3) (star_of h4) (soundE a F _ h5)
    · cases h
  | .comp elt tg it tst own, p, X, c, F, e, h => by
    simp only [okE] at h
    split at h
    · simp only [Bool.and_eq_true, List.all_eq_true, decide_eq_true_eq] at h
      obtain ⟨⟨⟨⟨⟨⟨h1, h2⟩, h3⟩, h4⟩, h5⟩, h6⟩, h7⟩ := h
      exact se_comp F.K F.calm F.nd (soundI it F _ _ h1) (by rw [F.N, F.sc]; exact blkOk_by h2) h4 (fun s H C cl fp => okG_sound (F.blk s H _ cl C fp) _ _ h3)
        (fun s H C cl fp => soundF tst (F.blk s H _ cl C fp) _ h5) (fun s H C cl fp => soundE elt (F.blk s H _ cl C fp) _ h6) (set_of h7)
    · cases h
  | .share a, p, X, c, F, e, h => by
    simp only [okE] at h
    exact se_share (soundE a F e h)
  | .nopart, p, X, c, F, e, h => by simp [okE] at h
  | .rng1 _, p, X, c, F, e, h => by simp [okE] at h
  | .rng2 _ _, p, X, c, F, e, h => by simp [okE] at h
  | .enum _, p, X, c, F, e, h => by simp [okE] at h
  | .tru _, p, X, c, F, e, h => by simp [okE] at h
  | .pt _, p, X, c, F, e, h => by simp [okE] at h
  | .sq _, p, X, c, F, e, h => by simp [okE] at h
theorem soundA : ∀ (les : List LE) {p : Px} {X : Cx} {c : Sc}, Fit p X c → ∀ es : List Expr, okA les c es = true → PA X es (tVs p les)
  | [], p, X, c, F, es, h => by
    simp only [okA, List.isEmpty_iff] at h
    subst h
    exact sa_nil
  | l :: les, p, X, c, F, es, h => by
    simp only [okA] at h
    split at h
    · simp only [Bool.and_eq_true] at h
      exact sa_cons (soundE l F _ h.1.1) (soundA les F _ h.2) (star_of h.1.2)
    · cases h
theorem soundP : ∀ (le : LE) {p : Px} {X : Cx} {c : Sc}, Fit p X c → ∀ e : Option Expr, okP le c e = true → PO X e (tP p le)
  | .nopart, p, X, c, F, e, h => by
    simp only [okP, Option.isNone_iff_eq_none] at h
    subst h
    exact sp_none
  | .pt a, p, X, c, F, e, h => by
    simp only [okP] at h
    split at h
    · exact sp_some (soundE a F _ h)
    · cases h
  | .var _, p, X, c, F, e, h => by simp [okP] at h
  | .cst _, p, X, c, F, e, h => by simp [okP] at h
  | .glob _, p, X, c, F, e, h => by simp [okP] at h
  | .tup _, p, X, c, F, e, h => by simp [okP] at h
  | .lst _, p, X, c, F, e, h => by simp [okP] at h
  | .bin _ _ _, p, X, c, F, e, h => by simp [okP] at h
  | .neg _, p, X, c, F, e, h => by simp [okP] at h
  | .cmp _ _ _, p, X, c, F, e, h => by simp [okP] at h
  | .chain _ _ _ _ _, p, X, c, F, e, h => by simp [okP] at h
  | .and2 _ _, p, X, c, F, e, h => by simp [okP] at h
  | .or2 _ _, p, X, c, F, e, h => by simp [okP] at h
  | .one _, p, X, c, F, e, h => by simp [okP] at h
  | .not1 _, p, X, c, F, e, h => by simp [okP] at h
  | .ite _ _ _, p, X, c, F, e, h => by simp [okP] at h
  | .idx _ _, p, X, c, F, e, h => by simp [okP] at h
  | .didx _ _ _, p, X, c, F, e, h => by simp [okP] at h
  | .slice _ _ _, p, X, c, F, e, h => by simp [okP] at h
  | .call _ _, p, X, c, F, e, h => by simp [okP] at h
  | .bi1 _ _, p, X, c, F, e, h => by simp [okP] at h
  | .bi2 _ _ _, p, X, c, F, e, h => by simp [okP] at h
  | .join _ _, p, X, c, F, e, h => by simp [okP] at h
  | .isi _ _, p, X, c, F, e, h => by simp [okP] at h
  | .comp _ _ _ _ _, p, X, c, F, e, h => by simp [okP] at h
  | .share _, p, X, c, F, e, h => by simp [okP] at h
  | .rng1 _, p, X, c, F, e, h => by simp [okP] at h
  | .rng2 _ _, p, X, c, F, e, h => by simp [okP] at h
  | .enum _, p, X, c, F, e, h => by simp [okP] at h
  | .tru _, p, X, c, F, e, h => by simp [okP] at h
  | .sq _, p, X, c, F, e, h => by simp [okP] at h
theorem soundT : ∀ (le : LE) {p : Px} {X : Cx} {c : Sc}, Fit p X c → ∀ e : Expr, okT le c e = true → PT X e (tT p le) ∧ (∀ o vs pos, e = .BoolOp o vs pos → PW X e (tT p le))
  | .not1 a, p, X, c, F, e, h => by
    simp only [okT] at h
    split at h
    · exact ⟨st_not (soundT a F _ h).1, fun _ _ _ z => nomatch z⟩
    · cases h
  | .and2 a b, p, X, c, F, e, h => by
    simp only [okT] at h
    split at h
    · simp only [Bool.and_eq_true] at h
      have q := sw_and (soundT a F _ h.1).1 ((soundT b F _ h.2).2 _ _ _ rfl)
      exact ⟨q.pt, fun _ _ _ _ => q⟩
    · cases h
  | .or2 a b, p, X, c, F, e, h => by
    simp only [okT] at h
    split at h
    · simp only [Bool.and_eq_true] at h
      have q := sw_or (soundT a F _ h.1).1 ((soundT b F _ h.2).2 _ _ _ rfl)
      exact ⟨q.pt, fun _ _ _ _ => q⟩
    · cases h
  | .one a, p, X, c, F, e, h => by
    simp only [okT] at h
    split at h
    · exact ⟨(sw_one (soundT a F _ h).1).pt, fun _ _ _ _ => sw_one (soundT a F _ h).1⟩
    · cases h
  | .cmp op a b, p, X, c, F, e, h => by
    simp only [okT] at h
    split at h
    · simp only [Bool.and_eq_true, decide_eq_true_eq, Bool.not_eq_true'] at h
      obtain ⟨⟨⟨h1, h2⟩, h3⟩, h4⟩ := h
      subst h1
      exact ⟨st_cmp F.K F.w F.un _ h2 (soundE a F _ h3) (soundE b F _ h4), fun _ _ _ z => nomatch z⟩
    · cases h
  | .chain o1 o2 a b d, p, X, c, F, e, h => by
    simp only [okT] at h
    split at h
    · simp only [Bool.and_eq_true, decide_eq_true_eq, Bool.not_eq_true'] at h
      obtain ⟨⟨⟨⟨⟨h1, h2⟩, h3⟩, h4⟩, h5⟩, h6⟩ := h
      subst h1 h2
      exact ⟨st_chain F.K F.w F.un _ _ h3 (soundE a F _ h4) (soundE b F _ h5) (soundE d F _ h6), fun _ _ _ z => nomatch z⟩
    · cases h
  | .tru a, p, X, c, F, e, h => by
    simp only [okT, Bool.and_eq_true] at h
    exact ⟨st_tru F.K (soundE a F _ h.2) (isT_of h.1), fun _ _ _ z => by subst z; cases h.1⟩
  | .var _, p, X, c, F, e, h => by simp [okT] at h
  | .cst _, p, X, c, F, e, h => by simp [okT] at h
  | .glob _, p, X, c, F, e, h => by simp [okT] at h
  | .tup _, p, X, c, F, e, h => by simp [okT] at h
  | .lst _, p, X, c, F, e, h => by simp [okT] at h
  | .bin _ _ _, p, X, c, F, e, h => by simp [okT] at h
  | .neg _, p, X, c, F, e, h => by simp [okT] at h
  | .ite _ _ _, p, X, c, F, e, h => by simp [okT] at h
  | .idx _ _, p, X, c, F, e, h => by simp [okT] at h
  | .didx _ _ _, p, X, c, F, e, h => by simp [okT] at h
  | .slice _ _ _, p, X, c, F, e, h => by simp [okT] at h
  | .call _ _, p, X, c, F, e, h => by simp [okT] at h
  | .bi1 _ _, p, X, c, F, e, h => by simp [okT] at h
  | .bi2 _ _ _, p, X, c, F, e, h => by simp [okT] at h
  | .join _ _, p, X, c, F, e, h => by simp [okT] at h
  | .isi _ _, p, X, c, F, e, h => by simp [okT] at h
  | .comp _ _ _ _ _, p, X, c, F, e, h => by simp [okT] at h
  | .share _, p, X, c, F, e, h => by simp [okT] at h
  | .nopart, p, X, c, F, e, h => by simp [okT] at h
  | .pt _, p, X, c, F, e, h => by simp [okT] at h
  | .rng1 _, p, X, c, F, e, h => by simp [okT] at h
  | .rng2 _ _, p, X, c, F, e, h => by simp [okT] at h
  | .enum _, p, X, c, F, e, h => by simp [okT] at h
  | .sq _, p, X, c, F, e, h => by simp [okT] at h
theorem soundF : ∀ (le : LE) {p : Px} {X : Cx} {c : Sc}, Fit p X c → ∀ es : List Expr, okF le c es = true → PTs X es (tT p le)
  | .nopart, p, X, c, F, es, h => by
    simp only [okF, List.isEmpty_iff] at h
    subst h
    exact sts_nil
  | .tru a, p, X, c, F, es, h => by
    simp only [okF] at h
    split at h
    · simp only [Bool.and_eq_true] at h
      exact pts_one (st_tru F.K (soundE a F _ h.2) (isT_of h.1))
    · cases h
  | .cmp op a b, p, X, c, F, es, h => by
    simp only [okF] at h
    split at h
    · simp only [Bool.and_eq_true, decide_eq_true_eq, Bool.not_eq_true'] at h
      obtain ⟨⟨⟨h1, h2⟩, h3⟩, h4⟩ := h
      subst h1
      exact pts_one (st_cmp F.K F.w F.un _ h2 (soundE a F _ h3) (soundE b F _ h4))
    · cases h
  | .not1 a, p, X, c, F, es, h => by
    simp only [okF] at h
    split at h
    · exact pts_one (st_not (soundT a F _ h).1)
    · cases h
  | .and2 a b, p, X, c, F, es, h => by
    simp only [okF] at h
    split at h
    · simp only [Bool.and_eq_true] at h
      exact pts_one (sw_and (soundT a F _ h.1).1 ((soundT b F _ h.2).2 _ _ _ rfl)).pt
    · cases h
  | .or2 a b, p, X, c, F, es, h => by
    simp only [okF] at h
    split at h
    · simp only [Bool.and_eq_true] at h
      exact pts_one (sw_or (soundT a F _ h.1).1 ((soundT b F _ h.2).2 _ _ _ rfl)).pt
    · cases h
  | .one _, p, X, c, F, e, h => by simp [okF] at h
  | .chain _ _ _ _ _, p, X, c, F, e, h => by simp [okF] at h
  | .var _, p, X, c, F, e, h => by simp [okF] at h
  | .cst _, p, X, c, F, e, h => by simp [okF] at h
  | .glob _, p, X, c, F, e, h => by simp [okF] at h
  | .tup _, p, X, c, F, e, h => by simp [okF] at h
  | .lst _, p, X, c, F, e, h => by simp [okF] at h
  | .bin _ _ _, p, X, c, F, e, h => by simp [okF] at h
  | .neg _, p, X, c, F, e, h => by simp [okF] at h
  | .ite _ _ _, p, X, c, F, e, h => by simp [okF] at h
  | .idx _ _, p, X, c, F, e, h => by simp [okF] at h
  | .didx _ _ _, p, X, c, F, e, h => by simp [okF] at h
  | .slice _ _ _, p, X, c, F, e, h => by simp [okF] at h
  | .call _ _, p, X, c, F, e, h => by simp [okF] at h
  | .bi1 _ _, p, X, c, F, e, h => by simp [okF] at h
  | .bi2 _ _ _, p, X, c, F, e, h => by simp [okF] at h
  | .join _ _, p, X, c, F, e, h => by simp [okF] at h
  | .isi _ _, p, X, c, F, e, h => by simp [okF] at h
  | .comp _ _ _ _ _, p, X, c, F, e, h => by simp [okF] at h
  | .share _, p, X, c, F, e, h => by simp [okF] at h
  | .pt _, p, X, c, F, e, h => by simp [okF] at h
  | .rng1 _, p, X, c, F, e, h => by simp [okF] at h
  | .rng2 _ _, p, X, c, F, e, h => by simp [okF] at h
  | .enum _, p, X, c, F, e, h => by simp [okF] at h
  | .sq _, p, X, c, F, e, h => by simp [okF] at h
theorem soundI : ∀ (le : LE) {p : Px} {X : Cx} {c : Sc}, Fit p X c → ∀ e t : Expr, okI le c e t = true → PI X t e (tI p le)
  | .sq a, p, X, c, F, e, t, h => by
    simp only [okI] at h
    exact si_sq F.K (soundE a F _ h)
  | .rng1 a, p, X, c, F, e, t, h => by
    simp only [okI] at h
    split at h
    · simp only [Bool.and_eq_true] at h
      obtain ⟨e1, g1, m1⟩ := nm_of F h.1.1
      subst e1
      exact si_rng1 g1 m1 (star_of h.1.2) (soundE a F _ h.2)
    · cases h
  | .rng2 a b, p, X, c, F, e, t, h => by
    simp only [okI] at h
    split at h
    · simp only [Bool.and_eq_true] at h
      obtain ⟨⟨⟨⟨h1, h2⟩, h3⟩, h4⟩, h5⟩ := h
      obtain ⟨e1, g1, m1⟩ := nm_of F h1
      subst e1
      exact si_rng2 g1 m1 (by rw [star_of h2, star_of h3]; rfl) (star_of h3) (soundE a F _ h4) (soundE b F _ h5)
    · cases h
  | .enum a, p, X, c, F, e, t, h => by
    simp only [okI] at h
    split at h
    · simp only [Bool.and_eq_true] at h
      obtain ⟨e1, g1, m1⟩ := nm_of F h.1.1
      subst e1
      exact si_enum F.K g1 m1 (star_of h.1.2) (soundE a F _ h.2)
    · cases h
  | .var _, p, X, c, F, e, t, h => by simp [okI] at h
  | .cst _, p, X, c, F, e, t, h => by simp [okI] at h
  | .glob _, p, X, c, F, e, t, h => by simp [okI] at h
  | .tup _, p, X, c, F, e, t, h => by simp [okI] at h
  | .lst _, p, X, c, F, e, t, h => by simp [okI] at h
  | .bin _ _ _, p, X, c, F, e, t, h => by simp [okI] at h
  | .neg _, p, X, c, F, e, t, h => by simp [okI] at h
  | .cmp _ _ _, p, X, c, F, e, t, h => by simp [okI] at h
  | .chain _ _ _ _ _, p, X, c, F, e, t, h => by simp [okI] at h
  | .and2 _ _, p, X, c, F, e, t, h => by simp [okI] at h
  | .or2 _ _, p, X, c, F, e, t, h => by simp [okI] at h
  | .one _, p, X, c, F, e, t, h => by simp [okI] at h
  | .not1 _, p, X, c, F, e, t, h => by simp [okI] at h
  | .ite _ _ _, p, X, c, F, e, t, h => by simp [okI] at h
  | .idx _ _, p, X, c, F, e, t, h => by simp [okI] at h
  | .didx _ _ _, p, X, c, F, e, t, h => by simp [okI] at h
  | .slice _ _ _, p, X, c, F, e, t, h => by simp [okI] at h
  | .call _ _, p, X, c, F, e, t, h => by simp [okI] at h
  | .bi1 _ _, p, X, c, F, e, t, h => by simp [okI] at h
  | .bi2 _ _ _, p, X, c, F, e, t, h => by simp [okI] at h
  | .join _ _, p, X, c, F, e, t, h => by simp [okI] at h
  | .isi _ _, p, X, c, F, e, t, h => by simp [okI] at h
  | .comp _ _ _ _ _, p, X, c, F, e, t, h => by simp [okI] at h
  | .share _, p, X, c, F, e, t, h => by simp [okI] at h
  | .nopart, p, X, c, F, e, t, h => by simp [okI] at h
  | .pt _, p, X, c, F, e, t, h => by simp [okI] at h
  | .tru _, p, X, c, F, e, t, h => by simp [okI] at h
end
end
end Pl
end

section
set_option Elab.async false
set_option linter.all false
set_option maxRecDepth 100000
/-! Statements: what the interpreter says, the machine does. -/
namespace Pl
open PySem PySem.Spec PyProof.Rows L2

/-- the frame within a call that began at μ0, H0 -/
structure FrOk (p : Px) (μ0 : List Addr) (H0 : Hp) (μ : List Addr) (H : Hp) (S : Sto) (ρ : Env) (σ : L2.St) : Prop where
  st : Stp μ0 H0 μ H
  S : StOk p.K p.w μ H S
  E : EnvOk p.K p.w μ H ρ σ
  fresh : ∀ (i : Nat) (xs : List D) (a : Addr), ρ[i]? = some (some (.own xs)) → σ[i]? = some (some (V.ref a)) → H0 a = none
/-- wherever the statements' end stands, what is wished holds -/
def WS (p : Px) (μ0 : List Addr) (H0 : Hp) (μ : List Addr) (H : Hp) (r : SR) (D : Ends) : Prop := match r with
  | .next ρ' S' => ∀ σ' μ' H', FrOk p μ0 H0 μ' H' S' ρ' σ' → Kx μ H μ' H' → D.nx σ' H'
  | .brk ρ' S' => ∀ σ' μ' H', FrOk p μ0 H0 μ' H' S' ρ' σ' → Kx μ H μ' H' → D.bk σ' H'
  | .cont ρ' S' => ∀ σ' μ' H', FrOk p μ0 H0 μ' H' S' ρ' σ' → Kx μ H μ' H' → D.ct σ' H'
  | .ret v S' => ∀ u μ' H', Stp μ0 H0 μ' H' → StOk p.K p.w μ' H' S' → RE p H0 v μ' H' u → D.rt u H'
  | .exc c ρ' S' => ∀ σ' μ' H', FrOk p μ0 H0 μ' H' S' ρ' σ' → Kx μ H μ' H' → p.W (clsV p.K c) none σ' H'
  | .stuck => False
section
variable {p : Px} {μ0 μ μ1 : List Addr} {H0 H H1 : Hp} {S S1 : Sto} {ρ : Env} {σ : L2.St} {r : SR} {D : Ends}
theorem FrOk.step (F : FrOk p μ0 H0 μ H S ρ σ) (st : Stp μ H μ1 H1) (hS : StOk p.K p.w μ1 H1 S1) : FrOk p μ0 H0 μ1 H1 S1 ρ σ := ⟨F.st.trans F.S st, hS, F.E.stp st F.S, F.fresh⟩
theorem WS.shift (h : WS p μ0 H0 μ H r D) (k : Kx μ H μ1 H1) : WS p μ0 H0 μ1 H1 r D := by
  cases r with
  | next ρ S => exact fun σ' μ' H' F k' => h σ' μ' H' F (k.trans k')
  | brk ρ S => exact fun σ' μ' H' F k' => h σ' μ' H' F (k.trans k')
  | cont ρ S => exact fun σ' μ' H' F k' => h σ' μ' H' F (k.trans k')
  | ret v S => exact h
  | exc c ρ S => exact fun σ' μ' H' F k' => h σ' μ' H' F (k.trans k')
  | stuck => exact h
theorem WS.expr {α β : Type} {R : Hp → α → List Addr → Hp → β → Prop} {r : Res α} {f : α → Sto → SR} (h : WS p μ0 H0 μ H (r.to ρ f) D) (F : FrOk p μ0 H0 μ H S ρ σ) :
    Wp p σ R μ H r (fun u H1 => ∃ a S1 μ1, Mid p σ ρ R μ H a S1 μ1 u H1 ∧ FrOk p μ0 H0 μ1 H1 S1 ρ σ ∧ WS p μ0 H0 μ1 H1 (f a S1) D) := by
  cases r with
  | ok a S' => exact fun u μ' H' st hS q => ⟨a, S', μ', ⟨st, hS, F.E.stp st F.S, q⟩, F.step st hS, WS.shift h (st.kx F.S)⟩
  | exc c S' => exact fun μ' H' st hS => h σ μ' H' (F.step st hS) (st.kx F.S)
  | stuck => exact h
end
/-- the frame's state is the interpreter's -/
def AtS (p : Px) (μ0 : List Addr) (H0 : Hp) (σ : L2.St) (H : Hp) (f : Env → Sto → List Addr → Prop) : Prop := ∃ ρ S μ, FrOk p μ0 H0 μ H S ρ σ ∧ f ρ S μ
def tS (p : Px) (μ0 : List Addr) (H0 : Hp) (s : LS) : TS := fun D σ H => AtS p μ0 H0 σ H fun ρ S μ => WS p μ0 H0 μ H (exec p.G p.call s ρ S) D
def tSs (p : Px) (μ0 : List Addr) (H0 : Hp) (s : List LS) : TS := fun D σ H => AtS p μ0 H0 σ H fun ρ S μ => WS p μ0 H0 μ H (execs p.G p.call s ρ S) D
theorem _root_.L2.PS.mono {X : Cx} {s : Stmt} {t t' : TS} (h : PS X s t) (k : ∀ D σ H, t' D σ H → t D σ H) : PS X s t' := ⟨fun pins s σ H Q I q => h.run pins s σ H Q I (k _ _ _ q)⟩
theorem _root_.L2.PSs.mono {X : Cx} {s : List Stmt} {t t' : TS} (h : PSs X s t) (k : ∀ D σ H, t' D σ H → t D σ H) : PSs X s t' := ⟨fun pins s σ H Q I q => h.run pins s σ H Q I (k _ _ _ q)⟩

/-! ### writing at a list -/
theorem nodup_at {α : Type} {a : α} : ∀ {l : List α} {n k : Nat}, l.Nodup → l[n]? = some a → l[k]? = some a → n = k
  | [], _, _, _, h, _ => by simp at h
  | x :: l, 0, 0, _, _, _ => rfl
  | x :: l, 0, k + 1, nd, h, q => by
    simp at h q
    subst h
    exact ((List.nodup_cons.mp nd).1 (List.mem_of_getElem? q)).elim
  | x :: l, n + 1, 0, nd, h, q => by
    simp at h q
    subst q
    exact ((List.nodup_cons.mp nd).1 (List.mem_of_getElem? h)).elim
  | x :: l, n + 1, k + 1, nd, h, q => by
    simp at h q
    rw [nodup_at (List.nodup_cons.mp nd).2 h q]
section
variable {p : Px} {μ0 μ : List Addr} {H0 H : Hp} {S : Sto} {ρ : Env} {σ : L2.St}
theorem kp_lst {a : Addr} {vs : List V} {o : HO} (e : H a = some (.lst vs)) : Kp H (upd H a o) := fun b u q n => by
  rw [upd_ne (fun z => n (by rw [z, e] at q; cases q; trivial))]
  exact q
/-- slot i's own list becomes something else -/
theorem EnvOk.put {K : PySem.W.Frag} {w : World} {i : Nat} {xs : List D} {a : Addr} {vs : List V} {o : HO} {e : EV} (h : EnvOk K w μ H ρ σ) (h1 : ρ[i]? = some (some (.own xs))) (h2 : σ[i]? = some (some (.ref a))) (h3 : H a = some (.lst vs))
    (r : RepEV K w μ (upd H a o) e (.ref a)) (nb : ∀ ys, e ≠ .brw ys) : EnvOk K w μ (upd H a o) (ρ.set i (some e)) σ := by
  have hl := (List.getElem?_eq_some_iff.mp h1).1
  have kp := kp_lst (o := o) h3
  have ow : ∀ {j : Nat} {ys : List D} {b : Addr}, i ≠ j → ρ[j]? = some (some (.own ys)) → σ[j]? = some (some (V.ref b)) → b ≠ a := fun {j ys b} ne q1 q2 z => by
    subst z
    exact ne (h.apart i j b xs ys h1 q1 h2 q2)
  refine ⟨by rw [List.length_set]; exact h.len, fun j e' q => ?_, fun j k b ys zs q1 q2 q3 q4 => ?_, fun j ys q => ?_⟩
  · by_cases ne : i = j
    · subst ne
      rw [List.getElem?_set_self hl] at q
      cases q
      exact ⟨_, h2, r⟩
    · rw [List.getElem?_set_ne ne] at q
      obtain ⟨v, e1, r1⟩ := h.at_ j e' q
      refine ⟨v, e1, ?_⟩
      cases e' with
      | d x => exact Rep.mono (List.prefix_refl _) kp x v r1
      | own ys =>
        obtain ⟨b, us, rfl, g1, g2, g3⟩ := r1
        exact ⟨b, us, rfl, by rw [upd_ne (ow ne q e1)]; exact g1, RepL.mono (List.prefix_refl _) kp _ _ g2, g3⟩
      | brw ys => exact (h.nobrw j ys q).elim
  · by_cases n1 : i = j
    · by_cases n2 : i = k
      · rw [← n1, ← n2]
      · subst n1
        rw [List.getElem?_set_ne n2] at q2
        rw [h2] at q3
        cases q3
        exact (ow n2 q2 q4 rfl).elim
    · rw [List.getElem?_set_ne n1] at q1
      by_cases n2 : i = k
      · subst n2
        rw [h2] at q4
        cases q4
        exact (ow n1 q1 q3 rfl).elim
      · rw [List.getElem?_set_ne n2] at q2
        exact h.apart j k b ys zs q1 q2 q3 q4
  · by_cases n1 : i = j
    · subst n1
      rw [List.getElem?_set_self hl] at q
      cases q
      exact nb ys rfl
    · rw [List.getElem?_set_ne n1] at q
      exact h.nobrw j ys q
theorem FrOk.putOwn {i : Nat} {xs ys : List D} {a : Addr} {vs us : List V} (F : FrOk p μ0 H0 μ H S ρ σ) (h1 : ρ[i]? = some (some (.own xs))) (h2 : σ[i]? = some (some (.ref a))) (h3 : H a = some (.lst vs)) (h4 : a ∉ μ) (g : RepL p.K p.w μ H ys us) :
    FrOk p μ0 H0 μ (upd H a (.lst us)) S (ρ.set i (some (.own ys))) σ ∧ Kx μ H μ (upd H a (.lst us)) := by
  have ha := F.fresh i xs a h1 h2
  have kp := kp_lst (o := .lst us) h3
  refine ⟨⟨⟨F.st.pre, fun b o e m => ?_, F.st.new⟩, (upd_lst_ok F.S h3 h4).1, F.E.put h1 h2 h3 ⟨a, us, rfl, upd_same, RepL.mono (List.prefix_refl _) kp _ _ g, h4⟩ (fun _ z => nomatch z), fun j zs b q1 q2 => ?_⟩, ⟨List.prefix_refl _, kp⟩⟩
  · rw [upd_ne (fun z => by rw [z, ha] at e; cases e)]
    exact F.st.keep b o e m
  · by_cases n1 : i = j
    · subst n1
      rw [h2] at q2
      cases q2
      exact ha
    · rw [List.getElem?_set_ne n1] at q1
      exact F.fresh j zs b q1 q2
theorem FrOk.frz {i : Nat} {xs : List D} {a : Addr} {vs : List V} {o : Obj} (F : FrOk p μ0 H0 μ H S ρ σ) (h1 : ρ[i]? = some (some (.own xs))) (h2 : σ[i]? = some (some (.ref a))) (h3 : H a = some (.lst vs)) (h4 : a ∉ μ) (g : RepL p.K p.w μ H xs vs) :
    FrOk p μ0 H0 μ (upd H a (.frz o (.lst vs))) S (ρ.set i (some (.d (.lst xs)))) σ ∧ Kx μ H μ (upd H a (.frz o (.lst vs))) := by
  have ha := F.fresh i xs a h1 h2
  have kp := kp_lst (o := .frz o (.lst vs)) h3
  refine ⟨⟨⟨F.st.pre, fun b o e m => ?_, F.st.new⟩, F.S.frz h3 h4, F.E.put h1 h2 h3 ?_ (fun _ z => nomatch z), fun j zs b q1 q2 => ?_⟩, ⟨List.prefix_refl _, kp⟩⟩
  · rw [upd_ne (fun z => by rw [z, ha] at e; cases e)]
    exact F.st.keep b o e m
  · show Rep p.K p.w μ _ (.lst xs) (.ref a)
    unfold Rep
    exact ⟨a, vs, rfl, .inl ⟨o, upd_same⟩, RepL.mono (List.prefix_refl _) kp _ _ g⟩
  · by_cases n1 : i = j
    · subst n1
      rw [List.getElem?_set_self (List.getElem?_eq_some_iff.mp h1).1] at q1
      cases q1
    · rw [List.getElem?_set_ne n1] at q1
      exact F.fresh j zs b q1 q2
theorem FrOk.putRef {n : Nat} {ys : List D} {a : Addr} {vs us : List V} (F : FrOk p μ0 H0 μ H S ρ σ) (h1 : μ[n]? = some a) (h3 : H a = some (.lst vs)) (g : RepL p.K p.w μ H ys us) :
    FrOk p μ0 H0 μ (upd H a (.lst us)) (S.set n (.lst ys)) ρ σ ∧ Kx μ H μ (upd H a (.lst us)) := by
  have kp := kp_lst (o := .lst us) h3
  have hm : a ∈ μ := List.mem_of_getElem? h1
  have hn : n < S.length := by rw [← F.S.len]; exact (List.getElem?_eq_some_iff.mp h1).1
  have ow : ∀ {j : Nat} {zs : List D} {b : Addr}, ρ[j]? = some (some (.own zs)) → σ[j]? = some (some (V.ref b)) → b ≠ a := fun {j zs b} q1 q2 z => by
    obtain ⟨v, e1, b', us', e2, _, _, nm⟩ := F.E.at_ j _ q1
    rw [q2] at e1
    cases e1
    cases e2
    rw [z] at nm
    exact nm hm
  refine ⟨⟨⟨F.st.pre, fun b o e m => ?_, F.st.new⟩, ⟨by rw [List.length_set]; exact F.S.len, F.S.nd, fun k b q => ?_⟩, ⟨F.E.len, fun j e q => ?_, F.E.apart, F.E.nobrw⟩, F.fresh⟩, ⟨List.prefix_refl _, kp⟩⟩
  · rw [upd_ne (fun z => ?_)]
    · exact F.st.keep b o e m
    · subst z
      rcases F.st.new b hm with q | q
      · exact m q
      · rw [e] at q; cases q
  · by_cases hk : n = k
    · subst hk
      rw [h1] at q
      cases q
      exact ⟨ys, us, List.getElem?_set_self hn, upd_same, RepL.mono (List.prefix_refl _) kp _ _ g⟩
    · obtain ⟨zs, ws, e1, e2, e3⟩ := F.S.ob k b q
      refine ⟨zs, ws, by rw [List.getElem?_set_ne hk]; exact e1, ?_, RepL.mono (List.prefix_refl _) kp _ _ e3⟩
      rw [upd_ne (fun z => ?_)]
      · exact e2
      · subst z
        exact hk (nodup_at F.S.nd h1 q)
  · obtain ⟨v, e1, r1⟩ := F.E.at_ j e q
    refine ⟨v, e1, ?_⟩
    cases e with
    | d x => exact Rep.mono (List.prefix_refl _) kp x v r1
    | own zs =>
      obtain ⟨b, ws, rfl, g1, g2, g3⟩ := r1
      exact ⟨b, ws, rfl, by rw [upd_ne (ow q e1)]; exact g1, RepL.mono (List.prefix_refl _) kp _ _ g2, g3⟩
    | brw zs => exact (F.E.nobrw j zs q).elim
end

/-! ### small statements -/
section
variable {X : Cx} {p : Px} {μ0 : List Addr} {H0 : Hp} {a b : Expr} {la lb : LE} {pos : Pos} {st : Stmt} {ss : List Stmt} {l : LS} {ls l1 l2 : List LS}
theorem ss_expr (ha : PE X a (tE p la)) (hs : swapsWith a none pos.line X.env = pure false) : PS X (.Expr a pos) (tS p μ0 H0 (.expr la)) :=
  (ps_expr ha hs).mono fun Z σ H ⟨ρ, S, μ, F, h⟩ => by
    unfold exec at h
    exact ⟨ρ, S, μ, F.S, F.E, (h.expr F).imp fun u H1 ⟨v, S1, μ1, m, F1, h1⟩ => h1 σ μ1 H1 F1 Kx.refl⟩
theorem ss_ret (ha : PE X a (tE p la)) : PS X (.Return (some a) pos) (tS p μ0 H0 (.ret la)) :=
  (ps_ret ha).mono fun Z σ H ⟨ρ, S, μ, F, h⟩ => by
    unfold exec at h
    refine ⟨ρ, S, μ, F.S, F.E, (h.expr F).imp fun u H1 ⟨v, S1, μ1, m, F1, h1⟩ => ?_⟩
    cases v with
    | d x => exact h1 u μ1 H1 F1.st F1.S ⟨m.r.1, fun _ e => nomatch e⟩
    | own xs =>
      refine h1 u μ1 H1 F1.st F1.S ⟨m.r.1, fun ys e b q => ?_⟩
      exact F.st.free F.S (m.r.2 ys e b q)
    | brw xs => exact h1.elim
theorem ss_retV {i : Nat} {x : Str} {px : Pos} (hN : X.N[i]? = some x) (hv : Vis X.env.scope x) (hd : (x == ("__debug__" : Str)) = false) (hcd : (x == ("__classdict__" : Str)) = false) : PS X (.Return (some (.Name x px)) pos) (tS p μ0 H0 (.retV i)) :=
  (ps_ret (pe_var hN hv hd hcd)).mono fun Z σ H ⟨ρ, S, μ, F, h⟩ => by
    unfold exec at h
    split at h
    · rename_i xs e
      obtain ⟨v, e1, a, vs, rfl, h3, g, h4⟩ := F.E.at_ i _ e
      exact ⟨_, e1, h _ μ H F.st F.S ⟨⟨a, vs, rfl, h3, g, h4⟩, fun ys _ b q => by cases q; exact F.fresh i xs a e e1⟩⟩
    · rename_i x e
      obtain ⟨v, e1, r⟩ := F.E.at_ i _ e
      exact ⟨_, e1, h _ μ H F.st F.S ⟨r, fun _ e => nomatch e⟩⟩
    · exact h.elim
theorem ss_retN : PS X (.Return none pos) (tS p μ0 H0 .retN) :=
  ps_retN.mono fun Z σ H ⟨ρ, S, μ, F, h⟩ => by
    unfold exec at h
    exact h .non μ H F.st F.S ⟨(of_non : Rep p.K p.w μ H .non .non), fun _ e => nomatch e⟩
theorem ss_pass : PS X (.Pass pos) (tS p μ0 H0 .pass) := ps_pass.mono fun Z σ H ⟨ρ, S, μ, F, h⟩ => by unfold exec at h; exact h σ μ H F Kx.refl
theorem ss_brk : PS X (.Break pos) (tS p μ0 H0 .brk) := ps_break.mono fun Z σ H ⟨ρ, S, μ, F, h⟩ => by unfold exec at h; exact h σ μ H F Kx.refl
theorem ss_cont : PS X (.Continue pos) (tS p μ0 H0 .cont) := ps_continue.mono fun Z σ H ⟨ρ, S, μ, F, h⟩ => by unfold exec at h; exact h σ μ H F Kx.refl
theorem ss_if {s1 s2 : List Stmt} (ha : PT X a (tT p la)) (h1 : PSs X s1 (tSs p μ0 H0 l1)) (h2 : PSs X s2 (tSs p μ0 H0 l2)) : PS X (.If a s1 s2 pos) (tS p μ0 H0 (.ifS la l1 l2)) :=
  (ps_if ha h1 h2).mono fun Z σ H ⟨ρ, S, μ, F, h⟩ => by
    unfold exec at h
    refine ⟨ρ, S, μ, F.S, F.E, (h.expr (R := RB) F).imp fun u H1 ⟨v, S1, μ1, m, F1, h1⟩ => ?_⟩
    have e : u = v := m.r
    subst e
    cases u with
    | true => exact ⟨ρ, S1, μ1, F1, h1⟩
    | false => exact ⟨ρ, S1, μ1, F1, h1⟩
theorem sss_nil : PSs X [] (tSs p μ0 H0 []) := pss_nil.mono fun Z σ H ⟨ρ, S, μ, F, h⟩ => by unfold execs at h; exact h σ μ H F Kx.refl
theorem sss_cons (h1 : PS X st (tS p μ0 H0 l)) (h2 : PSs X ss (tSs p μ0 H0 ls)) : PSs X (st :: ss) (tSs p μ0 H0 (l :: ls)) :=
  (pss_cons h1 h2).mono fun Z σ H ⟨ρ, S, μ, F, h⟩ => by
    unfold execs at h
    refine ⟨ρ, S, μ, F, ?_⟩
    cases e : Pl.exec p.G p.call l ρ S with
    | next ρ' S' =>
      rw [e] at h ⊢
      exact fun σ' μ' H' F' k => ⟨ρ', S', μ', F', WS.shift h k⟩
    | brk ρ' S' => rw [e] at h ⊢; exact h
    | cont ρ' S' => rw [e] at h ⊢; exact h
    | ret v S' => rw [e] at h ⊢; exact h
    | exc c ρ' S' => rw [e] at h ⊢; exact h
    | stuck => rw [e] at h ⊢; exact h
theorem sss_frz {i : Nat} (h2 : PSs X ss (tSs p μ0 H0 ls)) : PSs X ss (tSs p μ0 H0 (.freeze i :: ls)) := by
  refine ⟨fun pins s σ H D I ⟨ρ, S, μ, F, h⟩ => ?_⟩
  unfold execs at h
  unfold exec at h
  split at h
  · rename_i xs e
    obtain ⟨v, e1, a, vs, rfl, h3, g, h4⟩ := F.E.at_ i _ e
    obtain ⟨o, I2⟩ := Inv.freeze I h3
    obtain ⟨F2, k2⟩ := F.frz (o := o) e e1 h3 h4 g
    exact h2.run pins s σ _ D I2 ⟨_, S, μ, F2, WS.shift h k2⟩
  · exact h2.run pins s σ H D I ⟨ρ, S, μ, F, h⟩
/-! ### assignments -/
theorem ss_set1 {i : Nat} {x : Str} {px : Pos} (hN : X.N.Nodup) (hi : X.N[i]? = some x) (hx : Loc X.env.scope x) (hf : X.fn x = true ∨ X.env.scope.names.lookup x = some .local) (ha : PE X a (tE p la)) (hs : swapsWith a (some (.Name x px)) pos.line X.env = pure false) :
    PS X (.Assign [.Name x px] a pos) (tS p μ0 H0 (.set (.name i) la)) :=
  (ps_set hN hi hx ha hs hf).mono fun Z σ H ⟨ρ, S, μ, F, h⟩ => by
    unfold exec at h
    refine ⟨ρ, S, μ, F.S, F.E, (h.expr F).imp fun u H1 ⟨v, S1, μ1, m, F1, h1⟩ => ?_⟩
    show Z.nx (σ.set i (some u)) H1
    cases v with
    | brw xs => exact h1.elim
    | d x =>
      unfold setE at h1
      by_cases hl : i < ρ.length
      · simp only [hl, if_true] at h1
        refine h1 _ μ1 H1 ⟨F1.st, F1.S, F1.E.set hl m.r.1, fun j ys b q1 q2 => ?_⟩ Kx.refl
        by_cases n1 : i = j
        · subst n1
          rw [List.getElem?_set_self hl] at q1
          cases q1
        · rw [List.getElem?_set_ne n1] at q1 q2
          exact F1.fresh j ys b q1 q2
      · simp only [hl, if_false] at h1
        exact h1.elim
    | own xs =>
      unfold setE at h1
      by_cases hl : i < ρ.length
      · simp only [hl, if_true] at h1
        obtain ⟨A, vs, rfl, h2, h3, h4⟩ := m.r.1
        have hA := m.r.2 xs rfl A rfl
        have hlσ : i < σ.length := by rw [← F.E.len]; exact hl
        have ne : ∀ {j : Nat} {ys : List D}, ρ[j]? = some (some (.own ys)) → σ[j]? ≠ some (some (V.ref A)) := fun {j ys} q1 q2 => by
          obtain ⟨v, e1, b', us', e2, g1, _⟩ := F.E.at_ j _ q1
          rw [q2] at e1
          cases e1
          cases e2
          rw [hA] at g1
          cases g1
        refine h1 _ μ1 H1 ⟨F1.st, F1.S, ⟨by rw [List.length_set, List.length_set]; exact F.E.len, fun j e q => ?_, fun j k b ys zs q1 q2 q3 q4 => ?_, fun j ys q => ?_⟩, fun j ys b q1 q2 => ?_⟩ Kx.refl
        · by_cases n1 : i = j
          · subst n1
            rw [List.getElem?_set_self hl] at q
            cases q
            exact ⟨_, List.getElem?_set_self hlσ, A, vs, rfl, h2, h3, h4⟩
          · rw [List.getElem?_set_ne n1] at q ⊢
            exact F1.E.at_ j e q
        · by_cases n1 : i = j
          · by_cases n2 : i = k
            · rw [← n1, ← n2]
            · subst n1
              rw [List.getElem?_set_self hlσ] at q3
              cases q3
              rw [List.getElem?_set_ne n2] at q2 q4
              exact (ne q2 q4).elim
          · rw [List.getElem?_set_ne n1] at q1 q3
            by_cases n2 : i = k
            · subst n2
              rw [List.getElem?_set_self hlσ] at q4
              cases q4
              exact (ne q1 q3).elim
            · rw [List.getElem?_set_ne n2] at q2 q4
              exact F1.E.apart j k b ys zs q1 q2 q3 q4
        · by_cases n1 : i = j
          · subst n1
            rw [List.getElem?_set_self hl] at q
            cases q
          · rw [List.getElem?_set_ne n1] at q
            exact F1.E.nobrw j ys q
        · by_cases n1 : i = j
          · subst n1
            rw [List.getElem?_set_self hlσ] at q2
            cases q2
            exact F.st.free F.S hA
          · rw [List.getElem?_set_ne n1] at q1 q2
            exact F1.fresh j ys b q1 q2
      · simp only [hl, if_false] at h1
        exact h1.elim
/-- a frame whose slots have new data -/
theorem FrOk.same {μ : List Addr} {H : Hp} {S : Sto} {ρ ρ1 : Env} {σ σ1 : L2.St} {tg : LT} {d : D} (F : FrOk p μ0 H0 μ H S ρ σ) (e : bindT tg d ρ = some ρ1) (E : EnvOk p.K p.w μ H ρ1 σ1) (s : SameBut tg.ns σ σ1) : FrOk p μ0 H0 μ H S ρ1 σ1 := by
  have keyN : ∀ (is : List Nat) (ds : List D) (ρ ρ1 : Env), bindNames is ds ρ = some ρ1 → ∀ j xs, ρ1[j]? = some (some (EV.own xs)) → ρ[j]? = some (some (.own xs)) ∧ j ∉ is := by
    intro is
    induction is with
    | nil => intro ds ρ ρ1 e j xs q; cases ds with
      | nil => unfold bindNames at e; cases e; exact ⟨q, by simp⟩
      | cons d ds => unfold bindNames at e; cases e
    | cons i is ih => intro ds ρ ρ1 e j xs q; cases ds with
      | nil => unfold bindNames at e; cases e
      | cons d ds =>
        unfold bindNames at e
        split at e
        · rename_i hl
          obtain ⟨q1, q2⟩ := ih ds _ ρ1 e j xs q
          by_cases n1 : i = j
          · subst n1
            rw [List.getElem?_set_self hl] at q1
            cases q1
          · rw [List.getElem?_set_ne n1] at q1
            exact ⟨q1, by simp [q2, Ne.symm n1]⟩
        · cases e
  have key : ∀ j xs, ρ1[j]? = some (some (EV.own xs)) → ρ[j]? = some (some (.own xs)) ∧ j ∉ tg.ns := by
    cases tg with
    | name i =>
      intro j xs q
      unfold bindT at e
      simp only at e
      split at e
      · rename_i hl
        cases e
        by_cases n1 : i = j
        · subst n1
          rw [List.getElem?_set_self hl] at q
          cases q
        · rw [List.getElem?_set_ne n1] at q
          exact ⟨q, by simp [LT.ns, Ne.symm n1]⟩
      · cases e
    | names is =>
      intro j xs q
      cases d with
      | tup ds => exact keyN is ds ρ ρ1 e j xs q
      | _ => cases e
  refine ⟨F.st, F.S, E, fun j xs a q1 q2 => ?_⟩
  obtain ⟨k1, k2⟩ := key j xs q1
  refine F.fresh j xs a k1 ?_
  have w := congrArg (fun l => l[j]?) (s tg.ns fun _ z => z)
  simp only [wipe_get, if_neg k2] at w
  rw [← w]
  exact q2
theorem ss_setN {tg : Expr} {is : List Nat} (hg : PG X tg (tG p (.names is))) (ha : PE X a (tE p la)) (hs : swapsWithSole [tg] a pos.line X.env = pure false) (hw : swappedStores [tg] a X.env = pure none) (h1 : (assignEach [tg] X.env).map (·.2) = [assign tg X.env]) :
    PS X (.Assign [tg] a pos) (tS p μ0 H0 (.set (.names is) la)) :=
  (ps_asg ha hg hs hw h1).mono fun Z σ H ⟨ρ, S, μ, F, h⟩ => by
    unfold exec at h
    refine ⟨ρ, S, μ, F.S, F.E, (h.expr F).imp fun u H1 ⟨v, S1, μ1, m, F1, h1⟩ => ?_⟩
    cases v with
    | brw xs => exact h1.elim
    | own xs => exact h1.elim
    | d x =>
      cases x with
      | tup xs =>
        have e0 : setE (.names is) (.d (.tup xs)) ρ = bindT (.names is) (.tup xs) ρ := rfl
        cases e : bindT (.names is) (.tup xs) ρ with
        | none => rw [e0, e] at h1; exact h1.elim
        | some ρ1 =>
          rw [e0, e] at h1
          exact ⟨_, ρ, ρ1, μ1, m.r.1, F1.E, e, fun σ1 E1 same => h1 σ1 μ1 H1 (F1.same e E1 same) Kx.refl⟩
      | _ => exact h1.elim
end
end Pl
end

section
set_option Elab.async false
set_option linter.all false
set_option maxRecDepth 100000
/-! Loops, writing, raise, try. -/
namespace Pl
open PySem PySem.Spec PyProof.Rows L2

section
variable {X : Cx} {p : Px} {μ0 : List Addr} {H0 : Hp} {a b : Expr} {la lb : LE} {pos : Pos} {ls : List LS}
/-! ### for -/
theorem ss_for {tg iter : Expr} {body : List Stmt} {t : LT} (hp : PassesOwn (PySem.model X.prog X.w) X.A X.env X.xe) (hc : X.calm = true) (hi : PI X tg iter (tJ p la)) (hg : PG X tg (tG p t)) (hb : PSs X body (tSs p μ0 H0 ls)) (hs : ∀ x, foldedSetIterable iter X.env x = pure x) :
    PS X (.For tg iter body [] pos) (tS p μ0 H0 (.forS t la ls)) :=
  (ps_for hp hc hi hg hb hs).mono fun Z σ H ⟨ρ, S, μ, F, h⟩ => by
    unfold exec at h
    refine ⟨ρ, S, μ, F.S, F.E, (h.expr F).imp fun J H1 ⟨its, S1, μ1, m, F1, h1⟩ => ?_⟩
    have sv : Serves p (fun μ' H' => Kx μ1 H1 μ' H') its.1 its.2 J := m.r
    refine ⟨fun i k σ' H' => k = its.1.length - i ∧ i ≤ its.1.length ∧ ∃ ρ' S' μ', FrOk p μ0 H0 μ' H' S' ρ' σ' ∧ Kx μ1 H1 μ' H' ∧ WS p μ0 H0 μ' H' (forLoop (fun x ρ S => (match bindT t x ρ with
        | some ρ1 => execs p.G p.call ls ρ1 S
        | none => .stuck)) (fun S => stays S its.1 its.2) (its.1.drop i) ρ' S') Z, ⟨_, rfl, Nat.zero_le _, ρ, S1, μ1, F1, Kx.refl, h1⟩, ?_⟩
    rintro i k σ' H' ⟨rfl, hi', ρ', S', μ', F', k', h2⟩
    by_cases hlt : i < its.1.length
    · have ed : its.1.drop i = its.1[i] :: its.1.drop (i + 1) := List.drop_eq_getElem_cons hlt
      have ex : its.1[i]? = some its.1[i] := List.getElem?_eq_getElem hlt
      rw [ed] at h2
      unfold forLoop at h2
      split at h2
      · rename_i hsrc
        refine .inr ⟨sv.go i _ μ' H' S' k' F'.S hsrc ex, fun σ'' H'' => ∃ m', m' < its.1.length - i ∧ m' = its.1.length - (i + 1) ∧ i + 1 ≤ its.1.length ∧ ∃ ρ' S' μ', FrOk p μ0 H0 μ' H'' S' ρ' σ'' ∧ Kx μ1 H1 μ' H'' ∧ WS p μ0 H0 μ' H'' (forLoop (fun x ρ S => (match bindT t x ρ with
          | some ρ1 => execs p.G p.call ls ρ1 S
          | none => .stuck)) (fun S => stays S its.1 its.2) (its.1.drop (i + 1)) ρ' S') Z, fun _ _ z => z, fun x H'' y => ?_⟩
        obtain ⟨st2, hS2, rx⟩ := sv.yld i _ μ' H' S' x H'' k' F'.S hsrc ex y
        have F2 := F'.step st2 hS2
        have k2 := k'.trans (st2.kx F'.S)
        have h2 := h2.shift (st2.kx F'.S)
        cases eb : bindT t its.1[i] ρ' with
        | none => rw [eb] at h2; exact h2.elim
        | some ρ1 =>
          rw [eb] at h2
          refine ⟨_, ρ', ρ1, μ', rx, F2.E, eb, fun σ1 E1 same => ⟨ρ1, S', μ', F2.same eb E1 same, ?_⟩⟩
          simp only at h2
          cases er : execs p.G p.call ls ρ1 S' with
          | next ρ2 S2 =>
            rw [er] at h2 ⊢
            exact fun σ3 μ3 H3 F3 k3 => ⟨_, by omega, rfl, hlt, ρ2, S2, μ3, F3, k2.trans k3, h2.shift k3⟩
          | cont ρ2 S2 =>
            rw [er] at h2 ⊢
            exact fun σ3 μ3 H3 F3 k3 => ⟨_, by omega, rfl, hlt, ρ2, S2, μ3, F3, k2.trans k3, h2.shift k3⟩
          | brk ρ2 S2 => rw [er] at h2 ⊢; exact h2
          | ret v S2 => rw [er] at h2 ⊢; exact h2
          | exc c ρ2 S2 => rw [er] at h2 ⊢; exact h2
          | stuck => rw [er] at h2 ⊢; exact h2.elim
      · exact h2.elim
    · have ei : i = its.1.length := by omega
      subst ei
      rw [List.drop_length] at h2
      unfold forLoop at h2
      split at h2
      · rename_i hsrc
        exact .inl ⟨sv.stop μ' H' S' k' F'.S hsrc, h2 σ' μ' H' F' Kx.refl⟩
      · exact h2.elim

/-! ### writing at a list -/
/-- the list in slot i, to be written -/
theorem slot_at {i : Nat} {ρ : Env} {S : Sto} {μ : List Addr} {H : Hp} {σ : L2.St} (hS : StOk p.K p.w μ H S) (hρ : EnvOk p.K p.w μ H ρ σ) (e : slotL ρ i = true) : ∃ A vs, σ[i]? = some (some (V.ref A)) ∧ H A = some (.lst vs) := by
  unfold slotL at e
  split at e
  · rename_i xs q
    obtain ⟨v, e1, A, vs, rfl, h3, _⟩ := hρ.at_ i _ q
    exact ⟨A, vs, e1, h3⟩
  · rename_i n q
    obtain ⟨v, e1, r⟩ := hρ.at_ i _ q
    obtain ⟨A, rfl, h2⟩ := ev_ref r
    obtain ⟨xs, vs, _, h4, _⟩ := hS.ob n A h2
    exact ⟨A, vs, e1, h4⟩
  · cases e
theorem put_at {i : Nat} {ρ : Env} {S : Sto} {μ : List Addr} {H : Hp} {σ : L2.St} {f : List D → Option (List D)} {Z : Ends} (F : FrOk p μ0 H0 μ H S ρ σ) (h : WS p μ0 H0 μ H (putL i f ρ S) Z) :
    ∃ A xs vs ys, σ[i]? = some (some (V.ref A)) ∧ H A = some (.lst vs) ∧ RepL p.K p.w μ H xs vs ∧ f xs = some ys ∧ ∀ us, RepL p.K p.w μ H ys us → Z.nx σ (upd H A (.lst us)) := by
  unfold putL at h
  split at h
  · rename_i xs q
    obtain ⟨v, e1, A, vs, rfl, h3, g, h4⟩ := F.E.at_ i _ q
    split at h
    · rename_i ys e2
      refine ⟨A, xs, vs, ys, e1, h3, g, e2, fun us gu => ?_⟩
      obtain ⟨F2, k2⟩ := F.putOwn q e1 h3 h4 gu
      exact h σ μ _ F2 k2
    · exact h.elim
  · rename_i n q
    obtain ⟨v, e1, r⟩ := F.E.at_ i _ q
    obtain ⟨A, rfl, h2⟩ := ev_ref r
    obtain ⟨xs, vs, h3, h4, g⟩ := F.S.ob n A h2
    rw [h3] at h
    simp only at h
    split at h
    · rename_i ys e2
      refine ⟨A, xs, vs, ys, e1, h4, g, e2, fun us gu => ?_⟩
      obtain ⟨F2, k2⟩ := F.putRef h2 h4 gu
      exact h σ μ _ F2 k2
    · exact h.elim
  · exact h.elim
theorem ss_app {i : Nat} {x : Str} {px apos cpos : Pos} (hN : X.N[i]? = some x) (hv : Vis X.env.scope x) (hd : dbg x = true) (hst : noStar b = true) (hb : PE X b (tE p lb)) (hline : (apos.endLine == cpos.line) = true) :
    PS X (.Expr (.Call (.Attribute (.Name x px) "append" apos) [b] [] cpos) pos) (tS p μ0 H0 (.app i lb)) := by
  have st1 := star_of (es := []) (env := X.env) hst
  have q := pe_bm (cpos := cpos) (apos := apos) PySem.F.plainAttrs_list PySem.F.slot_list_append PySem.F.type_list_append mt_append (pe_var (pos := px) hN hv (dbg_of hd).1 (dbg_of hd).2) (pa_cons (sv_val hb) pa_nil st1) rfl (by rw [st1]; rfl) hline st1 rfl
  refine (ps_expr q rfl).mono fun Z σ H ⟨ρ, S, μ, F, h⟩ => ?_
  unfold exec at h
  split at h
  · rename_i hsl
    obtain ⟨A, vs0, e1, h3⟩ := slot_at F.S F.E hsl
    refine ⟨_, e1, .inl ⟨rfl, vs0, SqL.of h3⟩, ρ, S, μ, F.S, F.E, (h.expr (R := RV p) F).imp fun w H1 ⟨d, S1, μ1, m, F1, h1⟩ => ?_⟩
    obtain ⟨A', xs, vs, ys, e2, h4, g, e3, nx⟩ := put_at F1 h1
    rw [e1] at e2
    cases e2
    split at e3
    · rename_i hz
      cases e3
      exact ⟨A, vs, w, rfl, rfl, h4, by rw [g.length]; exact hz, nx _ (g.app (RepL.one m.r))⟩
    · cases e3
  · exact h.elim
theorem ss_ext {i : Nat} {x : Str} {px apos cpos : Pos} (hN : X.N[i]? = some x) (hv : Vis X.env.scope x) (hd : dbg x = true) (hst : noStar b = true) (hb : PE X b (tE p lb)) (hline : (apos.endLine == cpos.line) = true) :
    PS X (.Expr (.Call (.Attribute (.Name x px) "extend" apos) [b] [] cpos) pos) (tS p μ0 H0 (.ext i lb)) := by
  have st1 := star_of (es := []) (env := X.env) hst
  have q := pe_bm (cpos := cpos) (apos := apos) PySem.F.plainAttrs_list PySem.F.slot_list_extend PySem.F.type_list_extend mt_extend (pe_var (pos := px) hN hv (dbg_of hd).1 (dbg_of hd).2) (pa_cons hb pa_nil st1) rfl (by rw [st1]; rfl) hline st1 rfl
  refine (ps_expr q rfl).mono fun Z σ H ⟨ρ, S, μ, F, h⟩ => ?_
  unfold exec at h
  split at h
  · rename_i hsl
    obtain ⟨A, vs0, e1, h3⟩ := slot_at F.S F.E hsl
    refine ⟨_, e1, .inl ⟨rfl, vs0, SqL.of h3⟩, ρ, S, μ, F.S, F.E, (h.expr F).imp fun w H1 ⟨v1, S1, μ1, m, F1, h1⟩ => ?_⟩
    cases v1 with
    | d _ => exact h1.elim
    | brw _ => exact h1.elim
    | own zs =>
      obtain ⟨A', xs, vs, ys, e2, h4, g, e3, nx⟩ := put_at F1 h1
      rw [e1] at e2
      cases e2
      obtain ⟨B, us, rfl, h5, gz, _⟩ := m.r.1
      split at e3
      · rename_i hz
        cases e3
        exact ⟨A, B, vs, us, rfl, rfl, h4, h5, by rw [g.length, gz.length]; exact hz, nx _ (g.app gz)⟩
      · cases e3
  · exact h.elim
theorem ss_setIx {i : Nat} {x : Str} {px tp : Pos} (hsl : noSlice a = true) (hN : X.N[i]? = some x) (hv : Vis X.env.scope x) (hd : dbg x = true) (ha : PE X a (tE p la)) (hb : PE X b (tE p lb)) (hs : swapsWithSole [.Subscript (.Name x px) a tp] b pos.line X.env = pure false) :
    PS X (.Assign [.Subscript (.Name x px) a tp] b pos) (tS p μ0 H0 (.setIx i la lb)) :=
  (ps_asg (sv_val hb) (pg_sub (pe_var (pos := px) hN hv (dbg_of hd).1 (dbg_of hd).2) ha set_list (by intro _; cases a <;> first | rfl | cases hsl)) hs (by rfl) (by rfl)).mono fun Z σ H ⟨ρ, S, μ, F, h⟩ => by
    unfold exec at h
    split at h
    · rename_i hsl
      obtain ⟨A, vs0, e1, h3⟩ := slot_at F.S F.E hsl
      refine ⟨ρ, S, μ, F.S, F.E, (h.expr (R := RV p) F).imp fun w H1 ⟨d, S1, μ1, m, F1, h1⟩ => ⟨_, e1, ρ, S1, μ1, F1.S, F1.E, (h1.expr F1).imp fun iv H2 ⟨v2, S2, μ2, m2, F2, h2⟩ => ?_⟩⟩
      split at h2
      · rename_i k
        obtain ⟨A', xs, vs, ys, e2, h4, g, e3, nx⟩ := put_at F2 h2
        rw [e1] at e2
        cases e2
        rw [Option.map_eq_some_iff] at e3
        obtain ⟨j, e4, rfl⟩ := e3
        exact ⟨A, vs, k, j, rfl, ev_int m2.r.1, h4, by rw [g.length]; exact e4, nx _ (g.set j (Rep.mono m2.st.pre (m2.st.kp m.S) _ _ m.r))⟩
      · exact h2.elim
    · exact h.elim

/-! ### raise -/
/-- what the class of an error says -/
structure ExF (K : PySem.W.Frag) (x : Str) : Prop where
  exc : PySem.W.excIn K (He.ga K x) He.veBase "ValueError.__new__" = true
  kp : PySem.W.keepIn K (clsV K x) = true
  sb : PySem.W.subIn K (clsV K x) (.type "BaseException") = some true
  ty : PySem.W.typeIn K (clsV K x) = some (.type "type")
  c : ExcC K (He.ga K x)
theorem ss_raise {x m : Str} {j : Nat} {px p2 cp : Pos} (hc : X.calm = true) (hK : X.K = p.K) (tk : Takes X p.W) (hg : Gl X x) (hd : dbg x = true) (hx : x ∈ p.G.excs → X.mg x = some (clsV p.K x) ∧ ExF p.K x) :
    PS X (.Raise (some (.Call (.Name x px) [.Constant (.str m) j p2] [] cp)) none pos) (tS p μ0 H0 (.raise x)) := by
  by_cases hm : x ∈ p.G.excs
  · obtain ⟨g, f⟩ := hx hm
    rw [← hK] at f g
    exact (ps_raise hc tk (pmk_own PySem.F.excBase_ValueError f.exc g f.kp (raises_own f.sb f.ty) hg (dbg_of hd).1)).mono fun Z σ H ⟨ρ, S, μ, F, h⟩ => by
      unfold exec at h
      rw [if_pos (List.elem_eq_true_of_mem hm)] at h
      rw [hK]
      exact h σ μ H F Kx.refl
  · refine ⟨fun pins s σ H Z I ⟨ρ, S, μ, F, h⟩ => ?_⟩
    unfold exec at h
    rw [if_neg (fun z => hm (List.mem_of_elem_eq_true z))] at h
    exact h.elim
end

/-! ### what an except suite gives back -/
section
variable {Y : Cx} {p : Px} {i : Nat} {n : Str} {A : Addr} {c : Str} {a b t : Expr} {la lb lt : LX} {pos : Pos}
def AtX (p : Px) (i : Nat) (A : Addr) (σ : L2.St) (H : Hp) (f : Sto → List Addr → Prop) : Prop := σ[i]? = some (some (V.ref A)) ∧ ∃ μ S, StOk p.K p.w μ H S ∧ f S μ
def tX (p : Px) (i : Nat) (A : Addr) (c : Str) (l : LX) : TE := fun σ H Q => AtX p i A σ H fun S μ => ∃ d, evalX p.G c l = some d ∧ ∀ u H', Stp μ H μ H' → StOk p.K p.w μ H' S → Rep p.K p.w μ H' d u → Q u H'
def tXs (p : Px) (i : Nat) (A : Addr) (c : Str) (l : List LX) : TA := fun σ H Q => AtX p i A σ H fun S μ => ∃ ds, evalXs p.G c l = some ds ∧ ∀ us H', Stp μ H μ H' → StOk p.K p.w μ H' S → RepL p.K p.w μ H' ds us → Q us H'
def tXT (p : Px) (i : Nat) (A : Addr) (c : Str) (l : LX) : TT := fun σ H Q => AtX p i A σ H fun S μ => ∃ k, evalX p.G c l = some (.bl k) ∧ Q k H
theorem sx_cst {d : D} {v : V} (hp : PE Y a (tC v)) (r : ∀ μ H, Rep p.K p.w μ H d v) : PE Y a (tX p i A c (.cst d)) := hp.mono fun σ H Q ⟨_, μ, S, hS, d', e, q⟩ => by
  unfold evalX at e
  cases e
  exact q v H Stp.refl hS (r μ H)
theorem sxs_nil : PA Y [] (tXs p i A c []) := pa_nil.mono fun σ H Q ⟨_, μ, S, hS, d', e, q⟩ => by
  unfold evalXs at e
  cases e
  exact q [] H Stp.refl hS RepL.nil
theorem sxs_cons {es : List Expr} {ls : List LX} (ha : PE Y a (tX p i A c la)) (hr : PA Y es (tXs p i A c ls)) (hs : starEach (a :: es) Y.env = (false, eval a Y.env) :: starEach es Y.env) : PA Y (a :: es) (tXs p i A c (la :: ls)) :=
  (pa_cons ha hr hs).mono fun σ H Q ⟨h0, μ, S, hS, ds, e, q⟩ => by
    unfold evalXs at e
    split at e
    · rename_i x xs e1 e2
      cases e
      exact ⟨h0, μ, S, hS, x, e1, fun u H1 st1 s1 r1 => ⟨h0, μ, S, s1, xs, e2, fun us H2 st2 s2 r2 => q _ H2 (st1.trans s1 st2) s2 (RepL.cons (Rep.mono st2.pre (st2.kp s1) _ _ r1) r2)⟩⟩
    · cases e
theorem sx_tup {es : List Expr} {ls : List LX} {k : Nat} (h : PA Y es (tXs p i A c ls)) : PE Y (.Tuple es k pos) (tX p i A c (.tup ls)) :=
  (pe_tup h).mono fun σ H Q ⟨h0, μ, S, hS, d, e, q⟩ => by
    unfold evalX at e
    simp only [Option.bind_eq_some_iff] at e
    obtain ⟨xs, e1, e2⟩ := e
    split at e2
    · rename_i hz
      cases e2
      refine ⟨h0, μ, S, hS, xs, e1, fun us H1 st1 s1 r1 => ⟨by rw [r1.length]; exact hz, fun B hB => ?_⟩⟩
      have st2 := Stp.laid (o := .tup us) s1 hB
      refine q (.ref B) _ (st1.trans s1 st2) (s1.laid hB) ?_
      unfold Rep
      exact ⟨B, us, rfl, SqT.of upd_same, RepL.mono st2.pre (st2.kp s1) _ _ r1⟩
    · cases e2
theorem sx_ite (ht : PT Y t (tXT p i A c lt)) (ha : PE Y a (tX p i A c la)) (hb : PE Y b (tX p i A c lb)) : PE Y (.IfExp t a b pos) (tX p i A c (.ite lt la lb)) :=
  (pe_ifExp ht ha hb).mono fun σ H Q ⟨h0, μ, S, hS, d, e, q⟩ => by
    unfold evalX at e
    split at e
    · rename_i e1
      exact ⟨h0, μ, S, hS, true, e1, h0, μ, S, hS, d, e, q⟩
    · rename_i e1
      exact ⟨h0, μ, S, hS, false, e1, h0, μ, S, hS, d, e, q⟩
    · cases e
theorem sxt_not (ht : PT Y t (tXT p i A c lt)) : PT Y (.UnaryOp .Not t pos) (tXT p i A c (.not1 lt)) :=
  (pt_not ht).mono fun σ H Q ⟨h0, μ, S, hS, k, e, q⟩ => by
    unfold evalX at e
    split at e
    · rename_i k' e1
      cases e
      exact ⟨h0, μ, S, hS, k', e1, q⟩
    · cases e
theorem sxt_isi {X : Cx} {oe : Obj} {pn : List (Addr × Obj)} {x : Str} {f p1 p2 : Pos} (hK : X.K = p.K) (hz : Zc (clsV X.K c) none oe) (hf : ∃ vs, oe.data = .fields vs) (hN : X.N[i]? = some n) (hv : Vis X.env.scope n) (hd : dbg n = true) (hd2 : dbg x = true)
    (hg : Gl X "isinstance") (hm : X.mg "isinstance" = none) (hgx : Gl X x) (hmx : x ∈ p.G.excs → X.mg x = some (clsV p.K x)) (hc : c ∈ p.G.excs → ExF p.K c) (hk : c ∈ p.G.excs → x ∈ p.G.excs → PySem.W.kitOne p.K (clsV p.K c) (clsV p.K x) = some (p.G.sub c x)) :
    PT (X.suite A ((A, oe) :: pn)) (.Call (.Name "isinstance" f) [.Name n p1, .Name x p2] [] pos) (tXT p i A c (.isi x)) := by
  by_cases hm2 : c ∈ p.G.excs ∧ x ∈ p.G.excs
  · obtain ⟨m1, m2⟩ := hm2
    have EC := (hc m1).c
    rw [← hK] at EC
    have q := pe_callB (X := X.suite A ((A, oe) :: pn)) (p := f) (pos := pos) (call_isE EC hz hf) hg hm rfl (pa_cons (pe_var (X := X.suite A ((A, oe) :: pn)) (pos := p1) hN hv (dbg_of hd).1 (dbg_of hd).2) (pa_cons (pe_glob (X := X.suite A ((A, oe) :: pn)) (pos := p2) (v := .ref (He.ga p.K x)) hgx (hmx m2) rfl (dbg_of hd2).1) pa_nil))
    refine (pt_val q).mono fun σ H Q ⟨h0, μ, S, hS, k, e, q⟩ => ?_
    unfold evalX at e
    rw [if_pos (Bool.and_eq_true_iff.mpr ⟨List.elem_eq_true_of_mem m1, List.elem_eq_true_of_mem m2⟩)] at e
    cases e
    refine ⟨_, h0, .ref (He.ga p.K x), clsV p.K x, p.G.sub c x, rfl, fun u r => r, ?_, p.G.sub c x, rfl, q⟩
    show PySem.W.kitOne X.K (.ref (He.ga X.K c)) _ = _
    rw [hK]
    exact hk m1 m2
  · refine ⟨fun pins s σ H Q I ⟨h0, μ, S, hS, k, e, q⟩ => ?_⟩
    exfalso
    unfold evalX at e
    rw [if_neg (fun z => hm2 ⟨List.mem_of_elem_eq_true (Bool.and_eq_true_iff.mp z).1, List.mem_of_elem_eq_true (Bool.and_eq_true_iff.mp z).2⟩)] at e
    cases e
end
end Pl
end

section
set_option Elab.async false
set_option linter.all false
set_option maxRecDepth 100000
/-! try with several clauses that keep the error by a name. -/
namespace Pl
open PySem PySem.Spec PyProof.Rows L2
abbrev Sui := Addr → Value → Option Addr → TS
/-- behind the suite the name goes -/
def offE (Z : Ends) (i : Nat) : Ends where
  nx := fun σ1 H1 => Z.nx (σ1.set i none) H1
  rt := Z.rt
  bk := fun σ1 H1 => Z.bk (σ1.set i none) H1
  ct := fun σ1 H1 => Z.ct (σ1.set i none) H1
def wManyA (K : PySem.W.Frag) (Wo : WX) (Z : Ends) : List (Value × Nat × Sui) → WX
  | [] => Wo
  | (c, i, ts) :: r => fun cls d σ H => ∃ k, PySem.W.exmOne K cls c = some k ∧ (k = true → ∀ A, H A = none → ts A cls d (offE Z i) (σ.set i (some (.ref A))) H) ∧ (k = false → wManyA K Wo Z r cls d σ H)
inductive HdsA (X : Cx) : List ExceptHandler → List (Value × Nat × Sui) → Prop where
  | nil : HdsA X [] []
  | cons {x n : Str} {c : Value} {i : Nat} {ts : Sui} {s0 : Stmt} {suite : List Stmt} {np hp : Pos} {hds : List ExceptHandler} {l : List (Value × Nat × Sui)} (hc : Names X x c) (hi : X.N[i]? = some n) (hl : X.env.kindOf n = some .local)
    (hsu : ∀ (A : Addr) (oe : Obj) (cls : Value) (d : Option Addr) (pn : List (Addr × Obj)), Zc cls d oe → (∃ vs, oe.data = .fields vs) → PSs (X.suite A ((A, oe) :: pn)) (s0 :: suite) (ts A cls d)) (r : HdsA X hds l) :
    HdsA X (.ExceptHandler (some (.Name x np)) (some n) (s0 :: suite) hp :: hds) ((c, i, ts) :: l)
section
variable {X : Cx} {body : List Stmt} {h0 : ExceptHandler} {hds : List ExceptHandler} {l : List (Value × Nat × Sui)} {pos : Pos} {tb : WX → TS} {Wo : WX}
theorem ps_try_manyA (hs : X.stack = X.env :: X.outer) (hf : X.env.frame = some X.env.locals) (hN : X.N.Nodup) (tk : Takes X Wo) (hh : HdsA X (h0 :: hds) l)
    (hb : ∀ (W : WX) (pn : List (Addr × Obj)) (xe : Value → Shared → Prop), Takes (X.tr pn xe) W → PassesOwn (PySem.model X.prog X.w) X.A X.env xe → PSs (X.tr pn xe) body (tb W)) :
    PS X (.Try body (h0 :: hds) [] [] pos) (fun Z σ H => tb (wManyA X.K Wo Z l) Z σ H) := by
  refine ⟨fun pins s σ H Z I h => ?_⟩
  have ok := I.ok
  have hfr : X.A.frames = some (X.env :: X.outer) := by rw [ok.frames, hs]
  have run := hb (wManyA X.K Wo Z l) (X.pn ++ pins) (fun e s1 => wpAny (PySem.model X.prog X.w) X.A (noteFrame e X.env) (fun _ s2 => wpAny (PySem.model X.prog X.w) X.A (setFlight e none)
    (fun _ s3 => wpAny (PySem.model X.prog X.w) X.A (handleBy e X.env (h0 :: hds)) (SP X pins Z) X.xe s3) X.xe s2) X.xe s1) ?got PassesOwn.looking
  case got =>
    rintro u s' ⟨A, B, sI, pins', σ', H', cls, d, rfl, J0, nb, up, sky, na, os, ag, w⟩
    have J : Inv X pins σ' H' sI := J0.ofTry ok
    have sky1 : Sky B (X.env :: X.outer) A (Zc cls d) X.env.locals s'.heap := hs ▸ sky
    show wpAny (PySem.model X.prog X.w) X.A (noteFrame (.ref A) X.env) _ _ _
    refine Sky.land Zc.steady hfr hf sky1 fun h3 fl3 up3 => ?_
    have J3 : Inv X pins σ' H' { s' with heap := h3 } := J.landed nb fl3.1 (up.trans up3) os ag
    obtain ⟨oe3, vs3, he3, hz3, hd3⟩ := fl3.there
    have nfr : A ∉ frs (X.env :: X.outer) := fun hm => by
      obtain ⟨_, o', e', hnf⟩ := fl3.2.2.1.mem hm
      rw [he3] at e'
      cases e'
      exact hnf _ hd3
    have nL : A ≠ X.env.locals := fun z => nfr (List.mem_filterMap.mpr ⟨_, List.mem_cons_self, by rw [hf, z]⟩)
    have nF : A ∉ X.fs := fun hm => by
      obtain ⟨e, he, q⟩ := List.mem_filterMap.mp hm
      exact nfr (List.mem_filterMap.mpr ⟨e, List.mem_cons_of_mem _ he, q⟩)
    have S3 := J3.suite he3 hd3 na nL nF
    have each : ∀ {hs' : List ExceptHandler} {l' : List (Value × Nat × Sui)}, HdsA X hs' l' → wManyA X.K Wo Z l' cls d σ' H' → wpAny (PySem.model X.prog X.w) X.A (handleBy (.ref A) X.env hs') (SP X pins Z) X.xe { s' with heap := h3 } := by
      intro hs' l' hk
      induction hk with
      | nil =>
        intro w
        refine wpAny_handleBy_nil ?_
        obtain ⟨k1, k2, k3, oe, vs, T, oT, ts', he, hz, hd, h1, hr⟩ := id fl3
        unfold PySem.passOn
        refine wpAny_bind (wpAny_field he hd h1 ?_)
        rw [if_neg (show ¬ ((Value.ref T == Value.none) = true) from by simp)]
        have up : wpAny (PySem.model X.prog X.w) X.A (setFlight (.ref A) X.env.frame) (fun _ s4 => wpAny (PySem.model X.prog X.w) X.A (throw (.ref A) : Sem Flow) (SP X pins Z) X.xe s4) X.xe { s' with heap := h3 } := by
          rw [hf]
          exact HandSPX.setFlight_upZ fl3 fun h4 hh4 up4 => wpAny_throw (tk _ _ ⟨A, B, sI, pins, σ', H', cls, d, rfl, J, nb, (up.trans up3).trans up4, .inr (.inr (by rw [hs]; exact hh4)), na, os, ag, w⟩)
        first
          | exact wpAny_bind (wpAny_pure (wpAny_bind up))
          | exact wpAny_bind up
      | @cons x n c i ts s0 suite np hp hds2 l2 hc hi hl hsu r ih =>
        intro w
        obtain ⟨k, hk1, hyes, hno⟩ := w
        refine wpAny_handleBy_cons (codeAny_handlers_test ?_) (by intro q; cases q)
        have LT : PySem.W.Looks (PySem.model X.prog X.w) h3 (typeOf (.ref A)) cls := fun _ _ _ s kk q => wpAny_typeOf_ref (kk _ _ he3) (by rw [hz3.1]; exact q)
        have asked : ∀ {Q : Value → Shared → Prop} {E : Value → Shared → Prop}, Q c { s' with heap := h3 } → wpAny (PySem.model X.prog X.w) (X.A.mark (some (.ref A))) (eval (.Name x np) X.env) Q E { s' with heap := h3 } := fun q => by
          obtain ⟨hg, hdbg, hm | ⟨hm, hv, hnn⟩⟩ := hc
          · exact ld_glob (X := X.suite A ((A, oe3) :: (X.pn ++ pins))) S3 hg hm q hdbg
          · exact ld_blt (X := X.suite A ((A, oe3) :: (X.pn ++ pins))) S3 hg hm hv q hnn hdbg
        refine asked ((PySem.W.exm_one (M := PySem.model X.prog X.w) (J3.kIn) LT hk1).here ?_)
        cases k with
        | false =>
          show wpAny _ X.A (handleBy (.ref A) X.env hds2) _ _ _
          exact ih (hno rfl)
        | true =>
          refine codeAny_handlers_suite_as (HandSPX.lands_againZ fl3 fun h4 fl4 up4 => ?_)
          have J4 : Inv X pins σ' H' { s' with heap := h4 } := J.landed nb fl4.1 ((up.trans up3).trans up4) os ag
          obtain ⟨oe4, vs4, he4, hz4, hd4⟩ := fl4.there
          refine store_ok (X := X.suite A ((A, oe4) :: (X.pn ++ pins))) (v := .ref A) (J4.suite he4 hd4 na nL nF) hN hi (.inl hl) rfl (fun s5 S5 => ?_) (.inr hl)
          refine wpAny_mono ((hsu A oe4 cls d (X.pn ++ pins) hz4 ⟨_, hd4⟩).run [] s5 _ H' _ S5 (hyes rfl A na)) (fun f s6 out => ?_) fun _ _ z => z.elim
          have off : ∀ {σ6 : L2.St} {H6 : Hp} {Q : Shared → Prop}, Inv (X.suite A ((A, oe4) :: (X.pn ++ pins))) [] σ6 H6 s6 → (∀ s7, Inv X pins (σ6.set i none) H6 s7 → Q s7) →
              wpAny (PySem.model X.prog X.w) X.A (do bindName X.env n .none; unbindBehindTheSuite X.env n hp) (fun _ s7 => Q s7) X.xe s6 := fun S6 hq => gone_ok (S6.unsuite ok) hN hi hl hq
          cases f with
          | ret u =>
            obtain ⟨v6, σ6, H6, S6, r6, q6⟩ := out
            exact off S6 fun s7 J7 => ⟨_, _, _, J7, r6, q6⟩
          | next =>
            obtain ⟨σ6, H6, S6, q6⟩ := out
            exact off S6 fun s7 J7 => ⟨_, _, J7, q6⟩
          | brk =>
            obtain ⟨σ6, H6, S6, q6⟩ := out
            exact off S6 fun s7 J7 => ⟨_, _, J7, q6⟩
          | cont =>
            obtain ⟨σ6, H6, S6, q6⟩ := out
            exact off S6 fun s7 J7 => ⟨_, _, J7, q6⟩
    exact each hh w
  refine wpAny_Try_except (wpAny_mono (run.run [] s σ H Z (I.toTry _) h) (fun f s1 out => ?_) fun e s1 he => he)
  cases f with
  | ret u =>
    obtain ⟨v, σ', H', J', r, q⟩ := out
    exact ⟨v, σ', H', J'.ofTry ok, r, q⟩
  | next =>
    obtain ⟨σ', H', J', q⟩ := out
    exact wpAny_execs_nil ⟨σ', H', J'.ofTry ok, q⟩
  | brk =>
    obtain ⟨σ', H', J', q⟩ := out
    exact ⟨σ', H', J'.ofTry ok, q⟩
  | cont =>
    obtain ⟨σ', H', J', q⟩ := out
    exact ⟨σ', H', J'.ofTry ok, q⟩
end

/-! ### in the interpreter's terms -/
structure FitS (p : Px) (X : Cx) (c : Sc) : Prop where
  F : Fit p X c
  own : PassesOwn (PySem.model X.prog X.w) X.A X.env X.xe
  stk : X.stack = X.env :: X.outer
  fr : X.env.frame = some X.env.locals
  exc : ∀ x, x ∈ p.G.excs → X.mg x = some (clsV p.K x) ∧ ExF p.K x
  exs : ∀ x, x ∈ c.excs → x ∈ p.G.excs
  exm : ∀ e x, e ∈ p.G.excs → x ∈ p.G.excs → PySem.W.exmOne p.K (clsV p.K e) (clsV p.K x) = some (p.G.sub e x) ∧ PySem.W.kitOne p.K (clsV p.K e) (clsV p.K x) = some (p.G.sub e x)
theorem FitS.tr {p : Px} {X : Cx} {c : Sc} (F : FitS p X c) {W : WX} {pn : List (Addr × Obj)} {xe : Value → Shared → Prop} (tk : Takes (X.tr pn xe) W) (po : PassesOwn (PySem.model X.prog X.w) X.A X.env xe) : FitS { p with W := W } (X.tr pn xe) c where
  F := ⟨F.F.K, F.F.w, F.F.calm, F.F.un, F.F.gu, F.F.nd, F.F.N, F.F.sc, F.F.fn, tk, F.F.const, F.F.free, F.F.defs⟩
  own := po
  stk := F.stk
  fr := F.fr
  exc := F.exc
  exs := F.exs
  exm := F.exm
/-- one clause's suite, by what it gives back -/
def tSui (p : Px) (i : Nat) (lx : LX) : Sui := fun A cls d Z σ H => ∃ c, cls = clsV p.K c ∧ d = none ∧ c ∈ p.G.excs ∧ (i < σ.length → tX p i A c lx σ H Z.rt)
section
variable {X : Cx} {p : Px} {c : Sc} {μ0 : List Addr} {H0 : Hp}
/-- the clauses' wish -/
theorem many_of (F : FitS p X c) {μ : List Addr} {H : Hp} {S : Sto} {ρ : Env} {σ : L2.St} {Z : Ends} {e : Str} (FO : FrOk p μ0 H0 μ H S ρ σ) (hex : ∀ hs : List (Str × Nat × LX), hs ≠ [] → WS p μ0 H0 μ H (handle p.G e ρ S hs) Z → e ∈ p.G.excs) :
    ∀ hs : List (Str × Nat × LX), WS p μ0 H0 μ H (handle p.G e ρ S hs) Z → wManyA p.K p.W Z (hs.map fun q => (clsV p.K q.1, q.2.1, tSui p q.2.1 q.2.2)) (clsV p.K e) none σ H
  | [], h => by
    unfold handle at h
    exact h σ μ H FO Kx.refl
  | (x, i, lx) :: hs, h => by
    have he := hex _ (by simp) h
    unfold handle at h
    split at h
    · rename_i hm
      have hx := List.mem_of_elem_eq_true (Bool.and_eq_true_iff.mp hm).2
      obtain ⟨e1, e2⟩ := F.exm e x he hx
      refine ⟨p.G.sub e x, e1, fun ht A hA => ?_, fun hf => ?_⟩
      · rw [ht] at h
        simp only [if_true] at h
        split at h
        · rename_i d ed
          refine ⟨e, rfl, rfl, he, fun hlt => ⟨List.getElem?_set_self (by simpa using hlt), μ, S, FO.S, d, ed, fun u H' st hS r => ?_⟩⟩
          exact h u μ H' (FO.st.trans FO.S st) hS ⟨r, fun _ z => nomatch z⟩
        · exact h.elim
      · rw [hf] at h
        simp only [Bool.false_eq_true, if_false] at h
        exact many_of F FO hex hs h
    · exact h.elim
theorem handle_in {p : Px} {μ0 : List Addr} {H0 : Hp} {μ : List Addr} {H : Hp} {S : Sto} {ρ : Env} {Z : Ends} {e : Str} : ∀ hs : List (Str × Nat × LX), hs ≠ [] → WS p μ0 H0 μ H (handle p.G e ρ S hs) Z → e ∈ p.G.excs
  | [], h, _ => absurd rfl h
  | (x, i, lx) :: hs, _, h => by
    unfold handle at h
    split at h
    · rename_i hm
      exact List.mem_of_elem_eq_true (Bool.and_eq_true_iff.mp hm).1
    · exact h.elim
theorem ss_try (F : FitS p X c) {body : List Stmt} {h0 : ExceptHandler} {hds : List ExceptHandler} {pos : Pos} {ls : List LS} {hs : List (Str × Nat × LX)} 
    (hb : ∀ (p' : Px) (X' : Cx), p'.K = p.K → p'.w = p.w → p'.G = p.G → p'.call = p.call → FitS p' X' c → PSs X' body (tSs p' μ0 H0 ls)) (hh : HdsA X (h0 :: hds) (hs.map fun q => (clsV p.K q.1, q.2.1, tSui p q.2.1 q.2.2))) :
    PS X (.Try body (h0 :: hds) [] [] pos) (tS p μ0 H0 (.tryS ls hs)) := by
  refine ⟨fun pins s σ H Z I ⟨ρ, S, μ, FO, h⟩ => ?_⟩
  refine (ps_try_manyA (pos := pos) (tb := fun W => tSs { p with W := W } μ0 H0 ls) F.stk F.fr F.F.nd F.F.tk hh fun W pn xe tk po => hb _ _ rfl rfl rfl rfl (F.tr tk po)).run pins s σ H Z I ?_
  unfold exec at h
  refine ⟨ρ, S, μ, ⟨FO.st, FO.S, FO.E, FO.fresh⟩, ?_⟩
  show WS _ μ0 H0 μ H (execs p.G p.call ls ρ S) Z
  cases er : execs p.G p.call ls ρ S with
  | next ρ' S' =>
    rw [er] at h
    exact fun σ' μ' H' F' k => h σ' μ' H' ⟨F'.st, F'.S, F'.E, F'.fresh⟩ k
  | brk ρ' S' =>
    rw [er] at h
    exact fun σ' μ' H' F' k => h σ' μ' H' ⟨F'.st, F'.S, F'.E, F'.fresh⟩ k
  | cont ρ' S' =>
    rw [er] at h
    exact fun σ' μ' H' F' k => h σ' μ' H' ⟨F'.st, F'.S, F'.E, F'.fresh⟩ k
  | ret v S' => rw [er] at h; exact h
  | stuck => rw [er] at h; exact h
  | exc e ρ' S' =>
    rw [er] at h
    intro σ' μ' H' F' k
    have F2 : FrOk p μ0 H0 μ' H' S' ρ' σ' := ⟨F'.st, F'.S, F'.E, F'.fresh⟩
    rw [F.F.K]
    exact many_of F F2 handle_in hs (WS.shift h k)
end
end Pl
end

section
set_option Elab.async false
set_option linter.all false
set_option maxRecDepth 100000
/-! The check of statements, and its soundness. -/
namespace Pl
open PySem PySem.Spec PyProof.Rows L2
def noComp : Expr → Bool
  | .ListComp .. => false
  | .SetComp .. => false
  | .DictComp .. => false
  | _ => true
def noTup : Expr → Bool
  | .Tuple .. => false
  | _ => true
mutual
def okX : LX → Sc → Str → Expr → Bool
  | .cst d, _, _, e => (match e with
    | .Constant k _ _ => cstB d k
    | _ => false)
  | .tup es, c, n, e => (match e with
    | .Tuple es' _ _ => okXs es c n es'
    | _ => false)
  | .ite t a b, c, n, e => (match e with
    | .IfExp t' a' b' _ => okXT t c n t' && okX a c n a' && okX b c n b'
    | _ => false)
  | .isi _, _, _, _ => false
  | .not1 _, _, _, _ => false
def okXs : List LX → Sc → Str → List Expr → Bool
  | [], _, _, es => es.isEmpty
  | a :: l, c, n, es => (match es with
    | e :: es => okX a c n e && noStar e && okXs l c n es
    | [] => false)
def okXT : LX → Sc → Str → Expr → Bool
  | .isi x, c, n, e => (match e with
    | .Call (.Name f _) [.Name m _, .Name y _] [] _ => nameIs c "isinstance" f && decide (m = n) && decide (y = x) && glB c.sc x && dbg x
    | _ => false)
  | .not1 a, c, n, e => (match e with
    | .UnaryOp .Not e' _ => okXT a c n e'
    | _ => false)
  | _, _, _, _ => false
end
def okHs : List (Str × Nat × LX) → Sc → List ExceptHandler → Bool
  | [], _, hds => hds.isEmpty
  | q :: hs, c, hds => (match hds with
    | .ExceptHandler (some (.Name y _)) (some n) [.Return (some e) _] _ :: hds => decide (q.1 = y) && glB c.sc y && dbg y && decide (y ∈ c.excs) && decide (c.N[q.2.1]? = some n) && decide (c.sc.names.lookup n = some .local) && dbg n && okX q.2.2 c n e && okHs hs c hds
    | _ => false)
def okJ : LE → Sc → Expr → Expr → Bool
  | .sq e, c, e', _ => okE e c e'
  | .rng1 a, c, e, _ => (match e with
    | .Call (.Name x _) [a'] [] _ => nameIs c "range" x && noStar a' && okE a c a'
    | _ => false)
  | .rng2 a b, c, e, _ => (match e with
    | .Call (.Name x _) [a', b'] [] _ => nameIs c "range" x && noStar a' && noStar b' && okE a c a' && okE b c b'
    | _ => false)
  | .enum a, c, e, t => (match e, t with
    | .Call (.Name x _) [a'] [] _, .Tuple _ _ _ => nameIs c "enumerate" x && noStar a' && okE a c a'
    | _, _ => false)
  | _, _, _, _ => false
def varB (c : Sc) (i : Nat) (x : Str) : Bool := decide (c.N[i]? = some x) && visB c.sc x && dbg x
mutual
def okS : LS → Sc → Stmt → Bool
  | .expr e, c, st => (match st with
    | .Expr e' _ => okE e c e' && noComp e'
    | _ => false)
  | .set t e, c, st => (match t, st with
    | .name i, .Assign [.Name x _] e' _ => decide (c.N[i]? = some x) && locB c x && okE e c e' && noComp e'
    | .names is, .Assign [tg] e' _ => okG c (.names is) tg && noStar tg && okE e c e' && noComp e' && noTup e'
    | _, _ => false)
  | .setIx i a e, c, st => (match st with
    | .Assign [.Subscript (.Name x _) a' _] e' _ => varB c i x && noSlice a' && okE a c a' && okE e c e' && noComp e'
    | _ => false)
  | .app i e, c, st => (match st with
    | .Expr (.Call (.Attribute (.Name x _) m apos) [e'] [] cpos) _ => decide (m = Str.ofString "append") && varB c i x && noStar e' && okE e c e' && decide ((apos.endLine == cpos.line) = true)
    | _ => false)
  | .ext i e, c, st => (match st with
    | .Expr (.Call (.Attribute (.Name x _) m apos) [e'] [] cpos) _ => decide (m = Str.ofString "extend") && varB c i x && noStar e' && okE e c e' && decide ((apos.endLine == cpos.line) = true)
    | _ => false)
  | .ifS t a b, c, st => (match st with
    | .If t' a' b' _ => okT t c t' && okSs a c a' && okSs b c b'
    | _ => false)
  | .forS t it b, c, st => (match st with
    | .For tg it' b' [] _ => okJ it c it' tg && okG c t tg && noSet it' && okSs b c b'
    | _ => false)
  | .ret e, c, st => (match st with
    | .Return (some e') _ => okE e c e'
    | _ => false)
  | .retV i, c, st => (match st with
    | .Return (some (.Name x _)) _ => varB c i x
    | _ => false)
  | .retN, _, st => (match st with
    | .Return none _ => true
    | _ => false)
  | .raise x, c, st => (match st with
    | .Raise (some (.Call (.Name y _) [.Constant (.str _) _ _] [] _)) none _ => decide (y = x) && glB c.sc x && dbg x
    | _ => false)
  | .pass, _, st => (match st with
    | .Pass _ => true
    | _ => false)
  | .brk, _, st => (match st with
    | .Break _ => true
    | _ => false)
  | .cont, _, st => (match st with
    | .Continue _ => true
    | _ => false)
  | .tryS b hs, c, st => (match st with
    | .Try b' (h :: hds) [] [] _ => okSs b c b' && okHs hs c (h :: hds)
    | _ => false)
  | .freeze _, _, _ => false
def okSs : List LS → Sc → List Stmt → Bool
  | [], _, ss => ss.isEmpty
  | l :: ls, c, ss => (match l with
    | .freeze _ => okSs ls c ss
    | _ => (match ss with
      | s :: ss => okS l c s && okSs ls c ss
      | [] => false))
end
theorem swp_of {e : Expr} {t : Option Expr} {n : Nat} {env : PySem.Env} (h : noComp e = true) : swapsWith e t n env = pure false := by
  cases e <;> first | rfl | cases h
theorem swp1_of {e tg : Expr} {n : Nat} {env : PySem.Env} (h : noComp e = true) : swapsWithSole [tg] e n env = pure false := by
  show swapsWith e (some tg) n env = pure false
  exact swp_of h
theorem sto_of {e tg : Expr} {env : PySem.Env} (h : noTup e = true) : swappedStores [tg] e env = pure none := by
  cases e <;> first | (cases h; done) | (cases tg <;> rfl)
section
variable {p : Px} {X : Cx} {c : Sc}
theorem var_of (F : FitS p X c) {i : Nat} {x : Str} (h : varB c i x = true) : X.N[i]? = some x ∧ Vis X.env.scope x ∧ dbg x = true := by
  unfold varB at h
  simp only [Bool.and_eq_true, decide_eq_true_eq] at h
  exact ⟨by rw [F.F.N]; exact h.1.1, by rw [F.F.sc]; exact vis_of h.1.2, h.2⟩
theorem soundJ (F : FitS p X c) : ∀ (le : LE) (e t : Expr), okJ le c e t = true → PI X t e (tJ p le) := by
  intro le e t h
  cases le <;> simp only [okJ] at h <;> try (cases h; done)
  · split at h
    · simp only [Bool.and_eq_true] at h
      obtain ⟨e1, g1, m1⟩ := nm_of F.F h.1.1
      subst e1
      exact sj_rng1 g1 m1 (star_of h.1.2) (soundE _ F.F _ h.2)
    · cases h
  · split at h
    · simp only [Bool.and_eq_true] at h
      obtain ⟨⟨⟨⟨h1, h2⟩, h3⟩, h4⟩, h5⟩ := h
      obtain ⟨e1, g1, m1⟩ := nm_of F.F h1
      subst e1
      exact sj_rng2 g1 m1 (by rw [star_of h2, star_of h3]; rfl) (star_of h3) (soundE _ F.F _ h4) (soundE _ F.F _ h5)
    · cases h
  · split at h
    · simp only [Bool.and_eq_true] at h
      obtain ⟨e1, g1, m1⟩ := nm_of F.F h.1.1
      subst e1
      exact sj_enum F.F.K g1 m1 (star_of h.1.2) (soundE _ F.F _ h.2)
    · cases h
  · exact sj_sq F.F.K (soundE _ F.F _ h)
section
variable {A : Addr} {oe : Obj} {pn : List (Addr × Obj)} {e0 n : Str} {i : Nat}
theorem cstX_sound {Y : Cx} {d : D} {k : Const} {j : Nat} {pos : Pos} (h : cstB d k = true) : PE Y (.Constant k j pos) (tX p i A e0 (.cst d)) := by
  unfold cstB at h
  split at h
  · exact sx_cst pe_non fun _ _ => of_non
  · cases of_decide_eq_true h; exact sx_cst pe_bl fun _ _ => of_bl
  · cases of_decide_eq_true h; exact sx_cst pe_int fun _ _ => of_int
  · cases of_decide_eq_true h; exact sx_cst pe_str fun _ _ => of_str
  · cases h
mutual
theorem soundX (F : FitS p X c) (hz : Zc (clsV X.K e0) none oe) (hf : ∃ vs, oe.data = .fields vs) (hN : X.N[i]? = some n) (hv : Vis X.env.scope n) (hd : dbg n = true) : ∀ (lx : LX) (e : Expr), okX lx c n e = true → PE (X.suite A ((A, oe) :: pn)) e (tX p i A e0 lx)
  | .cst d, e, h => by
    simp only [okX] at h
    split at h
    · exact cstX_sound h
    · cases h
  | .tup es, e, h => by
    simp only [okX] at h
    split at h
    · exact sx_tup (soundXs F hz hf hN hv hd es _ h)
    · cases h
  | .ite t a b, e, h => by
    simp only [okX] at h
    split at h
    · simp only [Bool.and_eq_true] at h
      exact sx_ite (soundXT F hz hf hN hv hd t _ h.1.1) (soundX F hz hf hN hv hd a _ h.1.2) (soundX F hz hf hN hv hd b _ h.2)
    · cases h
  | .isi _, e, h => by simp [okX] at h
  | .not1 _, e, h => by simp [okX] at h
theorem soundXs (F : FitS p X c) (hz : Zc (clsV X.K e0) none oe) (hf : ∃ vs, oe.data = .fields vs) (hN : X.N[i]? = some n) (hv : Vis X.env.scope n) (hd : dbg n = true) : ∀ (ls : List LX) (es : List Expr), okXs ls c n es = true → PA (X.suite A ((A, oe) :: pn)) es (tXs p i A e0 ls)
  | [], es, h => by
    simp only [okXs, List.isEmpty_iff] at h
    subst h
    exact sxs_nil
  | a :: l, es, h => by
    simp only [okXs] at h
    split at h
    · simp only [Bool.and_eq_true] at h
      exact sxs_cons (soundX F hz hf hN hv hd a _ h.1.1) (soundXs F hz hf hN hv hd l _ h.2) (star_of h.1.2)
    · cases h
theorem soundXT (F : FitS p X c) (hz : Zc (clsV X.K e0) none oe) (hf : ∃ vs, oe.data = .fields vs) (hN : X.N[i]? = some n) (hv : Vis X.env.scope n) (hd : dbg n = true) : ∀ (lx : LX) (e : Expr), okXT lx c n e = true → PT (X.suite A ((A, oe) :: pn)) e (tXT p i A e0 lx)
  | .isi x, e, h => by
    simp only [okXT] at h
    split at h
    · simp only [Bool.and_eq_true, decide_eq_true_eq] at h
      obtain ⟨⟨⟨⟨h1, h2⟩, h3⟩, h4⟩, h5⟩ := h
      subst h2 h3
      obtain ⟨e1, g1, m1⟩ := nm_of F.F h1
      subst e1
      exact sxt_isi F.F.K hz hf hN hv hd h5 g1 m1 (gl_of F.F h4) (fun m => (F.exc _ m).1) (fun m => (F.exc _ m).2) (fun m m' => (F.exm _ _ m m').2)
    · cases h
  | .not1 a, e, h => by
    simp only [okXT] at h
    split at h
    · exact sxt_not (soundXT F hz hf hN hv hd a _ h)
    · cases h
  | .cst _, e, h => by simp [okXT] at h
  | .tup _, e, h => by simp [okXT] at h
  | .ite _ _ _, e, h => by simp [okXT] at h
end
end
theorem soundHs (F : FitS p X c) : ∀ (hs : List (Str × Nat × LX)) (hds : List ExceptHandler), okHs hs c hds = true → HdsA X hds (hs.map fun q => (clsV p.K q.1, q.2.1, tSui p q.2.1 q.2.2))
  | [], hds, h => by
    simp only [okHs, List.isEmpty_iff] at h
    subst h
    exact .nil
  | (x, i, lx) :: hs, hds, h => by
    simp only [okHs] at h
    split at h
    · rename_i y yp n e rp hp hds'
      simp only [Bool.and_eq_true, decide_eq_true_eq] at h
      obtain ⟨⟨⟨⟨⟨⟨⟨⟨h1, h2⟩, h3⟩, h4⟩, h5⟩, h6⟩, h7⟩, h8⟩, h9⟩ := h
      subst h1
      have hN : X.N[i]? = some n := by rw [F.F.N]; exact h5
      have hl : X.env.kindOf n = some .local := by
        show X.env.scope.names.lookup n = _
        rw [F.F.sc]
        exact h6
      refine .cons ⟨gl_of F.F h2, (dbg_of h3).1, .inl (F.exc _ (F.exs _ h4)).1⟩ hN hl (fun A oe cls d pn hz hf => ⟨fun pins s σ H Z I ⟨e0, e1, e2, he, q⟩ => ?_⟩) (soundHs F hs hds' h9)
      subst e1 e2
      rw [← F.F.K] at hz
      have hlt : i < σ.length := by
        have : σ.length = X.N.length := I.len
        have h' := (List.getElem?_eq_some_iff.mp hN).1
        omega
      exact (pss_one (ps_ret (soundX (p := p) (A := A) (pn := pn) F hz hf hN (.inl hl) h7 lx e h8))).run pins s σ H Z I (q hlt)
    · cases h
end
mutual
theorem soundS : ∀ (l : LS) {p : Px} {X : Cx} {c : Sc} (μ0 : List Addr) (H0 : Hp), FitS p X c → ∀ st : Stmt, okS l c st = true → PS X st (tS p μ0 H0 l)
  | .expr e, p, X, c, μ0, H0, F, st, h => by
    simp only [okS] at h
    split at h
    · simp only [Bool.and_eq_true] at h
      exact ss_expr (soundE e F.F _ h.1) (swp_of h.2)
    · cases h
  | .set t e, p, X, c, μ0, H0, F, st, h => by
    simp only [okS] at h
    split at h
    · simp only [Bool.and_eq_true, decide_eq_true_eq] at h
      obtain ⟨⟨⟨h1, h2⟩, h3⟩, h4⟩ := h
      obtain ⟨l1, l2⟩ := loc_of F.F h2
      exact ss_set1 F.F.nd (by rw [F.F.N]; exact h1) l1 l2 (soundE e F.F _ h3) (swp_of h4)
    · simp only [Bool.and_eq_true] at h
      obtain ⟨⟨⟨⟨h1, h2⟩, h3⟩, h4⟩, h5⟩ := h
      exact ss_setN (okG_sound F.F _ _ h1) (soundE e F.F _ h3) (swp1_of h4) (sto_of h5) (by rename_i tg _ _; cases tg <;> first | rfl | cases h2)
    · cases h
  | .setIx i a e, p, X, c, μ0, H0, F, st, h => by
    simp only [okS] at h
    split at h
    · simp only [Bool.and_eq_true] at h
      obtain ⟨⟨⟨⟨h1, h2⟩, h3⟩, h4⟩, h5⟩ := h
      obtain ⟨v1, v2, v3⟩ := var_of F h1
      exact ss_setIx h2 v1 v2 v3 (soundE a F.F _ h3) (soundE e F.F _ h4) (swp1_of h5)
    · cases h
  | .app i e, p, X, c, μ0, H0, F, st, h => by
    simp only [okS] at h
    split at h
    · simp only [Bool.and_eq_true, decide_eq_true_eq] at h
      obtain ⟨⟨⟨⟨h1, h2⟩, h3⟩, h4⟩, h5⟩ := h
      subst h1
      obtain ⟨v1, v2, v3⟩ := var_of F h2
      exact ss_app v1 v2 v3 h3 (soundE e F.F _ h4) h5
    · cases h
  | .ext i e, p, X, c, μ0, H0, F, st, h => by
    simp only [okS] at h
    split at h
    · simp only [Bool.and_eq_true, decide_eq_true_eq] at h
      obtain ⟨⟨⟨⟨h1, h2⟩, h3⟩, h4⟩, h5⟩ := h
      subst h1
      obtain ⟨v1, v2, v3⟩ := var_of F h2
      exact ss_ext v1 v2 v3 h3 (soundE e F.F _ h4) h5
    · cases h
  | .ifS t a b, p, X, c, μ0, H0, F, st, h => by
    simp only [okS] at h
    split at h
    · simp only [Bool.and_eq_true] at h
      exact ss_if (soundT t F.F _ h.1.1).1 (soundSs a μ0 H0 F _ h.1.2) (soundSs b μ0 H0 F _ h.2)
    · cases h
  | .forS t it b, p, X, c, μ0, H0, F, st, h => by
    simp only [okS] at h
    split at h
    · simp only [Bool.and_eq_true] at h
      exact ss_for F.own F.F.calm (soundJ F it _ _ h.1.1.1) (okG_sound F.F _ _ h.1.1.2) (soundSs b μ0 H0 F _ h.2) (set_of h.1.2)
    · cases h
  | .ret e, p, X, c, μ0, H0, F, st, h => by
    simp only [okS] at h
    split at h
    · exact ss_ret (soundE e F.F _ h)
    · cases h
  | .retV i, p, X, c, μ0, H0, F, st, h => by
    simp only [okS] at h
    split at h
    · obtain ⟨v1, v2, v3⟩ := var_of F h
      exact ss_retV v1 v2 (dbg_of v3).1 (dbg_of v3).2
    · cases h
  | .retN, p, X, c, μ0, H0, F, st, h => by
    simp only [okS] at h
    split at h
    · exact ss_retN
    · cases h
  | .raise x, p, X, c, μ0, H0, F, st, h => by
    simp only [okS] at h
    split at h
    · simp only [Bool.and_eq_true, decide_eq_true_eq] at h
      obtain ⟨⟨h1, h2⟩, h3⟩ := h
      subst h1
      exact ss_raise F.F.calm F.F.K F.F.tk (gl_of F.F h2) h3 (F.exc _)
    · cases h
  | .pass, p, X, c, μ0, H0, F, st, h => by
    simp only [okS] at h
    split at h
    · exact ss_pass
    · cases h
  | .brk, p, X, c, μ0, H0, F, st, h => by
    simp only [okS] at h
    split at h
    · exact ss_brk
    · cases h
  | .cont, p, X, c, μ0, H0, F, st, h => by
    simp only [okS] at h
    split at h
    · exact ss_cont
    · cases h
  | .tryS b hs, p, X, c, μ0, H0, F, st, h => by
    simp only [okS] at h
    split at h
    · simp only [Bool.and_eq_true] at h
      exact ss_try F (fun p' X' _ _ _ _ F' => soundSs b μ0 H0 F' _ h.1) (soundHs F hs _ h.2)
    · cases h
  | .freeze _, p, X, c, μ0, H0, F, st, h => by simp [okS] at h
theorem soundSs : ∀ (ls : List LS) {p : Px} {X : Cx} {c : Sc} (μ0 : List Addr) (H0 : Hp), FitS p X c → ∀ ss : List Stmt, okSs ls c ss = true → PSs X ss (tSs p μ0 H0 ls)
  | [], p, X, c, μ0, H0, F, ss, h => by
    simp only [okSs, List.isEmpty_iff] at h
    subst h
    exact sss_nil
  | l :: ls, p, X, c, μ0, H0, F, ss, h => by
    by_cases hl : ∃ i, l = .freeze i
    · obtain ⟨i, rfl⟩ := hl
      simp only [okSs] at h
      exact sss_frz (soundSs ls μ0 H0 F _ h)
    · simp only [okSs] at h
      split at h
      · rename_i i
        exact (hl ⟨i, rfl⟩).elim
      · cases ss with
        | nil => cases h
        | cons s ss =>
          simp only [Bool.and_eq_true] at h
          exact sss_cons (soundS l μ0 H0 F _ h.1) (soundSs ls μ0 H0 F _ h.2)
end
end Pl
end

section
set_option Elab.async false
set_option linter.all false
set_option maxRecDepth 100000
/-! A program's defs keep the interpreter's promise. -/
namespace Pl
open PySem PySem.Spec PyProof.Rows L2

/-! ### what is forgotten behind a call -/
section
variable {K : PySem.W.Frag} {w : World} {μ μ' : List Addr} {H H' : Hp} {S S' : Sto}
mutual
theorem rep_under : ∀ (d : D) (v : V), Rep K w μ H d v → d.under μ.length = true
  | .non, _, _ => rfl
  | .bl _, _, _ => rfl
  | .int _, _, _ => rfl
  | .str _, _, _ => rfl
  | .glo _, _, _ => rfl
  | .ref n, _, h => by
    obtain ⟨a, _, e⟩ := rep_ref h
    exact decide_eq_true (List.getElem?_eq_some_iff.mp e).1
  | .tup xs, _, h => by
    obtain ⟨a, vs, _, _, g⟩ := rep_tup h
    exact repL_under xs vs g
  | .lst xs, _, h => by
    obtain ⟨a, vs, _, _, g⟩ := rep_lst h
    exact repL_under xs vs g
  | .dic ks xs, _, h => by
    obtain ⟨a, vs, _, _, g⟩ := rep_dic h
    exact repL_under xs vs g
theorem repL_under : ∀ (xs : List D) (vs : List V), RepL K w μ H xs vs → D.unders μ.length xs = true
  | [], _, _ => rfl
  | x :: xs, _, h => by
    unfold RepL at h
    obtain ⟨v, r, rfl, h1, h2⟩ := h
    exact Bool.and_eq_true_iff.mpr ⟨rep_under x v h1, repL_under xs r h2⟩
end
theorem get_pre (p : μ <+: μ') {n : Nat} {a : Addr} (hn : n < μ.length) (h : μ'[n]? = some a) : μ[n]? = some a := by
  obtain ⟨t, rfl⟩ := p
  rw [List.getElem?_append_left hn] at h
  exact h
mutual
theorem rep_gc (p : μ <+: μ') : ∀ (d : D) (v : V), d.under μ.length = true → Rep K w μ' H d v → Rep K w μ H d v
  | .non, _, _, h => by unfold Rep at h ⊢; exact h
  | .bl _, _, _, h => by unfold Rep at h ⊢; exact h
  | .int _, _, _, h => by unfold Rep at h ⊢; exact h
  | .str _, _, _, h => by unfold Rep at h ⊢; exact h
  | .glo _, _, _, h => by unfold Rep at h ⊢; exact h
  | .ref n, _, u, h => by
    unfold Rep at h ⊢
    obtain ⟨a, e, q⟩ := h
    exact ⟨a, e, get_pre p (of_decide_eq_true u) q⟩
  | .tup xs, _, u, h => by
    unfold Rep at h ⊢
    obtain ⟨a, vs, e, q, g⟩ := h
    exact ⟨a, vs, e, q, repL_gc p xs vs u g⟩
  | .lst xs, _, u, h => by
    unfold Rep at h ⊢
    obtain ⟨a, vs, e, q, g⟩ := h
    exact ⟨a, vs, e, q, repL_gc p xs vs u g⟩
  | .dic ks xs, _, u, h => by
    unfold Rep at h ⊢
    obtain ⟨a, vs, e, q, g⟩ := h
    exact ⟨a, vs, e, q, repL_gc p xs vs u g⟩
theorem repL_gc (p : μ <+: μ') : ∀ (xs : List D) (vs : List V), D.unders μ.length xs = true → RepL K w μ' H xs vs → RepL K w μ H xs vs
  | [], _, _, h => by unfold RepL at h ⊢; exact h
  | x :: xs, _, u, h => by
    unfold RepL at h ⊢
    obtain ⟨v, r, e, h1, h2⟩ := h
    obtain ⟨u1, u2⟩ := Bool.and_eq_true_iff.mp u
    exact ⟨v, r, e, rep_gc p x v u1 h1, repL_gc p xs r u2 h2⟩
end
theorem StOk.gc (h : StOk K w μ H S) (st : Stp μ H μ' H') (h' : StOk K w μ' H' S') (e : S'.take S.length = S) : StOk K w μ H' S ∧ Stp μ H μ H' := by
  refine ⟨⟨h.len, h.nd, fun n a q => ?_⟩, ⟨List.prefix_refl _, st.keep, fun b m => .inl m⟩⟩
  have hn : n < μ.length := (List.getElem?_eq_some_iff.mp q).1
  obtain ⟨xs, vs, e1, e2, g⟩ := h.ob n a q
  obtain ⟨ys, us, f1, f2, g'⟩ := h'.ob n a (pre_get st.pre q)
  have e3 : S[n]? = S'[n]? := by
    rw [← e, List.getElem?_take_of_lt (by rw [← h.len]; exact hn)]
  rw [e3, f1] at e1
  cases e1
  exact ⟨_, us, by rw [e3]; exact f1, f2, repL_gc st.pre _ us (repL_under _ _ g) g'⟩
end
section
variable {p : Px} {μ μ' : List Addr} {H H' : Hp} {S S' : Sto}
theorem gc_ok {σ : L2.St} {v : EV} {u : V} {Q : VK} (h : Wp p σ (RE p) μ H (gcE S v S') Q) (hS : StOk p.K p.w μ H S) (st : Stp μ H μ' H') (hS' : StOk p.K p.w μ' H' S') (r : RE p H v μ' H' u) : Q u H' := by
  unfold gcE at h
  split at h
  · rename_i c
    obtain ⟨h1, h2⟩ := hS.gc st hS' c.1
    refine h u μ H' h2 h1 ⟨?_, r.2⟩
    have un := c.2
    rw [← hS.len] at un
    have r1 := r.1
    cases v with
    | d x => exact rep_gc st.pre x u un r1
    | own xs =>
      obtain ⟨a, vs, e, e2, g, m⟩ := r1
      exact ⟨a, vs, e, e2, repL_gc st.pre _ _ un g, fun z => m (st.pre.subset z)⟩
    | brw xs =>
      obtain ⟨a, vs, e, e2, g, m⟩ := r1
      exact ⟨a, vs, e, e2, repL_gc st.pre _ _ un g, fun z => m (st.pre.subset z)⟩
  · exact h u μ' H' st hS' r
theorem gc_exc {σ : L2.St} {c : Str} {Q : VK} (h : Wp p σ (RE p) μ H (gcX S c S') Q) (hS : StOk p.K p.w μ H S) (st : Stp μ H μ' H') (hS' : StOk p.K p.w μ' H' S') : p.W (clsV p.K c) none σ H' := by
  unfold gcX at h
  split at h
  · rename_i e
    obtain ⟨h1, h2⟩ := hS.gc st hS' e
    exact h μ H' h2 h1
  · exact h μ' H' st hS'
theorem start_ok {K : PySem.W.Frag} {w : World} {N : List Str} : ∀ {xs : List D} {vs : List V}, RepL K w μ H xs vs → EnvOk K w μ H (startE N xs) (L2.start N vs) := by
  intro xs vs g
  have hl := g.length
  have nown : ∀ {i : Nat} {e : EV}, (startE N xs)[i]? = some (some e) → ∃ d, xs[i]? = some d ∧ e = .d d := fun {i e} q => by
    unfold startE at q
    by_cases hi : i < xs.length
    · rw [List.getElem?_append_left (by simpa using hi), List.getElem?_map, List.getElem?_eq_getElem hi] at q
      simp at q
      exact ⟨xs[i], List.getElem?_eq_getElem hi, q.symm⟩
    · rw [List.getElem?_append_right (by simpa using hi), List.getElem?_replicate] at q
      split at q <;> cases q
  refine ⟨?_, fun i e q => ?_, fun i j a ys zs q1 _ _ _ => ?_, fun i ys q => ?_⟩
  · unfold startE L2.start
    simp [hl]
  · obtain ⟨d, q1, rfl⟩ := nown q
    obtain ⟨v, q2, r⟩ := g.get q1
    refine ⟨v, ?_, r⟩
    unfold L2.start
    have hi : i < vs.length := (List.getElem?_eq_some_iff.mp q2).1
    rw [List.getElem?_append_left (by simpa using hi), List.getElem?_map, q2]
    rfl
  · obtain ⟨d, _, e⟩ := nown q1
    cases e
  · obtain ⟨d, _, e⟩ := nown q
    cases e
end

/-! ### the program -/
/-- a def of the text, with its small text -/
structure DefP where
  fn : Fn
  params : Arguments
  body : List Stmt
  scope : Scope
def scB (N ps : List Str) (sc : Scope) : Bool := decide (sc.kind = .function) && !sc.isCoroutine && !sc.isGenerator && decide N.Nodup && decide (N.take ps.length = ps) && ps.all (fun x => decide (sc.names.lookup x = some .local) || decide (sc.names.lookup x = some .cell)) && sc.names.all fun y => !decide (y.2 = .free)
theorem sc_of {N ps : List Str} {sc : Scope} (h : scB N ps sc = true) : FnScope N ps sc := by
  unfold scB at h
  simp only [Bool.and_eq_true, List.all_eq_true, decide_eq_true_eq, Bool.or_eq_true, Bool.not_eq_true', decide_eq_false_iff_not] at h
  obtain ⟨⟨⟨⟨⟨⟨h1, h2⟩, h3⟩, h4⟩, h5⟩, h6⟩, h7⟩ := h
  exact ⟨h1, h2, h3, h4, h5, h6, h7⟩
def okD (free defs excs : List Str) (d : DefP) : Bool := scB d.fn.N d.fn.ps d.scope && okSs d.fn.body ⟨d.fn.N, d.scope, fun _ => true, free, defs, excs⟩ d.body
/-- what is known of the module -/
structure Top (K : PySem.W.Frag) (w : World) (mg : Str → Option Value) (G : Gd) (ds : List DefP) (free : List Str) : Prop where
  const : ∀ x d, G.consts.lookup x = some d → ∃ u v, mg x = some u ∧ RelV v u ∧ ∀ μ H, Rep K w μ H d v
  free : ∀ x, x ∈ free → mg x = none
  fns : ∀ d, d ∈ ds → ∃ fd, FunD K d.fn.name d.fn.name d.params d.body d.scope [] [] (He.ga K d.fn.name) fd ∧ mg d.fn.name = some (.ref (He.ga K d.fn.name)) ∧ Binds K fd d.fn.ps []
  exc : ∀ x, x ∈ G.excs → mg x = some (clsV K x) ∧ ExF K x
  exm : ∀ e x, e ∈ G.excs → x ∈ G.excs → PySem.W.exmOne K (clsV K e) (clsV K x) = some (G.sub e x) ∧ PySem.W.kitOne K (clsV K e) (clsV K x) = some (G.sub e x)
section
variable {P : Program} {w : World} {K : PySem.W.Frag} {mg : Str → Option Value} {bs : Heap} {G : Gd} {ds : List DefP} {free : List Str}
abbrev fnsOf (ds : List DefP) : List Fn := ds.map (·.fn)
theorem run_sound (T : Top K w mg G ds free) (ok : ds.all (okD free (ds.map (·.fn.name)) G.excs) = true) (nd : (ds.map (·.fn.name)).Nodup) : ∀ (k : Nat) (d : DefP), d ∈ ds → ∀ fd, FunD K d.fn.name d.fn.name d.params d.body d.scope [] [] (He.ga K d.fn.name) fd →
    FnG P w K mg bs k (He.ga K d.fn.name) fd d.fn.ps (spC K w G (run G (fnsOf ds) k) d.fn.name) := by
  intro k
  induction k with
  | zero =>
    intro d hd fd F
    refine ⟨fun vs H Q E h => ?_, fun A ar s H args us vs Q E _ _ _ _ _ h => ?_⟩
    · obtain ⟨μ, S, xs, _, _, h⟩ := h
      exact h.elim
    · obtain ⟨μ, S, xs, _, _, h⟩ := h
      exact h.elim
  | succ k ih =>
    intro d hd fd F
    have hok := List.all_eq_true.mp ok d hd
    unfold okD at hok
    obtain ⟨h1, h2⟩ := Bool.and_eq_true_iff.mp hok
    have SC := sc_of h1
    have find : (fnsOf ds).find? (fun f => f.name = d.fn.name) = some d.fn := by
      have gen : ∀ (l : List DefP), (l.map (·.fn.name)).Nodup → d ∈ l → (fnsOf l).find? (fun f => f.name = d.fn.name) = some d.fn := by
        intro l
        induction l with
        | nil => intro _ h; cases h
        | cons e l il =>
          intro n h
          rw [List.map_cons, List.nodup_cons] at n
          rw [show fnsOf (e :: l) = e.fn :: fnsOf l from rfl, List.find?_cons]
          rcases List.mem_cons.mp h with rfl | h
          · simp
          · have ne : e.fn.name ≠ d.fn.name := fun z => n.1 (by rw [z]; exact List.mem_map_of_mem h)
            simp only [ne, decide_false]
            exact il n.2 h
      exact gen ds nd hd
    have open_ : ∀ xs S, run G (fnsOf ds) (k + 1) d.fn.name xs S = runFn G (run G (fnsOf ds) k) d.fn xs S := fun xs S => by
      show (match (fnsOf ds).find? (fun f => f.name = d.fn.name) with
        | some f => runFn G (run G (fnsOf ds) k) f xs S
        | none => .stuck) = _
      rw [find]
    have ar : ∀ vs H Q E, spC K w G (run G (fnsOf ds) (k + 1)) d.fn.name vs H Q E → vs.length = d.fn.ps.length := by
      rintro vs H Q E ⟨μ, S, xs, hS, g, h⟩
      rw [open_] at h
      unfold runFn at h
      split at h
      · rename_i e
        rw [g.length, e]
      · exact h.elim
    obtain ⟨oc, od, dV, kV, doc, pm, an, cdv, ct, osl, rfl, lk, hcd, _, _⟩ := F.ex
    refine fn_ofG lk hcd SC ar fun A ar s H vs Q E hgu hr hsp => ?_
    obtain ⟨μ, S, xs, hS, g, h⟩ := hsp
    rw [open_] at h
    refine ⟨tSs ⟨K, w, G, run G (fnsOf ds) k, fun c d _ H => E c d H⟩ μ H d.fn.body, soundSs d.fn.body μ H (c := ⟨d.fn.N, d.scope, fun _ => true, free, ds.map (·.fn.name), G.excs⟩) ⟨⟨rfl, rfl, rfl, ?_, hgu, SC.nd, rfl, rfl, rfl, takes_of rfl rfl rfl rfl, T.const, T.free, ?_⟩, passes_of rfl, rfl, rfl, T.exc, fun _ z => z, T.exm⟩ _ h2, ?_⟩
    · have := hr.un
      show (A.deeper _).units + 65 < cLine
      omega
    · intro x hx
      obtain ⟨d', hd', rfl⟩ := List.mem_map.mp hx
      obtain ⟨fd', F', m', b'⟩ := T.fns d' hd'
      exact ⟨k, _, fd', _, ih d' hd' fd' F', hr, m', F'.kp, b'⟩
    · refine ⟨startE d.fn.N xs, S, μ, ⟨Stp.refl, hS, start_ok g, fun i ys a q _ => ?_⟩, ?_⟩
      · have := (start_ok (N := d.fn.N) g).at_ i _ q
        obtain ⟨v, e1, a', vs', e2, e3, _, _⟩ := this
        exfalso
        unfold startE at q
        by_cases hi : i < xs.length
        · rw [List.getElem?_append_left (by simpa using hi), List.getElem?_map, List.getElem?_eq_getElem hi] at q
          simp at q
        · rw [List.getElem?_append_right (by simpa using hi), List.getElem?_replicate] at q
          split at q <;> cases q
      · unfold runFn at h
        split at h
        · have W0 : ∀ {v : EV} {S' : Sto} {u : V} {μ' : List Addr} {H' : Hp}, Wp (⟨K, w, G, run G (fnsOf ds) (k + 1), fun c d _ H => E c d H⟩ : Px) [] (RE ⟨K, w, G, run G (fnsOf ds) (k + 1), fun c d _ H => E c d H⟩) μ H (gcE S v S') Q →
              Stp μ H μ' H' → StOk K w μ' H' S' → RE ⟨K, w, G, run G (fnsOf ds) (k + 1), fun c d _ H => E c d H⟩ H v μ' H' u → Q u H' := fun h st hS' r => gc_ok h hS st hS' r
          show WS _ μ H μ H (execs G (run G (fnsOf ds) k) d.fn.body (startE d.fn.N xs) S) _
          cases er : execs G (run G (fnsOf ds) k) d.fn.body (startE d.fn.N xs) S with
          | next ρ' S' =>
            rw [er] at h
            exact fun σ' μ' H' F' _ => W0 h F'.st F'.S ⟨(of_non : Rep K w μ' H' .non .non), fun _ e => nomatch e⟩
          | ret v S' =>
            rw [er] at h
            exact fun u μ' H' st hS' r => W0 h st hS' r
          | exc c ρ' S' =>
            rw [er] at h
            exact fun σ' μ' H' F' _ => gc_exc (p := ⟨K, w, G, run G (fnsOf ds) (k + 1), fun c d _ H => E c d H⟩) h hS F'.st F'.S
          | brk ρ' S' => rw [er] at h; exact h.elim
          | cont ρ' S' => rw [er] at h; exact h.elim
          | stuck => rw [er] at h; exact h.elim
        · exact h.elim
end
end Pl
end

section
set_option Elab.async false
set_option linter.all false
set_option maxRecDepth 100000
/-! The head: what stands behind the module's top; the law's call. -/
namespace Pl
open PySem PySem.Spec PyProof.Rows L2

/-! ### constants of the module -/
def keyStr (e : DictEntry) : Option Str := match e.key with
  | .str x _ => some x
  | _ => none
mutual
def repB (K : PySem.W.Frag) (ts : List He.Tab) : D → Value → Bool
  | .non, u => (match u with
    | .none => true
    | _ => false)
  | .bl b, u => (match u with
    | .bool c => decide (b = c)
    | _ => false)
  | .int i, u => (match u with
    | .int j _ => decide (i = j)
    | _ => false)
  | .str s, u => (match u with
    | .str z _ => decide (s = z)
    | _ => false)
  | .tup ds, u => (match u with
    | .ref a => (match K.lookup a with
      | some ⟨.type c, _, .seq its _, _⟩ => decide (c = "tuple") && decide (its.size ≤ sizeLine) && repBs K ts ds its.toList
      | _ => false)
    | _ => false)
  | .dic ks ds, u => (match u with
    | .ref a => ts.any (fun t => decide (t.1 K = a)) && (match K.lookup a with
      | some ⟨_, _, .dict es _, _⟩ => decide (es.toList.map keyStr = ks.map some) && repBs K ts ds (es.toList.map (·.val))
      | _ => false)
    | _ => false)
  | .lst _, _ => false
  | .ref _, _ => false
  | .glo _, _ => false
def repBs (K : PySem.W.Frag) (ts : List He.Tab) : List D → List Value → Bool
  | [], us => us.isEmpty
  | d :: ds, us => (match us with
    | u :: us => repB K ts d u && repBs K ts ds us
    | [] => false)
end
theorem find_keys : ∀ {es : List DictEntry} {ks : List Str} {vs : List V} {z : Str}, es.map keyStr = ks.map some → Vals vs (es.map (·.val)) →
    (∀ v, (ks.zip vs).lookup z = some v → ∃ e, es.find? (·.key.isStr z) = some e ∧ RelV v e.val) ∧ ((ks.zip vs).lookup z = none → es.find? (·.key.isStr z) = none)
  | [], [], _, _, _, _ => ⟨fun v h => by simp at h, fun _ => rfl⟩
  | [], _ :: _, _, _, h, _ => by simp at h
  | _ :: _, [], _, _, h, _ => by simp at h
  | e :: es, k :: ks, vs, z, h, r => by
    rw [List.map_cons] at r
    cases r with
    | @cons v _ vs us r1 r2 =>
      rw [List.map_cons, List.map_cons, List.cons.injEq] at h
      have hk : e.key.isStr z = (k == z) := by
        have h1 := h.1
        unfold keyStr at h1
        split at h1
        · rename_i x t q
          cases h1
          rw [q]
          rfl
        · cases h1
      obtain ⟨i1, i2⟩ := find_keys (z := z) h.2 r2
      have hz : List.lookup z ((k, v) :: ks.zip vs) = if z == k then some v else (ks.zip vs).lookup z := by
        rw [List.lookup_cons]
        cases z == k <;> rfl
      have hc : (k == z) = (z == k) := by
        by_cases q : k = z
        · rw [q]
        · rw [beq_eq_false_iff_ne.mpr q, beq_eq_false_iff_ne.mpr (Ne.symm q)]
      refine ⟨fun w hw => ?_, fun hw => ?_⟩
      · have hw : List.lookup z ((k, v) :: ks.zip vs) = some w := hw
        rw [hz] at hw
        rw [List.find?_cons, hk, hc]
        cases q : z == k with
        | true =>
          rw [q] at hw
          cases hw
          exact ⟨e, rfl, r1⟩
        | false =>
          rw [q] at hw
          exact i1 w hw
      · have hw : List.lookup z ((k, v) :: ks.zip vs) = none := hw
        rw [hz] at hw
        rw [List.find?_cons, hk, hc]
        cases q : z == k with
        | true =>
          rw [q] at hw
          cases hw
        | false =>
          rw [q] at hw
          exact i2 hw
section
variable {K : PySem.W.Frag} {w : World} {ts : List He.Tab}
mutual
theorem repB_ok (kd : ∀ t, t ∈ ts → ∃ es n, KDict K w (t.1 K) es n) : ∀ (d : D) (u : Value), repB K ts d u = true → ∃ v, RelV v u ∧ ∀ μ H, Rep K w μ H d v
  | .non, u, h => by
    unfold repB at h
    split at h
    · exact ⟨.non, rfl, fun _ _ => of_non⟩
    · cases h
  | .bl b, u, h => by
    unfold repB at h
    split at h
    · cases of_decide_eq_true h
      exact ⟨.bl b, rfl, fun _ _ => of_bl⟩
    · cases h
  | .int b, u, h => by
    unfold repB at h
    split at h
    · cases of_decide_eq_true h
      exact ⟨.int b, ⟨_, rfl⟩, fun _ _ => of_int⟩
    · cases h
  | .str b, u, h => by
    unfold repB at h
    split at h
    · cases of_decide_eq_true h
      exact ⟨.str b, ⟨_, rfl⟩, fun _ _ => of_str⟩
    · cases h
  | .tup ds, u, h => by
    unfold repB at h
    split at h
    · rename_i a
      split at h
      · rename_i c dd its n sl lk
        simp only [Bool.and_eq_true, decide_eq_true_eq] at h
        obtain ⟨⟨h1, h2⟩, h3⟩ := h
        subst h1
        obtain ⟨vs, r, g⟩ := repBs_ok kd ds _ h3
        refine ⟨.ref a, rfl, fun μ H => ?_⟩
        unfold Rep
        exact ⟨a, vs, rfl, .inr ⟨_, its, n, lk, rfl, rfl, h2, r⟩, g μ H⟩
      · cases h
    · cases h
  | .dic ks ds, u, h => by
    unfold repB at h
    split at h
    · rename_i a
      obtain ⟨h0, h⟩ := Bool.and_eq_true_iff.mp h
      obtain ⟨t, ht, ea⟩ := List.any_eq_true.mp h0
      have ea := of_decide_eq_true ea
      split at h
      · rename_i cl dd es n sl lk
        simp only [Bool.and_eq_true, decide_eq_true_eq] at h
        obtain ⟨h1, h2⟩ := h
        obtain ⟨vs, r, g⟩ := repBs_ok kd ds _ h2
        refine ⟨.ref a, rfl, fun μ H => ?_⟩
        unfold Rep
        have noref : es.toList.any (·.refKey) = false := by
          have gen : ∀ (l : List DictEntry) (ks : List Str), l.map keyStr = ks.map some → l.any (·.refKey) = false := by
            intro l
            induction l with
            | nil => intro _ _; rfl
            | cons e l il =>
              intro ks h
              cases ks with
              | nil => cases h
              | cons k ks =>
                rw [List.map_cons, List.map_cons, List.cons.injEq] at h
                rw [List.any_cons, il ks h.2]
                have h1 := h.1
                unfold keyStr at h1
                split at h1
                · rename_i x t q
                  have : e.refKey = false := by unfold DictEntry.refKey; rw [q]
                  rw [this]
                  rfl
                · cases h1
          exact gen _ _ h1
        refine ⟨a, vs, rfl, ⟨ea ▸ kd t ht, ?_, fun z v hz => ?_, fun z hz => ?_⟩, g μ H⟩
        · have l1 := congrArg List.length h1
          have l2 := r.length
          simp only [List.length_map] at l1 l2
          omega
        · obtain ⟨e, he, rv⟩ := (find_keys (z := z) h1 r).1 v hz
          refine ⟨e.val, ?_, rv⟩
          unfold PySem.W.nsIn
          rw [lk]
          simp only [he]
        · have he := (find_keys (z := z) h1 r).2 hz
          unfold PySem.W.nsIn
          rw [lk]
          simp only [he, noref, Bool.false_eq_true, if_false]
      · cases h
    · cases h
  | .lst _, _, h => by unfold repB at h; cases h
  | .ref _, _, h => by unfold repB at h; cases h
  | .glo _, _, h => by unfold repB at h; cases h
theorem repBs_ok (kd : ∀ t, t ∈ ts → ∃ es n, KDict K w (t.1 K) es n) : ∀ (ds : List D) (us : List Value), repBs K ts ds us = true → ∃ vs, Vals vs us ∧ ∀ μ H, RepL K w μ H ds vs
  | [], us, h => by
    simp only [repBs, List.isEmpty_iff] at h
    subst h
    exact ⟨[], .nil, fun _ _ => RepL.nil⟩
  | d :: ds, us, h => by
    simp only [repBs] at h
    split at h
    · obtain ⟨h1, h2⟩ := Bool.and_eq_true_iff.mp h
      obtain ⟨v, r, g⟩ := repB_ok kd d _ h1
      obtain ⟨vs, rs, gs⟩ := repBs_ok kd ds _ h2
      exact ⟨v :: vs, .cons r rs, fun μ H => RepL.cons (g μ H) (gs μ H)⟩
    · cases h
end
end

/-! ### one look at all that is asked -/
def exfB (K : PySem.W.Frag) (x : Str) : Bool :=
  PySem.W.excIn K (He.ga K x) He.veBase "ValueError.__new__" && PySem.W.keepIn K (clsV K x) && decide (PySem.W.subIn K (clsV K x) (.type "BaseException") = some true) && decide (PySem.W.typeIn K (clsV K x) = some (.type "type")) &&
  decide (PySem.W.findIn K (clsV K x) "__getattribute__" = some (some (.builtin "BaseException.__getattribute__"))) && decide (PySem.W.findIn K (clsV K x) "__getattr__" = some none) && PySem.W.hasDictIn K (He.ga K x) &&
  decide (PySem.W.findIn K (clsV K x) "__class__" = some (some (.builtin "object.__class__"))) && decide (PySem.W.specialIn K (.builtin "object.__class__") "__get__" = some (some (.builtin "getset_descriptor.__get__"))) &&
  decide (PySem.W.takesIn K (.builtin "object.__class__") = some true) && decide (PySem.W.mroIn K (He.ga K x) (.type "object") = some true)
theorem exf_of {K : PySem.W.Frag} {x : Str} (h : exfB K x = true) : ExF K x := by
  unfold exfB at h
  simp only [Bool.and_eq_true, decide_eq_true_eq] at h
  obtain ⟨⟨⟨⟨⟨⟨⟨⟨⟨⟨h1, h2⟩, h3⟩, h4⟩, h5⟩, h6⟩, h7⟩, h8⟩, h9⟩, h10⟩, h11⟩ := h
  exact ⟨h1, h2, h3, h4, ⟨h5, h6, h3, h7, h8, h9, h10, h11⟩⟩
def gloB (K : PySem.W.Frag) (x : Str) : Bool := decide (PySem.W.nsIn K mainGlobals x = some (some (clsV K x)))
def exB (G : Gd) (ts : List He.Tab) (free names : List Str) (K : PySem.W.Frag) : Bool :=
  (G.consts.all fun q => match PySem.W.nsIn K mainGlobals q.1 with
    | some (some u) => repB K ts q.2 u
    | _ => false) && free.all (fun x => decide (PySem.W.nsIn K mainGlobals x = some none)) && names.all (gloB K) && G.excs.all (fun x => gloB K x && exfB K x) &&
  G.excs.all fun e => G.excs.all fun x => decide (PySem.W.exmOne K (clsV K e) (clsV K x) = some (G.sub e x)) && decide (PySem.W.kitOne K (clsV K e) (clsV K x) = some (G.sub e x))
def defOf (d : DefP) : He.DefD := ⟨(d.fn.name, none), d.fn.name, d.fn.name, d.params, d.body, d.scope, [], []⟩
/-- the parameters are bound one by one -/
def BindOk (d : DefP) : Prop := ∀ (kV doc pm : Value) (an : Option Addr) (cdv ct : Value) (us : List Value), us.length = d.fn.ps.length →
  bindArgs (PySem.W.fnOf d.fn.name d.fn.name d.params d.body d.scope .none kV doc pm an cdv ct) ⟨us, []⟩ = pure (d.fn.ps.zip us)
theorem top_of {K : PySem.W.Frag} {w : World} {h : Heap} {mg : Str → Option Value} {G : Gd} {ds : List DefP} {free : List Str} {ts : List He.Tab} (X : K.In h) (N : h.Ns mainGlobals mg)
    (c : He.SaysX [] (ds.map defOf) ts [] (exB G ts free (ds.map (·.fn.name))) w h K) (hb : ∀ d, d ∈ ds → BindOk d) (hc : ∀ x d, G.consts.lookup x = some d → (x, d) ∈ G.consts) : Top K w mg G ds free := by
  have m := c.more
  unfold exB at m
  simp only [Bool.and_eq_true, List.all_eq_true, decide_eq_true_eq] at m
  obtain ⟨⟨⟨⟨m1, m2⟩, m3⟩, m4⟩, m5⟩ := m
  have kd : ∀ t, t ∈ ts → ∃ es n, KDict K w (t.1 K) es n := fun t ht => by
    obtain ⟨i, hi, e⟩ := List.mem_iff_getElem.mp ht
    exact c.t.tab i (by rw [List.getElem?_eq_getElem hi, e])
  refine ⟨fun x d e => ?_, fun x hx => PySem.W.mg_none_of X N (m2 x hx), fun d hd => ?_, fun x hx => ?_, fun e x he hx => m5 e he x hx⟩
  · have q := m1 (x, d) (hc x d e)
    simp only at q
    split at q
    · rename_i u eu
      obtain ⟨v, r, g⟩ := repB_ok kd d u q
      exact ⟨u, v, PySem.W.mg_of X N eu, r, g⟩
    · cases q
  · obtain ⟨fd, F⟩ := c.t.d.defs (d := defOf d) (List.mem_map_of_mem hd)
    have F' : FunD K d.fn.name d.fn.name d.params d.body d.scope [] [] (He.ga K d.fn.name) fd := F
    exact ⟨fd, F', PySem.W.mg_of X N (of_decide_eq_true (m3 d.fn.name (List.mem_map_of_mem hd))), F'.bindsN (hb d hd)⟩
  · obtain ⟨g1, g2⟩ := m4 x hx
    exact ⟨PySem.W.mg_of X N (of_decide_eq_true g1), exf_of g2⟩
theorem look_mem {α : Type} : ∀ {l : List (Str × α)} (x : Str) (d : α), l.lookup x = some d → (x, d) ∈ l
  | [], _, _, h => by cases h
  | (k, v) :: r, x, d, h => by
    rw [List.lookup_cons] at h
    cases q : x == k with
    | true =>
      rw [q] at h
      cases h
      rw [beq_iff_eq.mp q]
      exact List.mem_cons_self
    | false =>
      rw [q] at h
      exact List.mem_cons_of_mem _ (look_mem x d h)

/-! ### the law's call -/
section
variable {P : Program} {w : World} {K : PySem.W.Frag} {mg mb : Str → Option Value} {k : Nat} {fa a : Addr} {fd : FuncData} {x nm : Str} {G : Gd} {fs : List Fn} {s₁ : Shared} {vs : List Value} {ns : List Int}
theorem law_end (KX : K.In s₁.heap) (hns : s₁.heap.Ns mainGlobals mg) (hb : s₁.heap.Ns builtinsNs mb) (hbb : ∀ x : Str, x ≠ "__name__" → mb x = bootBuiltins x) (hlim : s₁.heap.NoLimit) (hg : s₁.gens = #[])
    (ha : s₁.heap.get? a = some { cls := .type "list", data := .seq vs.toArray }) (hi : IntsAre vs ns) (hl : ns.length ≤ sizeLine) (hr : Room k callerA) (hbind : ∀ (s : Shared) (u : Value), BindsTo s fd ⟨[u], []⟩ [(x, u)])
    (F : ∀ bs : Heap, K.In bs → bs.Ns mainGlobals mg → FnG P w K mg bs k fa fd [x] (spC K w G (run G fs k) nm)) (ans : ∃ S, run G fs k nm [.lst (ns.map D.int)] [] = .ok (.d (.bl true)) S) :
    codeAny (PySem.model P w) callerA (.call (.ref fa) ⟨[.ref a], []⟩) (fun r s' => r = .ok (.ret (.bool true)) ∧ OldK s₁.heap s'.heap ∧ s'.os = s₁.os ∧ AllBare s'.gens) s₁ := by
  have rv : Vals (ns.map V.int) vs := vals_ints hi
  have lv := hi.length
  have gns : ∀ (μ : List Addr) (H : Hp), RepL K w μ H (ns.map D.int) (ns.map V.int) := fun μ H => by
    clear ans hi rv lv hl
    induction ns with
    | nil => exact RepL.nil
    | cons n ns ih => exact RepL.cons of_int ih
  have core : ∀ H : Hp, Only H → SqF K H a (ns.map V.int) → HOk P w H s₁.heap → (∀ b, H b ≠ none → b = a) → (H a ≠ none → K.lookup a = none) →
      codeAny (PySem.model P w) callerA (.call (.ref fa) ⟨[.ref a], []⟩) (fun r s' => r = .ok (.ret (.bool true)) ∧ OldK s₁.heap s'.heap ∧ s'.os = s₁.os ∧ AllBare s'.gens) s₁ := by
    intro H hO hS hok hA hK
    have isA : ∀ {b : Addr} {u : HO}, H b = some u → b = a := fun {b u} q => hA b (by rw [q]; simp)
    have noA : ∀ {b : Addr} {o : Obj} {es : Array DictEntry} {ep : Nat}, s₁.heap.get? b = some o → o.data = .dict es ep → H b = none := fun {b o es ep} e d => by
      cases q : H b with
      | none => rfl
      | some u =>
        rw [isA q, ha] at e
        cases e
        cases (show Data.seq vs.toArray _ = Data.dict es ep from d)
    have nsK : ∀ {b : Addr} {m : Str → Option Value}, s₁.heap.Ns b m → (hidT s₁.heap H).Ns b m := fun {b m} z => by
      obtain ⟨o, es, ep, e, d, r⟩ := z
      exact ⟨o, es, ep, hidT_get e (noA e d), d, r⟩
    have hKb : K.In (hidT s₁.heap H) := fun b o e => hidT_get (KX b o e) (by
      cases q : H b with
      | none => rfl
      | some u =>
        have e' := isA q
        subst e'
        rw [hK (by rw [q]; simp)] at e
        cases e)
    obtain ⟨mc, c1, c2⟩ := hlim
    have M : Mod K mg (hidT s₁.heap H) := ⟨hKb, nsK hns, ⟨mb, nsK hb, hbb⟩, ⟨mc, nsK c1, c2⟩⟩
    have e0 : Env0 P w K mg (hidT s₁.heap H) callerA [] s₁ H := ⟨rfl, M, fun b o e => of_hidT e, Nat.le_of_eq (hidT_size _ _), trivial, fun b hb => (by cases hb), hok, .of_eq hg⟩
    obtain ⟨S, ans⟩ := ans
    have pr : spC K w G (run G fs k) nm [.ref a] H (fun v _ => v = .bl true) (fun _ _ _ => False) := by
      refine ⟨[], [], [.lst (ns.map D.int)], ⟨rfl, List.nodup_nil, fun n b q => by simp at q⟩, RepL.one ?_, ?_⟩
      · unfold Rep
        exact ⟨a, _, rfl, hS, gns _ _⟩
      · rw [ans]
        exact fun u μ' H' _ _ r => ev_bl r.1
    refine codeAny_mono ((F _ hKb (nsK hns)).go callerA [] s₁ H ⟨[.ref a], []⟩ [.ref a] [.ref a] _ _ rfl hr e0 (hbind s₁ (.ref a)) (.cons rfl .nil) pr) fun r s' h => ?_
    cases r with
    | error e =>
      obtain ⟨_, _, _, _, _, _, _, _, _, _, _, _, z⟩ := h
      exact z.elim
    | ok fl =>
      cases fl with
      | next => exact h.elim
      | brk => exact h.elim
      | cont => exact h.elim
      | ret u =>
        obtain ⟨v, H', os, bare, un, hok', r', q⟩ := h
        have q' : v = .bl true := q
        subst q'
        have eu : u = Value.bool true := r'
        subst eu
        refine ⟨rfl, OldK.of_keep fun b o e => ?_, os, bare⟩
        cases q : H b with
        | none => exact un.keep b o e q (by intro z; cases z) (by simp)
        | some u =>
          rcases hO b with z | ⟨ob, xs, z⟩
          · rw [q] at z
            cases z
          · obtain ⟨e1, _⟩ := hok b _ z
            obtain ⟨e2, _⟩ := hok' b _ (un.frzs b ob _ z)
            rw [e] at e1
            cases e1
            exact e2
  cases hk : K.lookup a with
  | some o =>
    have e := KX a o hk
    rw [ha] at e
    cases e
    exact core (fun _ => none) (fun _ => Or.inl rfl) (.inr ⟨vs.toArray, _, hk, by rw [List.size_toArray, lv]; exact hl, by simpa using rv⟩) (fun b u z => by cases (show (none : Option HO) = some u from z)) (fun b z => absurd rfl z) fun z => absurd rfl z
  | none =>
    have at_ : ∀ {b : Addr} {u : HO}, (if b = a then some (HO.frz { cls := .type "list", data := .seq vs.toArray } (.lst (ns.map V.int))) else none) = some u → b = a ∧ u = .frz { cls := .type "list", data := .seq vs.toArray } (.lst (ns.map V.int)) := fun {b u} z => by
      split at z
      · rename_i e
        cases z
        exact ⟨e, rfl⟩
      · cases z
    refine core (fun b => if b = a then some (.frz { cls := .type "list", data := .seq vs.toArray } (.lst (ns.map V.int))) else none) (fun b => ?_) (.inl ⟨{ cls := .type "list", data := .seq vs.toArray }, if_pos rfl⟩) (fun b u z => ?_) (fun b z => ?_) fun _ => hk
    · by_cases hb : b = a
      · exact Or.inr ⟨_, _, if_pos hb⟩
      · exact Or.inl (if_neg hb)
    · obtain ⟨rfl, rfl⟩ := at_ z
      exact ⟨ha, by rw [List.length_map]; exact hl, vs, _, rv, ha⟩
    · cases q : (if b = a then some (HO.frz { cls := .type "list", data := .seq vs.toArray } (.lst (ns.map V.int))) else none) with
      | none => exact absurd q z
      | some u => exact (at_ q).1
end
theorem walk_G {l : PySem.W.OpenLaw} {n k : Nat} {q : Program} {loose : List Str} {XP : (Str → Option Value) → Heap → Prop} {YP : World → Heap → Prop} {d : DefRec} {x nm : Str} {G : Gd} {fs : List Fn}
    (hn : l.most = some n) (hn2 : n ≤ sizeLine) (hdf : d.params.defaults = []) (hr : Room k callerA)
    (F : ∀ (w : World) (mg : Str → Option Value) (fa : Addr) (h : Heap), YP w h → h.Ns mainGlobals mg → mg d.name = some (.ref fa) → ∃ (K : PySem.W.Frag) (fd : FuncData), K.In h ∧ (∀ (s : Shared) (u : Value), BindsTo s fd ⟨[u], []⟩ [(x, u)]) ∧
      ∀ bs : Heap, K.In bs → bs.Ns mainGlobals mg → FnG l.prog w K mg bs k fa fd [x] (spC K w G (run G fs k) nm))
    (ans : ∀ ns : List Int, ns.length ≤ n → (∀ j ∈ ns, Builtin.Int.intBits j ≤ 1048576) → ∃ S, run G fs k nm [.lst (ns.map D.int)] [] = .ok (.d (.bl true)) S) : PySem.W.WalkO q loose XP YP l.row.toRowW d [] (fun f vs => PySem.call f vs) := by
  refine Att.attach_callB hn hdf fun w s₀ s₁ mg mb fa o pm cd doc a vs ns Gr Y ho hd hcd hmg hobj hints hlen hbits hg => ?_
  obtain ⟨K, fd, KX, hb, hF⟩ := F w mg fa _ Y Gr.T.g hmg
  exact law_end KX Gr.T.g Gr.T.b Gr.T.builtins Gr.T.nolimit hg hobj hints (Nat.le_trans hlen hn2) hr hb hF (ans ns hlen hbits)
end Pl
end

section
set_option Elab.async false
set_option linter.all false
set_option maxRecDepth 100000
/-! Reckoning with the interpreter. -/
namespace Pl
open PySem L2
theorem run_at {G : Gd} {ds : List DefP} (nd : (ds.map (·.fn.name)).Nodup) {d : DefP} (hd : d ∈ ds) (k : Nat) (xs : List D) (S : Sto) : run G (fnsOf ds) (k + 1) d.fn.name xs S = runFn G (run G (fnsOf ds) k) d.fn xs S := by
  have gen : ∀ (l : List DefP), (l.map (·.fn.name)).Nodup → d ∈ l → (fnsOf l).find? (fun f => f.name = d.fn.name) = some d.fn := by
    intro l
    induction l with
    | nil => intro _ h; cases h
    | cons e l il =>
      intro n h
      rw [List.map_cons, List.nodup_cons] at n
      rw [show fnsOf (e :: l) = e.fn :: fnsOf l from rfl, List.find?_cons]
      rcases List.mem_cons.mp h with rfl | h
      · simp
      · have ne : e.fn.name ≠ d.fn.name := fun z => n.1 (by rw [z]; exact List.mem_map_of_mem h)
        simp only [ne, decide_false]
        exact il n.2 h
  show (match (fnsOf ds).find? (fun f => f.name = d.fn.name) with
    | some f => runFn G (run G (fnsOf ds) k) f xs S
    | none => .stuck) = _
  rw [gen ds nd hd]
@[simp] theorem gcE_self (S : Sto) (v : EV) : gcE S v S = .ok v S := by unfold gcE; split <;> rfl
@[simp] theorem gcX_self (S : Sto) (c : Str) : gcX S c S = .exc c S := by unfold gcX; split <;> rfl
theorem gcE_len {S S' : Sto} (v : EV) (h : S'.length = S.length) : gcE S v S' = .ok v S' := by
  unfold gcE
  split
  · rename_i c
    rw [← h, List.take_length] at c
    rw [c.1]
  · rfl
theorem gcX_len {S S' : Sto} (c : Str) (h : S'.length = S.length) : gcX S c S' = .exc c S' := by
  unfold gcX
  split
  · rename_i e
    rw [← h, List.take_length] at e
    rw [e]
  · rfl

/-! ### loops -/
/-- a comprehension without a test, whose items are reckoned one by one -/
theorem comp_map {elt : Env → Sto → Res EV} {tst : Env → Sto → Res Bool} {tg : LT} {ρ : Env} {src : Sto → Bool} {S : Sto} (hs : src S = true) (f : D → D) : ∀ (xs acc : List D), acc.length + xs.length ≤ sizeLine →
    (∀ x ∈ xs, ∃ ρ1 v, bindT tg x ρ = some ρ1 ∧ tst ρ1 S = .ok true S ∧ elt ρ1 S = .ok v S ∧ v.val = some (f x)) → compLoop elt tst tg ρ src xs S acc = .ok (.own (acc ++ xs.map f)) S
  | [], acc, _, _ => by unfold compLoop; simp [hs]
  | x :: xs, acc, hl, h => by
    obtain ⟨ρ1, v, e1, e2, e3, e4⟩ := h x List.mem_cons_self
    unfold compLoop
    have hz : acc.length < sizeLine := by rw [List.length_cons] at hl; omega
    simp only [hs, hz, decide_true, Bool.and_self, if_true, e1, e2, e3, e4, Res.calm_ok, Res.bind_ok, optR_some]
    rw [comp_map hs f xs (acc ++ [f x]) (by rw [List.length_append, List.length_cons] at *; simp at *; omega) fun y hy => h y (List.mem_cons_of_mem _ hy)]
    simp
/-- .. with a test -/
theorem comp_filter {elt : Env → Sto → Res EV} {tst : Env → Sto → Res Bool} {tg : LT} {ρ : Env} {src : Sto → Bool} {S : Sto} (hs : src S = true) (q : D → Bool) (f : D → D) : ∀ (xs acc : List D), acc.length + xs.length ≤ sizeLine →
    (∀ x ∈ xs, ∃ ρ1, bindT tg x ρ = some ρ1 ∧ tst ρ1 S = .ok (q x) S ∧ (q x = true → ∃ v, elt ρ1 S = .ok v S ∧ v.val = some (f x))) → compLoop elt tst tg ρ src xs S acc = .ok (.own (acc ++ (xs.filter q).map f)) S
  | [], acc, _, _ => by unfold compLoop; simp [hs]
  | x :: xs, acc, hl, h => by
    obtain ⟨ρ1, e1, e2, e3⟩ := h x List.mem_cons_self
    unfold compLoop
    have hz : acc.length < sizeLine := by rw [List.length_cons] at hl; omega
    simp only [hs, hz, decide_true, Bool.and_self, if_true, e1, e2, Res.calm_ok, Res.bind_ok]
    cases hq : q x with
    | true =>
      obtain ⟨v, e4, e5⟩ := e3 hq
      simp only [e4, e5, Res.calm_ok, Res.bind_ok, optR_some, if_true]
      rw [comp_filter hs q f xs (acc ++ [f x]) (by rw [List.length_append, List.length_cons] at *; simp at *; omega) fun y hy => h y (List.mem_cons_of_mem _ hy)]
      simp [hq]
    | false =>
      simp only [Bool.false_eq_true, if_false]
      rw [comp_filter hs q f xs acc (by rw [List.length_cons] at hl; omega) fun y hy => h y (List.mem_cons_of_mem _ hy)]
      simp [hq]
/-- a loop with an invariant: Inv what holds of the frame and the store ahead of the turns that are left -/
theorem for_inv {body : D → Env → Sto → SR} {src : Sto → Bool} (Iv : List D → Env → Sto → Prop) (Q : SR → Prop) : ∀ (xs : List D) (ρ : Env) (S : Sto), Iv xs ρ S → (∀ ρ S xs, Iv xs ρ S → src S = true) → (∀ ρ S, Iv [] ρ S → Q (.next ρ S)) →
    (∀ x xs ρ S, Iv (x :: xs) ρ S → (∃ ρ' S', body x ρ S = .next ρ' S' ∧ Iv xs ρ' S') ∨ (∃ v S', body x ρ S = .ret v S' ∧ Q (.ret v S')) ∨ ∃ c ρ' S', body x ρ S = .exc c ρ' S' ∧ Q (.exc c ρ' S')) → Q (forLoop body src xs ρ S)
  | [], ρ, S, h, hs, h0, _ => by
    unfold forLoop
    rw [if_pos (hs ρ S [] h)]
    exact h0 ρ S h
  | x :: xs, ρ, S, h, hs, h0, h1 => by
    unfold forLoop
    rw [if_pos (hs ρ S _ h)]
    rcases h1 x xs ρ S h with ⟨ρ', S', e, i⟩ | ⟨v, S', e, q⟩ | ⟨c, ρ', S', e, q⟩
    · rw [e]
      exact for_inv Iv Q xs ρ' S' i hs h0 h1
    · rw [e]
      exact q
    · rw [e]
      exact q
end Pl
end

section
set_option Elab.async false
set_option linter.all false
set_option maxRecDepth 100000
/-! Values reckoned. -/
namespace Pl
open PySem L2
section
variable {S : Sto}
theorem startE_nil (N : List Str) : startE N [] = List.replicate N.length none := by unfold startE; simp
theorem startE_cons (a : Str) (N : List Str) (x : D) (xs : List D) : startE (a :: N) (x :: xs) = some (.d x) :: startE N xs := by unfold startE; simp
theorem repl_succ (n : Nat) : List.replicate (n + 1) (none : Option EV) = none :: List.replicate n none := rfl
theorem shaped_int (i : Int) : SeqAt.shaped (.int i) = true := rfl
abbrev okZ (z : Str) : Prop := PyData.strOk z = true
theorem shaped_str {i : Str} (h : okZ i) : SeqAt.shaped (.str i) = true := by
  show (PyData.strOk i && true) = true
  rw [h]
  rfl
theorem shaped_bl (i : Bool) : SeqAt.shaped (.bool i) = true := rfl
theorem shaped_non : SeqAt.shaped .none = true := rfl
theorem eq_int (i j : Int) : cmpV .Eq S (.d (.int i)) (.d (.int j)) = some (decide (i = j)) := by
  show some (i == j) = _
  rw [Bool.beq_eq_decide_eq]
theorem ne_int (i j : Int) : cmpV .NotEq S (.d (.int i)) (.d (.int j)) = some (!decide (i = j)) := by
  show some (!(i == j)) = _
  rw [Bool.beq_eq_decide_eq]
theorem eq_py {x y : EV} {p q : PyData} (h1 : x.py S = some p) (h2 : y.py S = some q) (k1 : SeqAt.shaped p = true) (k2 : SeqAt.shaped q = true) : cmpV .Eq S x y = some (PyData.eqv p q) := by
  show eqV S x y = _
  unfold eqV
  rw [h1, h2]
  simp only [k1, k2, Bool.and_self, if_true]
theorem ne_py {x y : EV} {p q : PyData} (h1 : x.py S = some p) (h2 : y.py S = some q) (k1 : SeqAt.shaped p = true) (k2 : SeqAt.shaped q = true) : cmpV .NotEq S x y = some (!PyData.eqv p q) := by
  show (cmpV .Eq S x y).map (!·) = _
  rw [eq_py h1 h2 k1 k2]
  rfl
theorem beq_dec (i j : Str) : (i == j) = decide (i = j) := by
  by_cases h : i = j
  · subst h; simp
  · rw [beq_eq_false_iff_ne.mpr h, decide_eq_false h]
theorem eq_str {i j : Str} (hi : okZ i) (hj : okZ j) : cmpV .Eq S (.d (.str i)) (.d (.str j)) = some (decide (i = j)) := by
  rw [eq_py (p := .str i) (q := .str j) rfl rfl (shaped_str hi) (shaped_str hj)]
  show some (i == j) = _
  rw [beq_dec]
theorem ne_str {i j : Str} (hi : okZ i) (hj : okZ j) : cmpV .NotEq S (.d (.str i)) (.d (.str j)) = some (!decide (i = j)) := by
  show (cmpV .Eq S (.d (.str i)) (.d (.str j))).map (!·) = _
  rw [eq_str hi hj]
  rfl
theorem ne_non_str {j : Str} (hj : okZ j) : cmpV .NotEq S (.d .non) (.d (.str j)) = some true := ne_py (p := .none) (q := .str j) rfl rfl rfl (shaped_str hj)
theorem lt_int (i j : Int) : cmpV .Lt S (.d (.int i)) (.d (.int j)) = some (decide (i < j)) := rfl
theorem le_int (i j : Int) : cmpV .LtE S (.d (.int i)) (.d (.int j)) = some (decide (i ≤ j)) := rfl
theorem gt_int (i j : Int) : cmpV .Gt S (.d (.int i)) (.d (.int j)) = some (decide (j < i)) := rfl
theorem ge_int (i j : Int) : cmpV .GtE S (.d (.int i)) (.d (.int j)) = some (decide (j ≤ i)) := rfl
theorem is_non (v : EV) : cmpV .Is S v (.d .non) = some (decide (v = .d .non)) := by
  show isV v (.d .non) = _
  unfold isV
  split <;> first | rfl | (rename_i h; cases h) | skip
  all_goals first | rfl | simp_all
theorem isn_non (v : EV) : cmpV .IsNot S v (.d .non) = some (!decide (v = .d .non)) := by
  show (cmpV .Is S v (.d .non)).map (!·) = _
  rw [is_non]
  rfl
theorem is_bl (a b : Bool) : cmpV .Is S (.d (.bl a)) (.d (.bl b)) = some (a == b) := rfl
theorem is_bl_no {v : EV} (b : Bool) (h : ∀ c, v ≠ .d (.bl c)) : cmpV .Is S v (.d (.bl b)) = some false := by
  show isV v (.d (.bl b)) = _
  cases v with
  | own _ => rfl
  | brw _ => rfl
  | d x => cases x with
    | bl c => exact (h c rfl).elim
    | _ => rfl
theorem add_int (i j : Int) : binV .Add S (.d (.int i)) (.d (.int j)) = some (.d (.int (i + j))) := rfl
theorem sub_int (i j : Int) : binV .Sub S (.d (.int i)) (.d (.int j)) = some (.d (.int (i - j))) := rfl
theorem mul_int (i j : Int) : binV .Mult S (.d (.int i)) (.d (.int j)) = if CMulB i j then some (.d (.int (i * j))) else none := rfl
theorem fdiv_int (i j : Int) : binV .FloorDiv S (.d (.int i)) (.d (.int j)) = if 0 < j ∧ j < 1073741824 then some (.d (.int (i / j))) else none := rfl
theorem mod_int (i j : Int) : binV .Mod S (.d (.int i)) (.d (.int j)) = if 0 < j then some (.d (.int (i % j))) else none := rfl
theorem add_tup (xs ys : List D) : binV .Add S (.d (.tup xs)) (.d (.tup ys)) = if xs.length + ys.length ≤ sizeLine then some (.d (.tup (xs ++ ys))) else none := by
  show ((addD (.tup xs) (.tup ys)).map EV.d) = _
  unfold addD
  split
  · rename_i h; simp at h
  · rename_i h; simp at h
  · rename_i h1 h2
    cases h1; cases h2
    split <;> rfl
  · rename_i h; exact (h xs ys rfl rfl).elim
theorem add_items {x y : EV} {xs ys : List D} (h1 : x.items S = some xs) (h2 : y.items S = some ys) : binV .Add S x y = if xs.length + ys.length ≤ sizeLine then some (.own (xs ++ ys)) else none := by
  unfold binV
  simp only [h1, h2]
theorem isi_str_str (z : Str) : isiV (.d (.str z)) "str" = some true := rfl
theorem isi_of {v : EV} {u t : String} {b : Bool} (h : tyD v = some u) (k : kitB u t = some b) : isiV v t = some b := by
  unfold isiV
  rw [h]
  exact k
theorem kit_facts : kitB "int" "int" = some true ∧ kitB "bool" "int" = some true ∧ kitB "str" "int" = some false ∧ kitB "tuple" "int" = some false ∧ kitB "list" "int" = some false ∧ kitB "NoneType" "int" = some false ∧ kitB "dict" "int" = some false ∧
    kitB "int" "str" = some false ∧ kitB "bool" "str" = some false ∧ kitB "str" "str" = some true ∧ kitB "tuple" "str" = some false ∧ kitB "list" "str" = some false ∧ kitB "NoneType" "str" = some false ∧ kitB "dict" "str" = some false ∧
    kitB "int" "tuple" = some false ∧ kitB "bool" "tuple" = some false ∧ kitB "str" "tuple" = some false ∧ kitB "tuple" "tuple" = some true ∧ kitB "list" "tuple" = some false ∧ kitB "NoneType" "tuple" = some false ∧ kitB "dict" "tuple" = some false ∧
    kitB "int" "list" = some false ∧ kitB "bool" "list" = some false ∧ kitB "str" "list" = some false ∧ kitB "tuple" "list" = some false ∧ kitB "list" "list" = some true ∧ kitB "NoneType" "list" = some false ∧ kitB "dict" "list" = some false := by decide +kernel
def isTup : D → Bool
  | .tup _ => true
  | _ => false
def isStr : D → Bool
  | .str _ => true
  | _ => false
def isInt : D → Bool
  | .int _ => true
  | .bl _ => true
  | _ => false
def isLst : D → Bool
  | .lst _ => true
  | .ref _ => true
  | _ => false
def hasTy : D → Bool
  | .glo _ => false
  | _ => true
theorem isi_tuple {x : D} (h : hasTy x = true) : isiV (.d x) "tuple" = some (isTup x) := by
  obtain ⟨_, _, _, _, _, _, _, _, _, _, _, _, _, _, a, b, c, d, e, f, g, _⟩ := kit_facts
  cases x with
  | glo _ => cases h
  | _ => first | exact isi_of rfl a | exact isi_of rfl b | exact isi_of rfl c | exact isi_of rfl d | exact isi_of rfl e | exact isi_of rfl f | exact isi_of rfl g
theorem isi_str {x : D} (h : hasTy x = true) : isiV (.d x) "str" = some (isStr x) := by
  obtain ⟨_, _, _, _, _, _, _, a, b, c, d, e, f, g, _⟩ := kit_facts
  cases x with
  | glo _ => cases h
  | _ => first | exact isi_of rfl a | exact isi_of rfl b | exact isi_of rfl c | exact isi_of rfl d | exact isi_of rfl e | exact isi_of rfl f | exact isi_of rfl g
theorem isi_int {x : D} (h : hasTy x = true) : isiV (.d x) "int" = some (isInt x) := by
  obtain ⟨a, b, c, d, e, f, g, _⟩ := kit_facts
  cases x with
  | glo _ => cases h
  | _ => first | exact isi_of rfl a | exact isi_of rfl b | exact isi_of rfl c | exact isi_of rfl d | exact isi_of rfl e | exact isi_of rfl f | exact isi_of rfl g
theorem isi_list {x : D} (h : hasTy x = true) : isiV (.d x) "list" = some (isLst x) := by
  obtain ⟨_, _, _, _, _, _, _, _, _, _, _, _, _, _, _, _, _, _, _, _, _, a, b, c, d, e, f, g⟩ := kit_facts
  cases x with
  | glo _ => cases h
  | _ => first | exact isi_of rfl a | exact isi_of rfl b | exact isi_of rfl c | exact isi_of rfl d | exact isi_of rfl e | exact isi_of rfl f | exact isi_of rfl g
theorem len_tup (xs : List D) : bi1V .len S (.d (.tup xs)) = some (.d (.int xs.length)) := rfl
theorem len_own (xs : List D) : bi1V .len S (.own xs) = some (.d (.int xs.length)) := rfl
theorem len_brw (xs : List D) : bi1V .len S (.brw xs) = some (.d (.int xs.length)) := rfl
theorem len_lst (xs : List D) : bi1V .len S (.d (.lst xs)) = some (.d (.int xs.length)) := rfl
theorem len_str {z : Str} (h : z.length ≤ sizeLine) : bi1V .len S (.d (.str z)) = some (.d (.int z.length)) := by
  show (if z.length ≤ sizeLine then some (z.length : Int) else none).map (fun n => EV.d (.int n)) = _
  rw [if_pos h]
  rfl
theorem atI_nat {α : Type} (xs : List α) (n : Nat) : atI xs (n : Int) = xs[n]? := by
  unfold atI ixN
  by_cases h : n < xs.length
  · simp [h]
  · have : xs[n]? = none := List.getElem?_eq_none (by omega)
    simp [this]
    try omega
theorem idx_tup (xs : List D) (i : Int) : idxV S (.d (.tup xs)) (.d (.int i)) = atI xs i := rfl
theorem idx_lst (xs : List D) (i : Int) : idxV S (.d (.lst xs)) (.d (.int i)) = atI xs i := rfl
theorem idx_own (xs : List D) (i : Int) : idxV S (.own xs) (.d (.int i)) = atI xs i := rfl
theorem idx_brw (xs : List D) (i : Int) : idxV S (.brw xs) (.d (.int i)) = atI xs i := rfl
theorem idx_dic (ks : List Str) (ds : List D) (z : Str) : idxV S (.d (.dic ks ds)) (.d (.str z)) = (ks.zip ds).lookup z := rfl
theorem idx_ref {n : Nat} {xs : List D} (h : S[n]? = some (.lst xs)) (i : Int) : idxV S (.d (.ref n)) (.d (.int i)) = atI xs i := by
  show ((EV.d (.ref n)).items S).bind (fun xs => atI xs i) = _
  simp only [EV.items, h, Option.bind_some]
theorem in_dic (ks : List Str) (ds : List D) (z : Str) : cmpV .In S (.d (.str z)) (.d (.dic ks ds)) = some (ks.contains z) := rfl
theorem nin_dic (ks : List Str) (ds : List D) (z : Str) : cmpV .NotIn S (.d (.str z)) (.d (.dic ks ds)) = some (!ks.contains z) := rfl
theorem blsOf_bl : ∀ bs : List Bool, blsOf (bs.map D.bl) = some bs
  | [] => rfl
  | b :: bs => by show (blsOf (bs.map D.bl)).map _ = _; rw [blsOf_bl bs]; rfl
theorem all_own (bs : List Bool) : bi1V .all S (.own (bs.map D.bl)) = some (.d (.bl (bs.all id))) := by
  show ((blsOf (bs.map D.bl))).map _ = _
  rw [blsOf_bl]
  rfl
theorem any_own (bs : List Bool) : bi1V .any S (.own (bs.map D.bl)) = some (.d (.bl (bs.any id))) := by
  show ((blsOf (bs.map D.bl))).map _ = _
  rw [blsOf_bl]
  rfl
theorem tuple_own (xs : List D) : bi1V .tuple S (.own xs) = some (.d (.tup xs)) := rfl
theorem tuple_brw (xs : List D) : bi1V .tuple S (.brw xs) = some (.d (.tup xs)) := rfl
theorem list_tup (xs : List D) : bi1V .list S (.d (.tup xs)) = some (.own xs) := rfl
theorem int_int (i : Int) : bi1V .int S (.d (.int i)) = some (.d (.int i)) := rfl
theorem abs_int (i : Int) : bi1V .abs S (.d (.int i)) = some (.d (.int (if i < 0 then -i else i))) := rfl
theorem max_int (i j : Int) : bi2V .max (.d (.int i)) (.d (.int j)) = some (.d (.int (if j > i then j else i))) := rfl
theorem tru_bl (b : Bool) : truV S (.d (.bl b)) = some b := rfl
theorem tru_int (i : Int) : truV S (.d (.int i)) = some (i != 0) := rfl
theorem its_tup (xs : List D) : itsV S (.d (.tup xs)) = some (xs, none) := rfl
theorem its_lst (xs : List D) : itsV S (.d (.lst xs)) = some (xs, none) := rfl
theorem its_own (xs : List D) : itsV S (.own xs) = some (xs, none) := rfl
theorem its_brw (xs : List D) : itsV S (.brw xs) = some (xs, none) := rfl
theorem its_str (z : Str) : itsV S (.d (.str z)) = some (z.cps.toList.map fun c => .str ⟨#[c]⟩, none) := rfl
theorem enum_tup (xs : List D) : enumV (.d (.tup xs)) = some xs := rfl
theorem dif_tt {α : Type} {c : Bool} {a b : α} (h : c = true) : (if c = true then a else b) = a := by rw [h]; rfl
theorem at_zero {α : Type} (x : α) (xs : List α) : atI (x :: xs) 0 = some x := by
  have := atI_nat (x :: xs) 0
  simpa using this
theorem at_one {α : Type} (xs : List α) (i : Nat) : atI xs ((i : Int) + 1) = xs[i + 1]? := atI_nat xs (i + 1)
theorem at_k {α : Type} (xs : List α) (n : Nat) : atI xs (OfNat.ofNat n : Int) = xs[n]? := atI_nat xs n
/-! ### texts among texts -/
theorem pys_strs : ∀ ws : List Str, D.pys (ws.map D.str) = some (ws.map PyData.str)
  | [] => rfl
  | w :: ws => by
    show (match D.py (.str w), D.pys (ws.map D.str) with
      | some p, some ps => some (p :: ps)
      | _, _ => none) = _
    rw [pys_strs ws]
    rfl
theorem shaped_strs {ws : List Str} (h : ∀ w ∈ ws, okZ w) : SeqAt.shaped (.list (ws.map PyData.str)) = true := by
  have h1 : ∀ ws : List Str, (∀ w ∈ ws, okZ w) → PyData.canLayAll0 (ws.map PyData.str) = true ∧ PyData.depthAll (ws.map PyData.str) = 0 := by
    intro ws
    induction ws with
    | nil => intro _; exact ⟨rfl, rfl⟩
    | cons w ws ih =>
      intro h
      obtain ⟨i1, i2⟩ := ih fun x hx => h x (List.mem_cons_of_mem _ hx)
      refine ⟨?_, ?_⟩
      · show (PyData.strOk w && PyData.canLayAll0 (ws.map PyData.str)) = true
        rw [i1, h w List.mem_cons_self]
        rfl
      · show max 0 (PyData.depthAll (ws.map PyData.str)) = 0
        rw [i2]
        rfl
  obtain ⟨a, b⟩ := h1 ws h
  show (PyData.canLayAll0 (ws.map PyData.str) && decide (PyData.depthAll (ws.map PyData.str) + 1 ≤ 64)) = true
  rw [a, b]
  rfl
theorem any_strs (z : Str) : ∀ ws : List Str, ((ws.map PyData.str).any fun q => PyData.eqv q (.str z)) = decide (z ∈ ws)
  | [] => rfl
  | w :: ws => by
    rw [List.map_cons, List.any_cons, any_strs z ws]
    show ((w == z) || decide (z ∈ ws)) = _
    rw [beq_dec]
    by_cases h : w = z
    · subst h; simp
    · have h' : ¬ z = w := fun e => h e.symm
      simp [h, h']
theorem in_of_strs {y : EV} {z : Str} {ws : List Str} (hz : okZ z) (h : ∀ w ∈ ws, okZ w) (e : cmpV .In S (.d (.str z)) y = (match (EV.d (.str z)).py S, y.seq S with
    | some p, some ys => (match D.pys ys with
      | some qs => if SeqAt.shaped p && SeqAt.shaped (.list qs) then some (qs.any fun q => PyData.eqv q p) else none
      | none => none)
    | _, _ => none)) (hy : y.seq S = some (ws.map D.str)) : cmpV .In S (.d (.str z)) y = some (decide (z ∈ ws)) := by
  rw [e, hy]
  simp only [show (EV.d (.str z)).py S = some (.str z) from rfl, pys_strs, shaped_str hz, shaped_strs h, Bool.and_self, if_true, any_strs]
theorem in_tup {z : Str} {ws : List Str} (hz : okZ z) (h : ∀ w ∈ ws, okZ w) : cmpV .In S (.d (.str z)) (.d (.tup (ws.map D.str))) = some (decide (z ∈ ws)) := in_of_strs hz h rfl rfl
theorem in_lst {z : Str} {ws : List Str} (hz : okZ z) (h : ∀ w ∈ ws, okZ w) : cmpV .In S (.d (.str z)) (.d (.lst (ws.map D.str))) = some (decide (z ∈ ws)) := in_of_strs hz h rfl rfl
theorem in_own {z : Str} {ws : List Str} (hz : okZ z) (h : ∀ w ∈ ws, okZ w) : cmpV .In S (.d (.str z)) (.own (ws.map D.str)) = some (decide (z ∈ ws)) := in_of_strs hz h rfl rfl
theorem any_non : ∀ ws : List Str, ((ws.map PyData.str).any fun q => PyData.eqv q .none) = false
  | [] => rfl
  | w :: ws => by rw [List.map_cons, List.any_cons, any_non ws]; rfl
theorem in_non {ws : List Str} (h : ∀ w ∈ ws, okZ w) : cmpV .In S (.d .non) (.d (.lst (ws.map D.str))) = some false := by
  show (match (EV.d .non).py S, (EV.d (.lst (ws.map D.str))).seq S with
    | some p, some ys => (match D.pys ys with
      | some qs => if SeqAt.shaped p && SeqAt.shaped (.list qs) then some (qs.any fun q => PyData.eqv q p) else none
      | none => none)
    | _, _ => none) = _
  simp only [show (EV.d .non).py S = some .none from rfl, show (EV.d (.lst (ws.map D.str))).seq S = some (ws.map D.str) from rfl, pys_strs, shaped_non, shaped_strs h, Bool.and_self, if_true, any_non]
end
end Pl
end

section
set_option Elab.async false
set_option linter.all false
set_option maxRecDepth 100000
/-! k20: the defs' small texts. -/
namespace K20
open PySem PySem.Spec PyProof.Rows L2 Pl
abbrev row : PySem.Program := PySem.Challenge.pw_prooforplace_k20_terms_put_in
def top (i : Nat) : Stmt := row.main.body.getD i (.Pass ⟨0, 0, 0, 0⟩)
def dKINDS : D := (.dic [("told" : Str), ("one" : Str), ("truth" : Str), ("both" : Str), ("either" : Str), ("maps" : Str), ("sets" : Str), ("part" : Str)] [(.tup [(.str "numbers"), (.str "rows")]), (.tup []), (.tup []), (.tup [(.str "kind"), (.str "kind")]), (.tup [(.str "kind"), (.str "kind")]), (.tup [(.str "kind"), (.str "kind")]), (.tup [(.str "kind")]), (.tup [(.str "name"), (.str "kind"), (.str "formula")])])
def dTERMS : D := (.dic [("name" : Str), ("star" : Str), ("fixed" : Str), ("call" : Str), ("pair" : Str), ("first" : Str), ("second" : Str), ("left" : Str), ("right" : Str), ("cases" : Str), ("fun" : Str), ("app" : Str), ("set" : Str), ("when" : Str), ("into" : Str), ("out" : Str), ("the" : Str)] [(.tup [(.str "name")]), (.tup []), (.tup [(.str "kind"), (.str "elements")]), (.tup [(.str "kind"), (.str "kind"), (.str "lists"), (.str "term")]), (.tup [(.str "term"), (.str "term")]), (.tup [(.str "term")]), (.tup [(.str "term")]), (.tup [(.str "term"), (.str "kind")]), (.tup [(.str "kind"), (.str "term")]), (.tup [(.str "term"), (.str "name"), (.str "term"), (.str "name"), (.str "term")]), (.tup [(.str "name"), (.str "kind"), (.str "term")]), (.tup [(.str "term"), (.str "term")]), (.tup [(.str "name"), (.str "kind"), (.str "formula")]), (.tup [(.str "formula")]), (.tup [(.str "name"), (.str "kind"), (.str "formula"), (.str "term")]), (.tup [(.str "term")]), (.tup [(.str "name"), (.str "kind"), (.str "formula")])])
def dFORMULAS : D := (.dic [("true" : Str), ("false" : Str), ("so" : Str), ("equal" : Str), ("in" : Str), ("and" : Str), ("or" : Str), ("if" : Str), ("not" : Str), ("near" : Str), ("all" : Str), ("some" : Str)] [(.tup []), (.tup []), (.tup [(.str "term")]), (.tup [(.str "term"), (.str "term")]), (.tup [(.str "term"), (.str "term")]), (.tup [(.str "formula"), (.str "formula")]), (.tup [(.str "formula"), (.str "formula")]), (.tup [(.str "formula"), (.str "formula")]), (.tup [(.str "formula")]), (.tup [(.str "formula")]), (.tup [(.str "name"), (.str "kind"), (.str "formula")]), (.tup [(.str "name"), (.str "kind"), (.str "formula")])])
def dDERIVATIONS : D := (.dic [("given" : Str), ("truly" : Str), ("absurd" : Str), ("both" : Str), ("one" : Str), ("other" : Str), ("left" : Str), ("right" : Str), ("either" : Str), ("suppose" : Str), ("follow" : Str), ("deny" : Str), ("clash" : Str), ("any" : Str), ("at" : Str), ("witness" : Str), ("take" : Str), ("same" : Str), ("swap" : Str), ("reckon" : Str), ("only" : Str), ("parts" : Str), ("alike" : Str), ("members" : Str), ("now" : Str), ("flat" : Str), ("carry" : Str), ("along" : Str), ("truths" : Str), ("enter" : Str), ("leave" : Str), ("mean" : Str), ("meant" : Str), ("apart" : Str), ("drop" : Str), ("sides" : Str), ("within" : Str), ("outs" : Str), ("found" : Str)] [(.tup [(.str "number")]), (.tup []), (.tup [(.str "derivation"), (.str "formula")]), (.tup [(.str "derivation"), (.str "derivation")]), (.tup [(.str "derivation")]), (.tup [(.str "derivation")]), (.tup [(.str "derivation"), (.str "formula")]), (.tup [(.str "formula"), (.str "derivation")]), (.tup [(.str "derivation"), (.str "derivation"), (.str "derivation")]), (.tup [(.str "formula"), (.str "derivation")]), (.tup [(.str "derivation"), (.str "derivation")]), (.tup [(.str "formula"), (.str "derivation")]), (.tup [(.str "derivation"), (.str "derivation")]), (.tup [(.str "name"), (.str "kind"), (.str "derivation")]), (.tup [(.str "derivation"), (.str "term")]), (.tup [(.str "name"), (.str "kind"), (.str "formula"), (.str "term"), (.str "derivation")]), (.tup [(.str "derivation"), (.str "name"), (.str "derivation")]), (.tup [(.str "term")]), (.tup [(.str "derivation"), (.str "name"), (.str "kind"), (.str "formula"), (.str "derivation")]), (.tup [(.str "term")]), (.tup [(.str "term")]), (.tup [(.str "term")]), (.tup [(.str "derivation")]), (.tup [(.str "derivation")]), (.tup [(.str "derivation")]), (.tup [(.str "derivation")]), (.tup [(.str "derivation"), (.str "derivation")]), (.tup [(.str "derivation"), (.str "derivation")]), (.tup [(.str "derivation")]), (.tup [(.str "name"), (.str "kind"), (.str "formula"), (.str "term"), (.str "derivation")]), (.tup [(.str "derivation")]), (.tup [(.str "derivation")]), (.tup [(.str "derivation")]), (.tup [(.str "derivation")]), (.tup [(.str "derivation")]), (.tup [(.str "term"), (.str "name"), (.str "name")]), (.tup [(.str "term")]), (.tup [(.str "derivation")]), (.tup [(.str "term")])])
def dSORTS : D := (.dic [("kind" : Str), ("term" : Str), ("formula" : Str), ("derivation" : Str)] [dKINDS, dTERMS, dFORMULAS, dDERIVATIONS])
def dOVER : D := (.tup [(.tup [(.str "term"), (.str "cases"), (.int 3), (.int 2)]), (.tup [(.str "term"), (.str "cases"), (.int 5), (.int 4)]), (.tup [(.str "term"), (.str "fun"), (.int 3), (.int 1)]), (.tup [(.str "term"), (.str "set"), (.int 3), (.int 1)]), (.tup [(.str "term"), (.str "the"), (.int 3), (.int 1)]), (.tup [(.str "formula"), (.str "all"), (.int 3), (.int 1)]), (.tup [(.str "formula"), (.str "some"), (.int 3), (.int 1)]), (.tup [(.str "derivation"), (.str "any"), (.int 3), (.int 1)]), (.tup [(.str "derivation"), (.str "take"), (.int 3), (.int 2)]), (.tup [(.str "derivation"), (.str "witness"), (.int 3), (.int 1)]), (.tup [(.str "derivation"), (.str "swap"), (.int 4), (.int 2)]), (.tup [(.str "derivation"), (.str "enter"), (.int 3), (.int 1)])])
def dALONE : D := (.tup [(.tup [(.str "kind"), (.str "part"), (.int 3), (.int 1)]), (.tup [(.str "term"), (.str "into"), (.int 3), (.int 1)])])
def dLONGEST : D := (.int 8)
def gd : Gd where
  consts := [("SORTS", dSORTS), ("OVER", dOVER), ("ALONE", dALONE), ("LONGEST", dLONGEST)]
  excs := ["ProofError", "BadForm", "BadDerivation"]
  sub := fun e x => e == x || (e == "BadForm" && x == "ProofError") || (e == "BadDerivation" && x == "ProofError")
def n_is_name : Fn := ⟨"is_name", ["value"], ["value", "sign"], [
  .ifS (.or2 (.not1 (.tru (.isi (.var 0) "str"))) (.one (.not1 (.chain .LtE .LtE (.cst (.int 1)) (.bi1 .len (.var 0)) (.glob "LONGEST"))))) [
    .ret (.cst (.bl false))] [],
  .ret (.bi1 .all (.comp (.chain .LtE .LtE (.cst (.str "a")) (.var 1) (.cst (.str "z"))) (.name 1) (.sq (.var 0)) .nopart [("sign", 1)]))]⟩
def f_is_name : DefP := ⟨n_is_name, defArgs (top 13), defBody (top 13), defScope (top 13)⟩
def n_is_element : Fn := ⟨"is_element", ["value"], ["value", "part"], [
  .ifS (.tru (.isi (.var 0) "tuple")) [
    .ret (.bi1 .all (.comp (.call "is_element" [(.var 1)]) (.name 1) (.sq (.var 0)) .nopart [("part", 1)]))] [],
  .ret (.isi (.var 0) "int")]⟩
def f_is_element : DefP := ⟨n_is_element, defArgs (top 14), defBody (top 14), defScope (top 14)⟩
def n_is_row : Fn := ⟨"is_row", ["value", "depth"], ["value", "depth", "part"], [
  .ifS (.cmp .Eq (.var 1) (.cst (.int 0))) [
    .ret (.call "is_element" [(.var 0)])] [],
  .ret (.and2 (.isi (.var 0) "tuple") (.one (.bi1 .all (.comp (.call "is_row" [(.var 2), (.bin .Sub (.var 1) (.cst (.int 1)))]) (.name 2) (.sq (.var 0)) .nopart [("part", 2)]))))]⟩
def f_is_row : DefP := ⟨n_is_row, defArgs (top 15), defBody (top 15), defScope (top 15)⟩
def n_is_plain : Fn := ⟨"is_plain", ["value", "depth"], ["value", "depth", "part"], [
  .ifS (.cmp .Eq (.var 1) (.cst (.int 0))) [
    .ret (.isi (.var 0) "int")] [],
  .ret (.and2 (.isi (.var 0) "tuple") (.one (.bi1 .all (.comp (.call "is_plain" [(.var 2), (.bin .Sub (.var 1) (.cst (.int 1)))]) (.name 2) (.sq (.var 0)) .nopart [("part", 2)]))))]⟩
def f_is_plain : DefP := ⟨n_is_plain, defArgs (top 16), defBody (top 16), defScope (top 16)⟩
def n_is_written : Fn := ⟨"is_written", ["value", "sort"], ["value", "sort", "at", "part"], [
  .ifS (.cmp .In (.var 1) (.glob "SORTS")) [
    .ifS (.or2 (.not1 (.tru (.isi (.var 0) "tuple"))) (.or2 (.cmp .Eq (.bi1 .len (.var 0)) (.cst (.int 0))) (.one (.not1 (.tru (.isi (.idx (.var 0) (.cst (.int 0))) "str")))))) [
      .ret (.cst (.bl false))] [],
    .ifS (.or2 (.cmp .NotIn (.idx (.var 0) (.cst (.int 0))) (.idx (.glob "SORTS") (.var 1))) (.one (.cmp .NotEq (.bi1 .len (.idx (.idx (.glob "SORTS") (.var 1)) (.idx (.var 0) (.cst (.int 0))))) (.bin .Sub (.bi1 .len (.var 0)) (.cst (.int 1)))))) [
      .ret (.cst (.bl false))] [],
    .ret (.bi1 .all (.comp (.call "is_written" [(.idx (.var 0) (.bin .Add (.var 2) (.cst (.int 1)))), (.var 3)]) (.names [2, 3]) (.enum (.idx (.idx (.glob "SORTS") (.var 1)) (.idx (.var 0) (.cst (.int 0))))) .nopart [("at", 2), ("part", 3)]))] [],
  .ifS (.cmp .Eq (.var 1) (.cst (.str "name"))) [
    .ret (.call "is_name" [(.var 0)])] [],
  .ifS (.cmp .In (.var 1) (.tup [(.cst (.str "elements")), (.cst (.str "lists"))])) [
    .ret (.call "is_row" [(.var 0), (.ite (.cmp .Eq (.var 1) (.cst (.str "elements"))) (.cst (.int 1)) (.cst (.int 2)))])] [],
  .ret (.call "is_plain" [(.var 0), (.didx ["number", "numbers", "rows"] [0, 1, 2] (.var 1))])]⟩
def f_is_written : DefP := ⟨n_is_written, defArgs (top 17), defBody (top 17), defScope (top 17)⟩
def n_check_form : Fn := ⟨"check_form", ["right"], ["right"], [
  .ifS (.not1 (.tru (.var 0))) [
    .raise "BadForm"] []]⟩
def f_check_form : DefP := ⟨n_check_form, defArgs (top 18), defBody (top 18), defScope (top 18)⟩
def n_parts_of : Fn := ⟨"parts_of", ["value", "sort"], ["value", "sort", "at", "part"], [
  .ret (.comp (.tup [(.bin .Add (.var 2) (.cst (.int 1))), (.var 3)]) (.names [2, 3]) (.enum (.idx (.idx (.glob "SORTS") (.var 1)) (.idx (.var 0) (.cst (.int 0))))) (.cmp .In (.var 3) (.glob "SORTS")) [("at", 2), ("part", 3)])]⟩
def f_parts_of : DefP := ⟨n_parts_of, defArgs (top 19), defBody (top 19), defScope (top 19)⟩
def n_told_name : Fn := ⟨"told_name", ["rows", "value", "sort", "at"], ["rows", "value", "sort", "at", "kind", "word", "part", "name"], [
  .forS (.names [4, 5, 6, 7]) (.sq (.var 0)) [
    .ifS (.and2 (.cmp .Eq (.var 4) (.var 2)) (.and2 (.cmp .Eq (.var 5) (.idx (.var 1) (.cst (.int 0)))) (.one (.cmp .Eq (.var 6) (.var 3))))) [
      .ret (.idx (.var 1) (.var 7))] []],
  .ret (.cst .non)]⟩
def f_told_name : DefP := ⟨n_told_name, defArgs (top 20), defBody (top 20), defScope (top 20)⟩
def n_name_over : Fn := ⟨"name_over", ["value", "sort", "at"], ["value", "sort", "at"], [
  .ret (.call "told_name" [(.glob "OVER"), (.var 0), (.var 1), (.var 2)])]⟩
def f_name_over : DefP := ⟨n_name_over, defArgs (top 21), defBody (top 21), defScope (top 21)⟩
def n_name_alone : Fn := ⟨"name_alone", ["value", "sort", "at"], ["value", "sort", "at"], [
  .ret (.call "told_name" [(.glob "ALONE"), (.var 0), (.var 1), (.var 2)])]⟩
def f_name_alone : DefP := ⟨n_name_alone, defArgs (top 22), defBody (top 22), defScope (top 22)⟩
def n_is_free : Fn := ⟨"is_free", ["value", "sort", "name"], ["value", "sort", "name", "at", "part"], [
  .ifS (.cmp .Eq (.var 1) (.cst (.str "kind"))) [
    .ret (.cst (.bl false))] [],
  .ifS (.and2 (.cmp .Eq (.var 1) (.cst (.str "term"))) (.one (.cmp .Eq (.idx (.var 0) (.cst (.int 0))) (.cst (.str "name"))))) [
    .ret (.cmp .Eq (.idx (.var 0) (.cst (.int 1))) (.var 2))] [],
  .forS (.names [3, 4]) (.sq (.call "parts_of" [(.var 0), (.var 1)])) [
    .ifS (.and2 (.cmp .Is (.call "name_alone" [(.var 0), (.var 1), (.var 3)]) (.cst .non)) (.one (.cmp .NotEq (.call "name_over" [(.var 0), (.var 1), (.var 3)]) (.var 2)))) [
      .ifS (.tru (.call "is_free" [(.idx (.var 0) (.var 3)), (.var 4), (.var 2)])) [
        .ret (.cst (.bl true))] []] []],
  .ret (.cst (.bl false))]⟩
def f_is_free : DefP := ⟨n_is_free, defArgs (top 24), defBody (top 24), defScope (top 24)⟩
def n_put_in : Fn := ⟨"put_in", ["value", "sort", "name", "term"], ["value", "sort", "name", "term", "made", "at", "part", "over"], [
  .ifS (.or2 (.cmp .Eq (.var 1) (.cst (.str "kind"))) (.one (.not1 (.tru (.call "is_free" [(.var 0), (.var 1), (.var 2)]))))) [
    .retV 0] [],
  .ifS (.and2 (.cmp .Eq (.var 1) (.cst (.str "term"))) (.one (.cmp .Eq (.idx (.var 0) (.cst (.int 0))) (.cst (.str "name"))))) [
    .retV 3] [],
  .set (.name 4) (.bi1 .list (.var 0)),
  .forS (.names [5, 6]) (.sq (.call "parts_of" [(.var 0), (.var 1)])) [
    .set (.name 7) (.call "name_over" [(.var 0), (.var 1), (.var 5)]),
    .freeze 7,
    .ifS (.and2 (.cmp .Is (.call "name_alone" [(.var 0), (.var 1), (.var 5)]) (.cst .non)) (.and2 (.cmp .NotEq (.var 7) (.var 2)) (.one (.tru (.call "is_free" [(.idx (.var 0) (.var 5)), (.var 6), (.var 2)]))))) [
      .ifS (.and2 (.cmp .IsNot (.var 7) (.cst .non)) (.one (.tru (.call "is_free" [(.var 3), (.cst (.str "term")), (.var 7)])))) [
        .raise "BadDerivation"] [],
      .setIx 4 (.var 5) (.call "put_in" [(.idx (.var 0) (.var 5)), (.var 6), (.var 2), (.var 3)])] []],
  .ret (.bi1 .tuple (.var 4))]⟩
def f_put_in : DefP := ⟨n_put_in, defArgs (top 25), defBody (top 25), defScope (top 25)⟩
def n_put : Fn := ⟨"put", ["thing", "name", "term"], ["thing", "name", "term", "sort"], [
  .set (.name 3) (.ite (.tru (.call "is_written" [(.var 0), (.cst (.str "term"))])) (.cst (.str "term")) (.cst (.str "formula"))),
  .expr (.call "check_form" [(.call "is_written" [(.var 0), (.var 3)])]),
  .expr (.call "check_form" [(.call "is_name" [(.var 1)])]),
  .expr (.call "check_form" [(.call "is_written" [(.var 2), (.cst (.str "term"))])]),
  .ret (.call "put_in" [(.var 0), (.var 3), (.var 1), (.var 2)])]⟩
def f_put : DefP := ⟨n_put, defArgs (top 27), defBody (top 27), defScope (top 27)⟩
def n_law_read : Fn := ⟨"_law_read", ["told"], ["told", "part", "sign"], [
  .ifS (.or2 (.cmp .Is (.var 0) (.cst .non)) (.or2 (.cmp .Is (.var 0) (.cst (.bl true))) (.one (.cmp .Is (.var 0) (.cst (.bl false)))))) [
    .retV 0] [],
  .ifS (.tru (.isi (.var 0) "int")) [
    .ret (.bi1 .int (.var 0))] [],
  .ifS (.tru (.isi (.var 0) "str")) [
    .ret (.join (.cst (.str "")) (.comp (.var 2) (.name 2) (.sq (.var 0)) .nopart [("sign", 2)]))] [],
  .ifS (.tru (.isi (.var 0) "tuple")) [
    .ret (.bi1 .tuple (.comp (.call "_law_read" [(.var 1)]) (.name 1) (.sq (.var 0)) .nopart [("part", 1)]))] [],
  .ret (.ite (.tru (.isi (.var 0) "list")) (.comp (.call "_law_read" [(.var 1)]) (.name 1) (.sq (.var 0)) .nopart [("part", 1)]) (.cst (.str "something else")))]⟩
def f_law_read : DefP := ⟨n_law_read, defArgs (top 29), defBody (top 29), defScope (top 29)⟩
def n_law_cell : Fn := ⟨"_law_cell", ["script", "k"], ["script", "k"], [
  .ret (.ite (.cmp .Lt (.var 1) (.bi1 .len (.var 0))) (.bi1 .int (.idx (.var 0) (.var 1))) (.cst (.int 0)))]⟩
def f_law_cell : DefP := ⟨n_law_cell, defArgs (top 30), defBody (top 30), defScope (top 30)⟩
def n_law_stream : Fn := ⟨"_law_stream", ["script", "k"], ["script", "k"], [
  .ret (.lst [(.bi1 .abs (.call "_law_cell" [(.var 0), (.var 1)])), (.bin .Add (.bin .Mod (.bi1 .abs (.call "_law_cell" [(.var 0), (.var 1)])) (.cst (.int 1000003))) (.cst (.int 7)))])]⟩
def f_law_stream : DefP := ⟨n_law_stream, defArgs (top 31), defBody (top 31), defScope (top 31)⟩
def n_law_draw : Fn := ⟨"_law_draw", ["box", "many"], ["box", "many", "told"], [
  .ifS (.cmp .Gt (.idx (.var 0) (.cst (.int 0))) (.cst (.int 0))) [
    .set (.name 2) (.bin .Mod (.idx (.var 0) (.cst (.int 0))) (.var 1)),
    .freeze 2,
    .setIx 0 (.cst (.int 0)) (.bin .FloorDiv (.idx (.var 0) (.cst (.int 0))) (.var 1)),
    .ret (.bi1 .int (.var 2))] [],
  .setIx 0 (.cst (.int 1)) (.bin .Mod (.bi1 .int (.bin .Add (.bin .Mult (.idx (.var 0) (.cst (.int 1))) (.cst (.int 48271))) (.cst (.int 12345)))) (.cst (.int 2147483647))),
  .ret (.bin .Mod (.bi1 .int (.bin .FloorDiv (.idx (.var 0) (.cst (.int 1))) (.cst (.int 64)))) (.var 1))]⟩
def f_law_draw : DefP := ⟨n_law_draw, defArgs (top 32), defBody (top 32), defScope (top 32)⟩
def n_law_shapes : Fn := ⟨"_law_shapes", ["formula"], ["formula"], [
  .ifS (.tru (.var 0)) [
    .ret (.lst [(.tup [(.cst (.str "true")), (.cst (.str ""))]), (.tup [(.cst (.str "false")), (.cst (.str ""))]), (.tup [(.cst (.str "so")), (.cst (.str "t"))]), (.tup [(.cst (.str "equal")), (.cst (.str "tt"))]), (.tup [(.cst (.str "in")), (.cst (.str "tt"))]), (.tup [(.cst (.str "and")), (.cst (.str "ff"))]), (.tup [(.cst (.str "or")), (.cst (.str "ff"))]), (.tup [(.cst (.str "if")), (.cst (.str "ff"))]), (.tup [(.cst (.str "not")), (.cst (.str "f"))]), (.tup [(.cst (.str "near")), (.cst (.str "f"))]), (.tup [(.cst (.str "all")), (.cst (.str "nkp"))]), (.tup [(.cst (.str "some")), (.cst (.str "nkp"))])])] [],
  .ret (.lst [(.tup [(.cst (.str "name")), (.cst (.str "n"))]), (.tup [(.cst (.str "star")), (.cst (.str ""))]), (.tup [(.cst (.str "fixed")), (.cst (.str "ki"))]), (.tup [(.cst (.str "call")), (.cst (.str "kkmt"))]), (.tup [(.cst (.str "pair")), (.cst (.str "tt"))]), (.tup [(.cst (.str "first")), (.cst (.str "t"))]), (.tup [(.cst (.str "second")), (.cst (.str "t"))]), (.tup [(.cst (.str "left")), (.cst (.str "tk"))]), (.tup [(.cst (.str "right")), (.cst (.str "kt"))]), (.tup [(.cst (.str "cases")), (.cst (.str "tnsnr"))]), (.tup [(.cst (.str "fun")), (.cst (.str "nks"))]), (.tup [(.cst (.str "app")), (.cst (.str "tt"))]), (.tup [(.cst (.str "set")), (.cst (.str "nkp"))]), (.tup [(.cst (.str "when")), (.cst (.str "f"))]), (.tup [(.cst (.str "into")), (.cst (.str "nkot"))]), (.tup [(.cst (.str "out")), (.cst (.str "t"))]), (.tup [(.cst (.str "the")), (.cst (.str "nkp"))])])]⟩
def f_law_shapes : DefP := ⟨n_law_shapes, defArgs (top 33), defBody (top 33), defScope (top 33)⟩
def n_law_name : Fn := ⟨"_law_name", ["box"], ["box"], [
  .ret (.idx (.lst [(.cst (.str "x")), (.cst (.str "y")), (.cst (.str "z")), (.cst (.str "zz")), (.cst (.str "abcdefgh"))]) (.bin .FloorDiv (.bin .Mult (.call "_law_draw" [(.var 0), (.cst (.int 8))]) (.cst (.int 5))) (.cst (.int 8))))]⟩
def f_law_name : DefP := ⟨n_law_name, defArgs (top 34), defBody (top 34), defScope (top 34)⟩
def n_law_kind : Fn := ⟨"_law_kind", ["box", "depth"], ["box", "depth", "pick", "name"], [
  .set (.name 2) (.call "_law_draw" [(.var 0), (.ite (.cmp .Gt (.var 1) (.cst (.int 0))) (.cst (.int 9)) (.cst (.int 4)))]),
  .freeze 2,
  .ifS (.cmp .Eq (.var 2) (.cst (.int 0))) [
    .ret (.tup [(.cst (.str "one"))])] [],
  .ifS (.cmp .Eq (.var 2) (.cst (.int 1))) [
    .ret (.tup [(.cst (.str "truth"))])] [],
  .ifS (.cmp .Lt (.var 2) (.cst (.int 4))) [
    .ret (.tup [(.cst (.str "told")), (.slice (.tup [(.cst (.int 1)), (.bin .Add (.cst (.int 2)) (.var 2))]) .nopart (.pt (.bin .Add (.cst (.int 1)) (.call "_law_draw" [(.var 0), (.cst (.int 2))])))), (.tup [(.tup [(.cst (.int 0))]), (.tup [(.cst (.int 0)), (.cst (.int 1))])])])] [],
  .ifS (.cmp .Lt (.var 2) (.cst (.int 7))) [
    .ret (.tup [(.idx (.lst [(.cst (.str "both")), (.cst (.str "either")), (.cst (.str "maps"))]) (.bin .Sub (.var 2) (.cst (.int 4)))), (.call "_law_kind" [(.var 0), (.bin .Sub (.var 1) (.cst (.int 1)))]), (.call "_law_kind" [(.var 0), (.bin .Sub (.var 1) (.cst (.int 1)))])])] [],
  .ifS (.cmp .Eq (.var 2) (.cst (.int 7))) [
    .ret (.tup [(.cst (.str "sets")), (.call "_law_kind" [(.var 0), (.bin .Sub (.var 1) (.cst (.int 1)))])])] [],
  .set (.name 3) (.call "_law_name" [(.var 0)]),
  .freeze 3,
  .ret (.tup [(.cst (.str "part")), (.var 3), (.call "_law_kind" [(.var 0), (.bin .Sub (.var 1) (.cst (.int 1)))]), (.tup [(.cst (.str "equal")), (.tup [(.cst (.str "name")), (.var 3)]), (.tup [(.cst (.str "name")), (.call "_law_name" [(.var 0)])])])])]⟩
def f_law_kind : DefP := ⟨n_law_kind, defArgs (top 35), defBody (top 35), defScope (top 35)⟩
def n_law_thing : Fn := ⟨"_law_thing", ["box", "formula", "depth"], ["box", "formula", "depth", "shapes", "pick", "made", "part", "word", "parts"], [
  .set (.name 3) (.call "_law_shapes" [(.var 1)]),
  .freeze 3,
  .set (.name 4) (.call "_law_draw" [(.var 0), (.bin .Mult (.cst (.int 2)) (.bi1 .len (.var 3)))]),
  .freeze 4,
  .set (.names [7, 8]) (.idx (.var 3) (.bin .Mod (.var 4) (.bi1 .len (.var 3)))),
  .ifS (.or2 (.cmp .Eq (.var 2) (.cst (.int 0))) (.one (.and2 (.not1 (.tru (.var 1))) (.one (.cmp .Gt (.var 4) (.cst (.int 28))))))) [
    .set (.names [7, 8]) (.idx (.var 3) (.call "_law_draw" [(.var 0), (.cst (.int 2))]))] [],
  .ifS (.and2 (.not1 (.tru (.var 1))) (.and2 (.cmp .Eq (.var 7) (.cst (.str "star"))) (.one (.cmp .Gt (.call "_law_draw" [(.var 0), (.cst (.int 3))]) (.cst (.int 0)))))) [
    .set (.names [7, 8]) (.idx (.var 3) (.cst (.int 0)))] [],
  .set (.name 5) (.lst [(.var 7)]),
  .forS (.name 6) (.sq (.var 8)) [
    .ifS (.cmp .Eq (.var 6) (.cst (.str "n"))) [
      .app 5 (.call "_law_name" [(.var 0)])] [
      .ifS (.cmp .Eq (.var 6) (.cst (.str "k"))) [
        .app 5 (.call "_law_kind" [(.var 0), (.cst (.int 1))])] [
        .ifS (.cmp .In (.var 6) (.cst (.str "tsr"))) [
          .app 5 (.call "_law_thing" [(.var 0), (.cst (.bl false)), (.bi2 .max (.cst (.int 0)) (.bin .Sub (.var 2) (.cst (.int 1))))])] [
          .ifS (.cmp .In (.var 6) (.cst (.str "fpo"))) [
            .app 5 (.call "_law_thing" [(.var 0), (.cst (.bl true)), (.bi2 .max (.cst (.int 0)) (.bin .Sub (.var 2) (.cst (.int 1))))])] [
            .ifS (.cmp .Eq (.var 6) (.cst (.str "i"))) [
              .app 5 (.idx (.lst [(.tup [(.cst (.int 0)), (.cst (.int 1))]), (.tup []), (.tup [(.tup [(.tup [(.cst (.int 0))]), (.cst (.int 3))]), (.cst (.int 2))])]) (.call "_law_draw" [(.var 0), (.cst (.int 3))]))] [
              .app 5 (.idx (.lst [(.tup [(.tup [(.cst (.int 0)), (.cst (.int 1))]), (.tup [(.cst (.int 1))])]), (.tup []), (.tup [(.tup [(.tup []), (.tup [(.cst (.int 0)), (.cst (.int 1))])])])]) (.call "_law_draw" [(.var 0), (.cst (.int 3))]))]]]]]],
  .ret (.bi1 .tuple (.var 5))]⟩
def f_law_thing : DefP := ⟨n_law_thing, defArgs (top 36), defBody (top 36), defScope (top 36)⟩
def n_law_parts : Fn := ⟨"_law_parts", ["part"], ["part", "word"], [
  .set (.name 1) (.idx (.var 0) (.cst (.int 0))),
  .ifS (.cmp .Eq (.var 1) (.cst (.str "cases"))) [
    .ret (.lst [(.tup [(.cst (.int 1)), (.cst .non)]), (.tup [(.cst (.int 3)), (.idx (.var 0) (.cst (.int 2)))]), (.tup [(.cst (.int 5)), (.idx (.var 0) (.cst (.int 4)))])])] [],
  .ifS (.cmp .In (.var 1) (.tup [(.cst (.str "fun")), (.cst (.str "set")), (.cst (.str "the")), (.cst (.str "all")), (.cst (.str "some"))])) [
    .ret (.lst [(.tup [(.cst (.int 3)), (.idx (.var 0) (.cst (.int 1)))])])] [],
  .ifS (.cmp .In (.var 1) (.tup [(.cst (.str "pair")), (.cst (.str "app")), (.cst (.str "equal")), (.cst (.str "in")), (.cst (.str "and")), (.cst (.str "or")), (.cst (.str "if"))])) [
    .ret (.lst [(.tup [(.cst (.int 1)), (.cst .non)]), (.tup [(.cst (.int 2)), (.cst .non)])])] [],
  .ifS (.cmp .In (.var 1) (.tup [(.cst (.str "call")), (.cst (.str "into"))])) [
    .ret (.lst [(.tup [(.cst (.int 4)), (.cst .non)])])] [],
  .ifS (.cmp .In (.var 1) (.tup [(.cst (.str "first")), (.cst (.str "second")), (.cst (.str "out")), (.cst (.str "when")), (.cst (.str "so")), (.cst (.str "not")), (.cst (.str "near")), (.cst (.str "left"))])) [
    .ret (.lst [(.tup [(.cst (.int 1)), (.cst .non)])])] [],
  .ret (.ite (.cmp .Eq (.var 1) (.cst (.str "right"))) (.lst [(.tup [(.cst (.int 2)), (.cst .non)])]) (.lst []))]⟩
def f_law_parts : DefP := ⟨n_law_parts, defArgs (top 37), defBody (top 37), defScope (top 37)⟩
def n_law_free : Fn := ⟨"_law_free", ["part"], ["part", "found", "at", "bound", "name"], [
  .ifS (.cmp .Eq (.idx (.var 0) (.cst (.int 0))) (.cst (.str "name"))) [
    .ret (.lst [(.idx (.var 0) (.cst (.int 1)))])] [],
  .set (.name 1) (.lst []),
  .freeze 1,
  .forS (.names [2, 3]) (.sq (.call "_law_parts" [(.var 0)])) [
    .set (.name 1) (.bin .Add (.var 1) (.comp (.var 4) (.name 4) (.sq (.call "_law_free" [(.idx (.var 0) (.var 2))])) (.cmp .NotEq (.var 4) (.var 3)) [("name", 4)])),
    .freeze 1],
  .retV 1]⟩
def f_law_free : DefP := ⟨n_law_free, defArgs (top 38), defBody (top 38), defScope (top 38)⟩
def n_law_put : Fn := ⟨"_law_put", ["part", "name", "term", "free"], ["part", "name", "term", "free", "made", "at", "bound"], [
  .ifS (.cmp .Eq (.idx (.var 0) (.cst (.int 0))) (.cst (.str "name"))) [
    .ret (.ite (.cmp .Eq (.idx (.var 0) (.cst (.int 1))) (.var 1)) (.var 2) (.var 0))] [],
  .set (.name 4) (.bi1 .list (.var 0)),
  .forS (.names [5, 6]) (.sq (.call "_law_parts" [(.var 0)])) [
    .ifS (.and2 (.cmp .NotEq (.var 6) (.var 1)) (.one (.cmp .In (.var 1) (.call "_law_free" [(.idx (.var 0) (.var 5))])))) [
      .ifS (.cmp .In (.var 6) (.var 3)) [
        .ret (.cst .non)] [],
      .setIx 4 (.var 5) (.call "_law_put" [(.idx (.var 0) (.var 5)), (.var 1), (.var 2), (.var 3)]),
      .ifS (.cmp .Is (.idx (.var 4) (.var 5)) (.cst .non)) [
        .ret (.cst .non)] []] []],
  .ret (.bi1 .tuple (.var 4))]⟩
def f_law_put : DefP := ⟨n_law_put, defArgs (top 39), defBody (top 39), defScope (top 39)⟩
def n_law_broken : Fn := ⟨"_law_broken", ["box", "part"], ["box", "part", "spots", "pick", "names", "bad", "kind", "at", "shape"], [
  .set (.name 2) (.call "_law_parts" [(.var 1)]),
  .freeze 2,
  .ifS (.and2 (.cmp .Gt (.bi1 .len (.var 2)) (.cst (.int 0))) (.one (.cmp .Gt (.call "_law_draw" [(.var 0), (.cst (.int 3))]) (.cst (.int 0))))) [
    .set (.name 7) (.idx (.idx (.var 2) (.call "_law_draw" [(.var 0), (.bi1 .len (.var 2))])) (.cst (.int 0))),
    .ret (.bin .Add (.bin .Add (.slice (.var 1) .nopart (.pt (.var 7))) (.tup [(.call "_law_broken" [(.var 0), (.idx (.var 1) (.var 7))])])) (.slice (.var 1) (.pt (.bin .Add (.var 7) (.cst (.int 1)))) .nopart))] [],
  .set (.name 3) (.call "_law_draw" [(.var 0), (.cst (.int 9))]),
  .freeze 3,
  .ifS (.cmp .Eq (.var 3) (.cst (.int 0))) [
    .ret (.bi1 .list (.var 1))] [],
  .ifS (.cmp .Eq (.var 3) (.cst (.int 1))) [
    .ret (.bin .Add (.var 1) (.tup [(.tup [(.cst (.str "star"))])]))] [],
  .ifS (.and2 (.cmp .Eq (.var 3) (.cst (.int 2))) (.one (.cmp .Gt (.bi1 .len (.var 1)) (.cst (.int 1))))) [
    .ret (.slice (.var 1) .nopart (.pt (.neg (.cst (.int 1)))))] [],
  .ifS (.cmp .Eq (.var 3) (.cst (.int 3))) [
    .ret (.bin .Add (.tup [(.cst (.str "names"))]) (.slice (.var 1) (.pt (.cst (.int 1))) .nopart))] [],
  .ifS (.cmp .Eq (.var 3) (.cst (.int 4))) [
    .ret (.idx (.lst [(.tup []), (.cst (.int 3)), (.cst (.str "x")), (.tup [(.cst (.str "x"))]), (.tup [(.cst (.int 3)), (.cst (.str "x"))]), (.cst .non), (.tup [(.cst (.str "NAME")), (.cst (.str "x"))])]) (.call "_law_draw" [(.var 0), (.cst (.int 7))]))] [],
  .set (.name 4) (.lst [(.cst (.str "")), (.cst (.str "X")), (.cst (.str "x1")), (.cst (.str "abcdefghi")), (.cst (.str "a b")), (.cst (.int 3)), (.tup [(.cst (.str "x"))])]),
  .freeze 4,
  .set (.name 5) (.idx (.var 4) (.call "_law_draw" [(.var 0), (.cst (.int 7))])),
  .ifS (.cmp .Lt (.var 3) (.cst (.int 7))) [
    .ifS (.cmp .In (.idx (.var 1) (.cst (.int 0))) (.comp (.idx (.var 8) (.cst (.int 0))) (.name 8) (.sq (.call "_law_shapes" [(.cst (.bl true))])) .nopart [("shape", 8)])) [
      .ret (.tup [(.cst (.str "all")), (.var 5), (.tup [(.cst (.str "one"))]), (.var 1)])] [],
    .ret (.idx (.lst [(.tup [(.cst (.str "the")), (.var 5), (.tup [(.cst (.str "one"))]), (.tup [(.cst (.str "true"))])]), (.tup [(.cst (.str "name")), (.var 5)]), (.tup [(.cst (.str "pair")), (.var 1), (.tup [(.cst (.str "true"))])])]) (.bin .Add (.bin .Sub (.var 3) (.cst (.int 5))) (.call "_law_draw" [(.var 0), (.cst (.int 2))])))] [],
  .set (.name 6) (.idx (.lst [(.tup [(.cst (.str "ones"))]), (.tup [(.cst (.str "told")), (.tup [(.cst (.int 1))])]), (.tup [(.cst (.str "told")), (.lst [(.cst (.int 1))]), (.tup [])]), (.tup [(.cst (.str "both")), (.tup [(.cst (.str "one"))])]), (.tup [(.cst (.str "sets")), (.tup [(.cst (.str "star"))])]), (.lst [(.cst (.str "one"))]), (.tup [(.cst (.str "told")), (.tup [(.cst (.str "x"))]), (.tup [])])]) (.call "_law_draw" [(.var 0), (.cst (.int 7))])),
  .ifS (.cmp .In (.idx (.var 1) (.cst (.int 0))) (.comp (.idx (.var 8) (.cst (.int 0))) (.name 8) (.sq (.call "_law_shapes" [(.cst (.bl true))])) .nopart [("shape", 8)])) [
    .ret (.tup [(.cst (.str "some")), (.cst (.str "x")), (.var 6), (.var 1)])] [],
  .ret (.tup [(.cst (.str "left")), (.var 1), (.var 6)])]⟩
def f_law_broken : DefP := ⟨n_law_broken, defArgs (top 40), defBody (top 40), defScope (top 40)⟩
def n_law_told : Fn := ⟨"_law_told", ["thing", "name", "term"], ["thing", "name", "term", "e"], [
  .tryS [
    .ret (.tup [(.cst (.int 0)), (.call "_law_read" [(.call "put" [(.var 0), (.var 1), (.var 2)])])])] [("BadForm", 3, (.tup [(.cst (.int 1)), (.ite (.not1 (.isi "BadDerivation")) (.cst (.str "form")) (.cst (.str "wrong")))])), ("BadDerivation", 3, (.tup [(.cst (.int 1)), (.ite (.isi "ProofError") (.cst (.str "refused")) (.cst (.str "wrong")))]))]]⟩
def f_law_told : DefP := ⟨n_law_told, defArgs (top 41), defBody (top 41), defScope (top 41)⟩
def n_law : Fn := ⟨"law", ["script"], ["script", "box", "turn", "formula", "thing", "term", "name", "kept", "due", "told", "broken"], [
  .set (.name 1) (.share (.call "_law_stream" [(.var 0), (.cst (.int 0))])),
  .forS (.name 2) (.rng1 (.cst (.int 4))) [
    .set (.name 3) (.cmp .Eq (.call "_law_draw" [(.var 1), (.cst (.int 2))]) (.cst (.int 0))),
    .set (.name 4) (.call "_law_thing" [(.var 1), (.var 3), (.cst (.int 4))]),
    .freeze 4,
    .set (.name 5) (.call "_law_thing" [(.var 1), (.cst (.bl false)), (.cst (.int 2))]),
    .freeze 5,
    .set (.name 6) (.call "_law_name" [(.var 1)]),
    .freeze 6,
    .set (.name 7) (.bi1 .repr (.lst [(.var 4), (.var 5)])),
    .set (.name 8) (.call "_law_put" [(.var 4), (.var 6), (.var 5), (.call "_law_free" [(.var 5)])]),
    .freeze 8,
    .set (.name 9) (.call "_law_told" [(.var 4), (.var 6), (.var 5)]),
    .freeze 9,
    .ifS (.or2 (.cmp .NotEq (.bi1 .repr (.var 9)) (.bi1 .repr (.ite (.cmp .Is (.var 8) (.cst .non)) (.tup [(.cst (.int 1)), (.cst (.str "refused"))]) (.tup [(.cst (.int 0)), (.var 8)])))) (.one (.cmp .NotEq (.bi1 .repr (.lst [(.var 4), (.var 5)])) (.var 7)))) [
      .ret (.cst (.bl false))] [],
    .set (.name 10) (.call "_law_broken" [(.var 1), (.var 4)]),
    .freeze 10,
    .ifS (.or2 (.cmp .NotEq (.call "_law_told" [(.var 10), (.var 6), (.var 5)]) (.tup [(.cst (.int 1)), (.cst (.str "form"))])) (.one (.cmp .NotEq (.call "_law_told" [(.var 4), (.var 6), (.call "_law_broken" [(.var 1), (.var 5)])]) (.tup [(.cst (.int 1)), (.cst (.str "form"))])))) [
      .ret (.cst (.bl false))] [],
    .ifS (.cmp .NotEq (.call "_law_told" [(.var 4), (.var 6), (.tup [(.cst (.str "equal")), (.var 5), (.var 5)])]) (.tup [(.cst (.int 1)), (.cst (.str "form"))])) [
      .ret (.cst (.bl false))] []],
  .ret (.cst (.bl true))]⟩
def f_law : DefP := ⟨n_law, defArgs (top 42), defBody (top 42), defScope (top 42)⟩
def ds : List DefP := [f_is_name, f_is_element, f_is_row, f_is_plain, f_is_written, f_check_form, f_parts_of, f_told_name, f_name_over, f_name_alone, f_is_free, f_put_in, f_put, f_law_read, f_law_cell, f_law_stream, f_law_draw, f_law_shapes, f_law_name, f_law_kind, f_law_thing, f_law_parts, f_law_free, f_law_put, f_law_broken, f_law_told, f_law]
abbrev R (k : Nat) : Call := Pl.run gd (fnsOf ds) k
theorem ds_nd : (ds.map (·.fn.name)).Nodup := by decide +kernel
theorem R_at {d : DefP} (hd : d ∈ ds) (k : Nat) (xs : List D) (S : Sto) : R (k + 1) d.fn.name xs S = runFn gd (R k) d.fn xs S := run_at ds_nd hd k xs S
theorem R_is_name (k : Nat) (xs : List D) (S : Sto) : R (k + 1) "is_name" xs S = runFn gd (R k) n_is_name xs S := R_at (d := f_is_name) (by simp [ds]) k xs S
theorem R_is_element (k : Nat) (xs : List D) (S : Sto) : R (k + 1) "is_element" xs S = runFn gd (R k) n_is_element xs S := R_at (d := f_is_element) (by simp [ds]) k xs S
theorem R_is_row (k : Nat) (xs : List D) (S : Sto) : R (k + 1) "is_row" xs S = runFn gd (R k) n_is_row xs S := R_at (d := f_is_row) (by simp [ds]) k xs S
theorem R_is_plain (k : Nat) (xs : List D) (S : Sto) : R (k + 1) "is_plain" xs S = runFn gd (R k) n_is_plain xs S := R_at (d := f_is_plain) (by simp [ds]) k xs S
theorem R_is_written (k : Nat) (xs : List D) (S : Sto) : R (k + 1) "is_written" xs S = runFn gd (R k) n_is_written xs S := R_at (d := f_is_written) (by simp [ds]) k xs S
theorem R_check_form (k : Nat) (xs : List D) (S : Sto) : R (k + 1) "check_form" xs S = runFn gd (R k) n_check_form xs S := R_at (d := f_check_form) (by simp [ds]) k xs S
theorem R_parts_of (k : Nat) (xs : List D) (S : Sto) : R (k + 1) "parts_of" xs S = runFn gd (R k) n_parts_of xs S := R_at (d := f_parts_of) (by simp [ds]) k xs S
theorem R_told_name (k : Nat) (xs : List D) (S : Sto) : R (k + 1) "told_name" xs S = runFn gd (R k) n_told_name xs S := R_at (d := f_told_name) (by simp [ds]) k xs S
theorem R_name_over (k : Nat) (xs : List D) (S : Sto) : R (k + 1) "name_over" xs S = runFn gd (R k) n_name_over xs S := R_at (d := f_name_over) (by simp [ds]) k xs S
theorem R_name_alone (k : Nat) (xs : List D) (S : Sto) : R (k + 1) "name_alone" xs S = runFn gd (R k) n_name_alone xs S := R_at (d := f_name_alone) (by simp [ds]) k xs S
theorem R_is_free (k : Nat) (xs : List D) (S : Sto) : R (k + 1) "is_free" xs S = runFn gd (R k) n_is_free xs S := R_at (d := f_is_free) (by simp [ds]) k xs S
theorem R_put_in (k : Nat) (xs : List D) (S : Sto) : R (k + 1) "put_in" xs S = runFn gd (R k) n_put_in xs S := R_at (d := f_put_in) (by simp [ds]) k xs S
theorem R_put (k : Nat) (xs : List D) (S : Sto) : R (k + 1) "put" xs S = runFn gd (R k) n_put xs S := R_at (d := f_put) (by simp [ds]) k xs S
theorem R_law_read (k : Nat) (xs : List D) (S : Sto) : R (k + 1) "_law_read" xs S = runFn gd (R k) n_law_read xs S := R_at (d := f_law_read) (by simp [ds]) k xs S
theorem R_law_cell (k : Nat) (xs : List D) (S : Sto) : R (k + 1) "_law_cell" xs S = runFn gd (R k) n_law_cell xs S := R_at (d := f_law_cell) (by simp [ds]) k xs S
theorem R_law_stream (k : Nat) (xs : List D) (S : Sto) : R (k + 1) "_law_stream" xs S = runFn gd (R k) n_law_stream xs S := R_at (d := f_law_stream) (by simp [ds]) k xs S
theorem R_law_draw (k : Nat) (xs : List D) (S : Sto) : R (k + 1) "_law_draw" xs S = runFn gd (R k) n_law_draw xs S := R_at (d := f_law_draw) (by simp [ds]) k xs S
theorem R_law_shapes (k : Nat) (xs : List D) (S : Sto) : R (k + 1) "_law_shapes" xs S = runFn gd (R k) n_law_shapes xs S := R_at (d := f_law_shapes) (by simp [ds]) k xs S
theorem R_law_name (k : Nat) (xs : List D) (S : Sto) : R (k + 1) "_law_name" xs S = runFn gd (R k) n_law_name xs S := R_at (d := f_law_name) (by simp [ds]) k xs S
theorem R_law_kind (k : Nat) (xs : List D) (S : Sto) : R (k + 1) "_law_kind" xs S = runFn gd (R k) n_law_kind xs S := R_at (d := f_law_kind) (by simp [ds]) k xs S
theorem R_law_thing (k : Nat) (xs : List D) (S : Sto) : R (k + 1) "_law_thing" xs S = runFn gd (R k) n_law_thing xs S := R_at (d := f_law_thing) (by simp [ds]) k xs S
theorem R_law_parts (k : Nat) (xs : List D) (S : Sto) : R (k + 1) "_law_parts" xs S = runFn gd (R k) n_law_parts xs S := R_at (d := f_law_parts) (by simp [ds]) k xs S
theorem R_law_free (k : Nat) (xs : List D) (S : Sto) : R (k + 1) "_law_free" xs S = runFn gd (R k) n_law_free xs S := R_at (d := f_law_free) (by simp [ds]) k xs S
theorem R_law_put (k : Nat) (xs : List D) (S : Sto) : R (k + 1) "_law_put" xs S = runFn gd (R k) n_law_put xs S := R_at (d := f_law_put) (by simp [ds]) k xs S
theorem R_law_broken (k : Nat) (xs : List D) (S : Sto) : R (k + 1) "_law_broken" xs S = runFn gd (R k) n_law_broken xs S := R_at (d := f_law_broken) (by simp [ds]) k xs S
theorem R_law_told (k : Nat) (xs : List D) (S : Sto) : R (k + 1) "_law_told" xs S = runFn gd (R k) n_law_told xs S := R_at (d := f_law_told) (by simp [ds]) k xs S
theorem R_law (k : Nat) (xs : List D) (S : Sto) : R (k + 1) "law" xs S = runFn gd (R k) n_law xs S := R_at (d := f_law) (by simp [ds]) k xs S
def free : List Str := ["abs", "all", "enumerate", "int", "isinstance", "len", "list", "max", "range", "repr", "str", "tuple"]
def tabs : List He.Tab := [(fun K => He.ga K "KINDS", [("told" : Str), ("one" : Str), ("truth" : Str), ("both" : Str), ("either" : Str), ("maps" : Str), ("sets" : Str), ("part" : Str)]), (fun K => He.ga K "TERMS", [("name" : Str), ("star" : Str), ("fixed" : Str), ("call" : Str), ("pair" : Str), ("first" : Str), ("second" : Str), ("left" : Str), ("right" : Str), ("cases" : Str), ("fun" : Str), ("app" : Str), ("set" : Str), ("when" : Str), ("into" : Str), ("out" : Str), ("the" : Str)]), (fun K => He.ga K "FORMULAS", [("true" : Str), ("false" : Str), ("so" : Str), ("equal" : Str), ("in" : Str), ("and" : Str), ("or" : Str), ("if" : Str), ("not" : Str), ("near" : Str), ("all" : Str), ("some" : Str)]), (fun K => He.ga K "DERIVATIONS", [("given" : Str), ("truly" : Str), ("absurd" : Str), ("both" : Str), ("one" : Str), ("other" : Str), ("left" : Str), ("right" : Str), ("either" : Str), ("suppose" : Str), ("follow" : Str), ("deny" : Str), ("clash" : Str), ("any" : Str), ("at" : Str), ("witness" : Str), ("take" : Str), ("same" : Str), ("swap" : Str), ("reckon" : Str), ("only" : Str), ("parts" : Str), ("alike" : Str), ("members" : Str), ("now" : Str), ("flat" : Str), ("carry" : Str), ("along" : Str), ("truths" : Str), ("enter" : Str), ("leave" : Str), ("mean" : Str), ("meant" : Str), ("apart" : Str), ("drop" : Str), ("sides" : Str), ("within" : Str), ("outs" : Str), ("found" : Str)]), (fun K => He.ga K "SORTS", [("kind" : Str), ("term" : Str), ("formula" : Str), ("derivation" : Str)])]
theorem ds_ok : ds.all (okD free (ds.map (·.fn.name)) gd.excs) = true := by decide +kernel
theorem ds_bind : ∀ d, d ∈ ds → BindOk d := by
  intro d hd
  simp only [ds, List.mem_cons, List.not_mem_nil, or_false] at hd
  rcases hd with rfl | rfl | rfl | rfl | rfl | rfl | rfl | rfl | rfl | rfl | rfl | rfl | rfl | rfl | rfl | rfl | rfl | rfl | rfl | rfl | rfl | rfl | rfl | rfl | rfl | rfl | rfl <;> intro kV doc pm an cdv ct us hl
  all_goals first
    | (match us, hl with | [_], _ => rfl)
    | (match us, hl with | [_, _], _ => rfl)
    | (match us, hl with | [_, _, _], _ => rfl)
    | (match us, hl with | [_, _, _, _], _ => rfl)
end K20
end

section
set_option Elab.async false
set_option linter.all false
set_option maxRecDepth 100000
/-! k20: the head. -/
namespace K20
open PySem PySem.Spec PyProof.Rows L2 Pl
abbrev hk : PySem.W.Hook := He.hookX 5 [] (ds.map defOf) tabs [] (exB gd tabs free (ds.map (·.fn.name)))
abbrev rwR : PySem.W.OpenRow := PySem.W.OpenLaw.row PySem.Challenge.rw_prooforplace_k20_terms_put_in
def ob (s : PySem.W.SharedT) : He.AlX := He.obsX 5 [] (ds.map defOf) tabs [] (exB gd tabs free (ds.map (·.fn.name))) (HandSHeadRun.getT s)
theorem ob_eq (s : PySem.W.SharedT) : ob s = hk.obs s.abs := He.obsX_eq (HandSHeadRun.getT_eq s)
def loose : List Str := (row.main.scope.names.map (·.1)).filter fun x => !(x == "__name__") && !(x == "law")
theorem run_f (w : World) : HandSHeadRun.RunEq rwR (PySem.W.view rwR.prog [42]) hk ob 15000 loose (w.withFollow "special-get-raises" false) := by
  intro os
  kernel_rfl
theorem run_t (w : World) : HandSHeadRun.RunEq rwR (PySem.W.view rwR.prog [42]) hk ob 15000 loose (w.withFollow "special-get-raises" true) := by
  intro os
  kernel_rfl
theorem run (w : World) : HandSHeadRun.RunEq rwR (PySem.W.view rwR.prog [42]) hk ob 15000 loose w := PySem.W.byRow2 "special-get-raises" run_f run_t w
end K20
end

section
set_option Elab.async false
set_option linter.all false
set_option maxRecDepth 100000
namespace K20
open PySem PySem.Spec PyProof.Rows L2 Pl
def LV : Nat := 60
def Ans : Prop := ∀ ns : List Int, ns.length ≤ 63 → (∀ j ∈ ns, Builtin.Int.intBits j ≤ 1048576) → ∃ S, Pl.run gd (fnsOf ds) LV "law" [.lst (ns.map D.int)] [] = .ok (.d (.bl true)) S
theorem head_F (w : World) (mg : Str → Option Value) (fa : Addr) (h : Heap) (Y : ∃ K : PySem.W.Frag, K.In h ∧ He.SaysX [] (ds.map defOf) tabs [] (exB gd tabs free (ds.map (·.fn.name))) w h K) (N : h.Ns mainGlobals mg) (hm : mg "law" = some (.ref fa)) :
    ∃ (K : PySem.W.Frag) (fd : FuncData), K.In h ∧ (∀ (s : Shared) (u : Value), BindsTo s fd ⟨[u], []⟩ [("script", u)]) ∧ ∀ bs : Heap, K.In bs → bs.Ns mainGlobals mg → FnG row w K mg bs LV fa fd ["script"] (spC K w gd (Pl.run gd (fnsOf ds) LV) "law") := by
  obtain ⟨K, KX, c⟩ := Y
  have T : Top K w mg gd ds free := top_of KX N c ds_bind look_mem
  have hl : f_law ∈ ds := by simp [ds]
  obtain ⟨fd, F, e, b⟩ := T.fns f_law hl
  have e' : mg "law" = some (.ref (He.ga K "law")) := e
  rw [hm] at e'
  cases e'
  have ba := FunD.bindsA (ps := ["script"]) F (ds_bind f_law hl)
  exact ⟨K, fd, KX, fun s u => ba s [u] rfl, fun bs _ _ => run_sound T ds_ok ds_nd LV f_law hl fd F⟩
theorem room : Room LV callerA := ⟨rfl, by decide, by decide⟩
end K20
open PySem PySem.W PySem.Calls PyProof.Rows
theorem PySem.Challenge.k20_from (ans : K20.Ans) : PySem.Challenge.rw_prooforplace_k20_terms_put_in.Holds := by
  w_on; o_law
  refine HandSHeadRun.head_any (r := OpenLaw.row PySem.Challenge.rw_prooforplace_k20_terms_put_in) (q := view (OpenLaw.row PySem.Challenge.rw_prooforplace_k20_terms_put_in).prog [42]) (H := K20.hk) (ob := K20.ob) (M := 15000) (loose := K20.loose)
    (d := HandSHeadRun.topDef (OpenLaw.row PySem.Challenge.rw_prooforplace_k20_terms_put_in).prog 42) (kwd := []) K20.ob_eq (by kernel_rfl) (fun s => by kernel_rfl) K20.run (by kernel_rfl) (by kernel_rfl) (by kernel_rfl) (by rfl)
    (by first | assumption | decide +kernel) (by decide +kernel) ⟨rfl, rfl, rfl, rfl, rfl, by decide +kernel⟩ ?hw ?hc
  case hw => w_witness2
  case hc =>
    refine Pl.walk_G (l := PySem.Challenge.rw_prooforplace_k20_terms_put_in) (n := 63) (k := K20.LV) (x := "script") (nm := "law") (G := K20.gd) (fs := Pl.fnsOf K20.ds) rfl (by decide) (by kernel_rfl) K20.room (fun w mg fa h Y N hm => ?_) ans
    have e : (HandSHeadRun.topDef (OpenLaw.row PySem.Challenge.rw_prooforplace_k20_terms_put_in).prog 42).name = ("law" : PySem.Str) := by kernel_rfl
    rw [e] at hm
    exact K20.head_F w mg fa h Y N hm
end

section
set_option Elab.async false
set_option linter.all false
set_option maxRecDepth 100000
/-! k20: what the defs of the forms reckon. -/
namespace K20
open PySem hiding exec execs
open L2 Pl
/-! ### leaves -/
mutual
def isEl : D → Bool
  | .tup xs => isEls xs
  | .int _ => true
  | .bl _ => true
  | _ => false
def isEls : List D → Bool
  | [] => true
  | x :: xs => isEl x && isEls xs
end
def isRw : Nat → D → Bool
  | 0, v => isEl v
  | n + 1, v => (match v with
    | .tup xs => xs.all (isRw n)
    | _ => false)
def isPl : Nat → D → Bool
  | 0, v => isInt v
  | n + 1, v => (match v with
    | .tup xs => xs.all (isPl n)
    | _ => false)
mutual
def dep : D → Nat
  | .tup xs => deps xs + 1
  | .lst xs => deps xs + 1
  | _ => 0
def deps : List D → Nat
  | [] => 0
  | x :: xs => max (dep x) (deps xs)
end
mutual
/-- data as the law makes it -/
def sm : D → Bool
  | .non => true
  | .bl _ => true
  | .int _ => true
  | .str z => PyData.strOk z && decide (z.length ≤ 100)
  | .tup xs => decide (xs.length ≤ 100) && sms xs
  | .lst xs => decide (xs.length ≤ 100) && sms xs
  | _ => false
def sms : List D → Bool
  | [] => true
  | x :: xs => sm x && sms xs
end
theorem sm_ty {v : D} (h : sm v = true) : hasTy v = true := by cases v <;> first | rfl | (simp [sm] at h)
theorem sms_mem : ∀ {xs : List D} {x : D}, sms xs = true → x ∈ xs → sm x = true
  | y :: ys, x, h, m => by
    obtain ⟨h1, h2⟩ := Bool.and_eq_true_iff.mp (show (sm y && sms ys) = true from h)
    rcases List.mem_cons.mp m with rfl | m
    · exact h1
    · exact sms_mem h2 m
theorem deps_mem : ∀ {xs : List D} {x : D}, x ∈ xs → dep x ≤ deps xs
  | y :: ys, x, m => by
    show dep x ≤ max (dep y) (deps ys)
    rcases List.mem_cons.mp m with rfl | m
    · exact Nat.le_max_left _ _
    · exact Nat.le_trans (deps_mem m) (Nat.le_max_right _ _)
theorem sm_tup {xs : List D} (h : sm (.tup xs) = true) : xs.length ≤ 100 ∧ sms xs = true := by
  obtain ⟨h1, h2⟩ := Bool.and_eq_true_iff.mp (show (decide (xs.length ≤ 100) && sms xs) = true from h)
  exact ⟨of_decide_eq_true h1, h2⟩
theorem sm_str {z : Str} (h : sm (.str z) = true) : okZ z ∧ z.length ≤ 100 := by
  obtain ⟨h1, h2⟩ := Bool.and_eq_true_iff.mp (show (PyData.strOk z && decide (z.length ≤ 100)) = true from h)
  exact ⟨h1, of_decide_eq_true h2⟩
theorem line100 {n : Nat} (h : n ≤ 100) : n ≤ sizeLine := Nat.le_trans h (by decide)
theorem isEls_all : ∀ xs : List D, isEls xs = xs.all isEl
  | [] => rfl
  | x :: xs => by show (isEl x && isEls xs) = _; rw [isEls_all xs]; rfl
theorem all_id {α : Type} (xs : List α) (f : α → Bool) : (xs.map f).all id = xs.all f := by rw [List.all_map]; rfl
theorem map_bl {α : Type} (xs : List α) (f : α → Bool) : xs.map (fun x => D.bl (f x)) = (xs.map f).map D.bl := by rw [List.map_map]; rfl
/-- a name's signs -/
def isNm : D → Bool
  | .str z => decide (1 ≤ z.length) && decide (z.length ≤ 8) && z.cps.toList.all fun c => decide (97 ≤ c) && decide (c ≤ 122)
  | _ => false
theorem s_is_element : ∀ (k : Nat) (v : D) (S : Sto), sm v = true → dep v ≤ k → R (k + 1) "is_element" [v] S = .ok (.d (.bl (isEl v))) S := by
  intro k
  induction k with
  | zero =>
    intro v S h hd
    rw [R_is_element]
    unfold n_is_element
    simp only [Pl.runFn, List.length_cons, List.length_nil, Pl.startE_cons, Pl.startE_nil, Pl.repl_succ, List.replicate_zero, Nat.zero_add, Pl.execs, Pl.exec, Pl.evalT, Pl.evalE, Pl.evalVs, Pl.evalP, Pl.evalI, Pl.evalJ, List.getElem?_cons_zero, List.getElem?_cons_succ, Pl.Res.bind_ok, Pl.Res.bind_exc, Pl.Res.bind_stuck, Pl.Res.to_ok, Pl.Res.to_exc, Pl.Res.to_stuck, Pl.Res.calm_ok, Pl.SR.andThen_next, Pl.SR.andThen_ret, Pl.SR.andThen_brk, Pl.SR.andThen_cont, Pl.SR.andThen_exc, Pl.SR.andThen_stuck, Pl.gcE_self, Pl.gcX_self, Pl.optR_some, Pl.optR_none, Pl.EV.val_d, Pl.EV.val_own, Pl.EV.items_own, Pl.EV.items_brw, Pl.EV.items_lst, if_true, if_false, reduceIte, Bool.false_eq_true, Bool.not_true, Bool.not_false, List.set_cons_zero, List.set_cons_succ, Pl.wipeE, List.map_cons, List.map_nil, Pl.setE, Pl.bindT, Pl.bindNames, Nat.zero_lt_succ, Nat.succ_lt_succ_iff, Nat.lt_add_one, Pl.tru_bl, Pl.tru_int, Pl.its_tup, Pl.its_lst, Pl.its_own, Pl.its_brw, Pl.its_str, Pl.enum_tup, Pl.eq_int, Pl.ne_int, Pl.lt_int, Pl.le_int, Pl.gt_int, Pl.ge_int, Pl.add_int, Pl.sub_int, Pl.len_tup, Pl.len_own, Pl.len_brw, Pl.len_lst, Pl.idx_tup, Pl.idx_lst, Pl.idx_own, Pl.idx_brw, Pl.in_dic, Pl.nin_dic, Pl.idx_dic, Pl.is_non, Pl.isn_non, Pl.at_zero, Pl.at_one, sizeLine_eq, Nat.reduceAdd, Nat.reduceLeDiff, isi_tuple (sm_ty h), isi_int (sm_ty h)]
    cases v with
    | tup xs => simp [dep] at hd
    | _ => simp only [Pl.runFn, List.length_cons, List.length_nil, Pl.startE_cons, Pl.startE_nil, Pl.repl_succ, List.replicate_zero, Nat.zero_add, Pl.execs, Pl.exec, Pl.evalT, Pl.evalE, Pl.evalVs, Pl.evalP, Pl.evalI, Pl.evalJ, List.getElem?_cons_zero, List.getElem?_cons_succ, Pl.Res.bind_ok, Pl.Res.bind_exc, Pl.Res.bind_stuck, Pl.Res.to_ok, Pl.Res.to_exc, Pl.Res.to_stuck, Pl.Res.calm_ok, Pl.SR.andThen_next, Pl.SR.andThen_ret, Pl.SR.andThen_brk, Pl.SR.andThen_cont, Pl.SR.andThen_exc, Pl.SR.andThen_stuck, Pl.gcE_self, Pl.gcX_self, Pl.optR_some, Pl.optR_none, Pl.EV.val_d, Pl.EV.val_own, Pl.EV.items_own, Pl.EV.items_brw, Pl.EV.items_lst, if_true, if_false, reduceIte, Bool.false_eq_true, Bool.not_true, Bool.not_false, List.set_cons_zero, List.set_cons_succ, Pl.wipeE, List.map_cons, List.map_nil, Pl.setE, Pl.bindT, Pl.bindNames, Nat.zero_lt_succ, Nat.succ_lt_succ_iff, Nat.lt_add_one, Pl.tru_bl, Pl.tru_int, Pl.its_tup, Pl.its_lst, Pl.its_own, Pl.its_brw, Pl.its_str, Pl.enum_tup, Pl.eq_int, Pl.ne_int, Pl.lt_int, Pl.le_int, Pl.gt_int, Pl.ge_int, Pl.add_int, Pl.sub_int, Pl.len_tup, Pl.len_own, Pl.len_brw, Pl.len_lst, Pl.idx_tup, Pl.idx_lst, Pl.idx_own, Pl.idx_brw, Pl.in_dic, Pl.nin_dic, Pl.idx_dic, Pl.is_non, Pl.isn_non, Pl.at_zero, Pl.at_one, sizeLine_eq, Nat.reduceAdd, Nat.reduceLeDiff, isTup, isi_int (sm_ty h)] <;> rfl
  | succ k ih =>
    intro v S h hd
    rw [R_is_element]
    unfold n_is_element
    simp only [Pl.runFn, List.length_cons, List.length_nil, Pl.startE_cons, Pl.startE_nil, Pl.repl_succ, List.replicate_zero, Nat.zero_add, Pl.execs, Pl.exec, Pl.evalT, Pl.evalE, Pl.evalVs, Pl.evalP, Pl.evalI, Pl.evalJ, List.getElem?_cons_zero, List.getElem?_cons_succ, Pl.Res.bind_ok, Pl.Res.bind_exc, Pl.Res.bind_stuck, Pl.Res.to_ok, Pl.Res.to_exc, Pl.Res.to_stuck, Pl.Res.calm_ok, Pl.SR.andThen_next, Pl.SR.andThen_ret, Pl.SR.andThen_brk, Pl.SR.andThen_cont, Pl.SR.andThen_exc, Pl.SR.andThen_stuck, Pl.gcE_self, Pl.gcX_self, Pl.optR_some, Pl.optR_none, Pl.EV.val_d, Pl.EV.val_own, Pl.EV.items_own, Pl.EV.items_brw, Pl.EV.items_lst, if_true, if_false, reduceIte, Bool.false_eq_true, Bool.not_true, Bool.not_false, List.set_cons_zero, List.set_cons_succ, Pl.wipeE, List.map_cons, List.map_nil, Pl.setE, Pl.bindT, Pl.bindNames, Nat.zero_lt_succ, Nat.succ_lt_succ_iff, Nat.lt_add_one, Pl.tru_bl, Pl.tru_int, Pl.its_tup, Pl.its_lst, Pl.its_own, Pl.its_brw, Pl.its_str, Pl.enum_tup, Pl.eq_int, Pl.ne_int, Pl.lt_int, Pl.le_int, Pl.gt_int, Pl.ge_int, Pl.add_int, Pl.sub_int, Pl.len_tup, Pl.len_own, Pl.len_brw, Pl.len_lst, Pl.idx_tup, Pl.idx_lst, Pl.idx_own, Pl.idx_brw, Pl.in_dic, Pl.nin_dic, Pl.idx_dic, Pl.is_non, Pl.isn_non, Pl.at_zero, Pl.at_one, sizeLine_eq, Nat.reduceAdd, Nat.reduceLeDiff, isi_tuple (sm_ty h)]
    cases v with
    | tup xs =>
      obtain ⟨h1, h2⟩ := sm_tup h
      simp only [Pl.runFn, List.length_cons, List.length_nil, Pl.startE_cons, Pl.startE_nil, Pl.repl_succ, List.replicate_zero, Nat.zero_add, Pl.execs, Pl.exec, Pl.evalT, Pl.evalE, Pl.evalVs, Pl.evalP, Pl.evalI, Pl.evalJ, List.getElem?_cons_zero, List.getElem?_cons_succ, Pl.Res.bind_ok, Pl.Res.bind_exc, Pl.Res.bind_stuck, Pl.Res.to_ok, Pl.Res.to_exc, Pl.Res.to_stuck, Pl.Res.calm_ok, Pl.SR.andThen_next, Pl.SR.andThen_ret, Pl.SR.andThen_brk, Pl.SR.andThen_cont, Pl.SR.andThen_exc, Pl.SR.andThen_stuck, Pl.gcE_self, Pl.gcX_self, Pl.optR_some, Pl.optR_none, Pl.EV.val_d, Pl.EV.val_own, Pl.EV.items_own, Pl.EV.items_brw, Pl.EV.items_lst, if_true, if_false, reduceIte, Bool.false_eq_true, Bool.not_true, Bool.not_false, List.set_cons_zero, List.set_cons_succ, Pl.wipeE, List.map_cons, List.map_nil, Pl.setE, Pl.bindT, Pl.bindNames, Nat.zero_lt_succ, Nat.succ_lt_succ_iff, Nat.lt_add_one, Pl.tru_bl, Pl.tru_int, Pl.its_tup, Pl.its_lst, Pl.its_own, Pl.its_brw, Pl.its_str, Pl.enum_tup, Pl.eq_int, Pl.ne_int, Pl.lt_int, Pl.le_int, Pl.gt_int, Pl.ge_int, Pl.add_int, Pl.sub_int, Pl.len_tup, Pl.len_own, Pl.len_brw, Pl.len_lst, Pl.idx_tup, Pl.idx_lst, Pl.idx_own, Pl.idx_brw, Pl.in_dic, Pl.nin_dic, Pl.idx_dic, Pl.is_non, Pl.isn_non, Pl.at_zero, Pl.at_one, sizeLine_eq, Nat.reduceAdd, Nat.reduceLeDiff, isTup]
      rw [comp_map (f := fun x => .bl (isEl x)) rfl xs [] (by simpa using line100 h1) fun x hx => ⟨_, _, rfl, rfl, (by
        simp only [Pl.runFn, List.length_cons, List.length_nil, Pl.startE_cons, Pl.startE_nil, Pl.repl_succ, List.replicate_zero, Nat.zero_add, Pl.execs, Pl.exec, Pl.evalT, Pl.evalE, Pl.evalVs, Pl.evalP, Pl.evalI, Pl.evalJ, List.getElem?_cons_zero, List.getElem?_cons_succ, Pl.Res.bind_ok, Pl.Res.bind_exc, Pl.Res.bind_stuck, Pl.Res.to_ok, Pl.Res.to_exc, Pl.Res.to_stuck, Pl.Res.calm_ok, Pl.SR.andThen_next, Pl.SR.andThen_ret, Pl.SR.andThen_brk, Pl.SR.andThen_cont, Pl.SR.andThen_exc, Pl.SR.andThen_stuck, Pl.gcE_self, Pl.gcX_self, Pl.optR_some, Pl.optR_none, Pl.EV.val_d, Pl.EV.val_own, Pl.EV.items_own, Pl.EV.items_brw, Pl.EV.items_lst, if_true, if_false, reduceIte, Bool.false_eq_true, Bool.not_true, Bool.not_false, List.set_cons_zero, List.set_cons_succ, Pl.wipeE, List.map_cons, List.map_nil, Pl.setE, Pl.bindT, Pl.bindNames, Nat.zero_lt_succ, Nat.succ_lt_succ_iff, Nat.lt_add_one, Pl.tru_bl, Pl.tru_int, Pl.its_tup, Pl.its_lst, Pl.its_own, Pl.its_brw, Pl.its_str, Pl.enum_tup, Pl.eq_int, Pl.ne_int, Pl.lt_int, Pl.le_int, Pl.gt_int, Pl.ge_int, Pl.add_int, Pl.sub_int, Pl.len_tup, Pl.len_own, Pl.len_brw, Pl.len_lst, Pl.idx_tup, Pl.idx_lst, Pl.idx_own, Pl.idx_brw, Pl.in_dic, Pl.nin_dic, Pl.idx_dic, Pl.is_non, Pl.isn_non, Pl.at_zero, Pl.at_one, sizeLine_eq, Nat.reduceAdd, Nat.reduceLeDiff]
        exact ih x S (sms_mem h2 hx) (by have := deps_mem hx; simp only [dep] at hd; omega)), rfl⟩]
      simp only [Pl.runFn, List.length_cons, List.length_nil, Pl.startE_cons, Pl.startE_nil, Pl.repl_succ, List.replicate_zero, Nat.zero_add, Pl.execs, Pl.exec, Pl.evalT, Pl.evalE, Pl.evalVs, Pl.evalP, Pl.evalI, Pl.evalJ, List.getElem?_cons_zero, List.getElem?_cons_succ, Pl.Res.bind_ok, Pl.Res.bind_exc, Pl.Res.bind_stuck, Pl.Res.to_ok, Pl.Res.to_exc, Pl.Res.to_stuck, Pl.Res.calm_ok, Pl.SR.andThen_next, Pl.SR.andThen_ret, Pl.SR.andThen_brk, Pl.SR.andThen_cont, Pl.SR.andThen_exc, Pl.SR.andThen_stuck, Pl.gcE_self, Pl.gcX_self, Pl.optR_some, Pl.optR_none, Pl.EV.val_d, Pl.EV.val_own, Pl.EV.items_own, Pl.EV.items_brw, Pl.EV.items_lst, if_true, if_false, reduceIte, Bool.false_eq_true, Bool.not_true, Bool.not_false, List.set_cons_zero, List.set_cons_succ, Pl.wipeE, List.map_cons, List.map_nil, Pl.setE, Pl.bindT, Pl.bindNames, Nat.zero_lt_succ, Nat.succ_lt_succ_iff, Nat.lt_add_one, Pl.tru_bl, Pl.tru_int, Pl.its_tup, Pl.its_lst, Pl.its_own, Pl.its_brw, Pl.its_str, Pl.enum_tup, Pl.eq_int, Pl.ne_int, Pl.lt_int, Pl.le_int, Pl.gt_int, Pl.ge_int, Pl.add_int, Pl.sub_int, Pl.len_tup, Pl.len_own, Pl.len_brw, Pl.len_lst, Pl.idx_tup, Pl.idx_lst, Pl.idx_own, Pl.idx_brw, Pl.in_dic, Pl.nin_dic, Pl.idx_dic, Pl.is_non, Pl.isn_non, Pl.at_zero, Pl.at_one, sizeLine_eq, Nat.reduceAdd, Nat.reduceLeDiff, List.nil_append, map_bl, all_own, all_id]
      rw [isEl, isEls_all]
    | _ => simp only [Pl.runFn, List.length_cons, List.length_nil, Pl.startE_cons, Pl.startE_nil, Pl.repl_succ, List.replicate_zero, Nat.zero_add, Pl.execs, Pl.exec, Pl.evalT, Pl.evalE, Pl.evalVs, Pl.evalP, Pl.evalI, Pl.evalJ, List.getElem?_cons_zero, List.getElem?_cons_succ, Pl.Res.bind_ok, Pl.Res.bind_exc, Pl.Res.bind_stuck, Pl.Res.to_ok, Pl.Res.to_exc, Pl.Res.to_stuck, Pl.Res.calm_ok, Pl.SR.andThen_next, Pl.SR.andThen_ret, Pl.SR.andThen_brk, Pl.SR.andThen_cont, Pl.SR.andThen_exc, Pl.SR.andThen_stuck, Pl.gcE_self, Pl.gcX_self, Pl.optR_some, Pl.optR_none, Pl.EV.val_d, Pl.EV.val_own, Pl.EV.items_own, Pl.EV.items_brw, Pl.EV.items_lst, if_true, if_false, reduceIte, Bool.false_eq_true, Bool.not_true, Bool.not_false, List.set_cons_zero, List.set_cons_succ, Pl.wipeE, List.map_cons, List.map_nil, Pl.setE, Pl.bindT, Pl.bindNames, Nat.zero_lt_succ, Nat.succ_lt_succ_iff, Nat.lt_add_one, Pl.tru_bl, Pl.tru_int, Pl.its_tup, Pl.its_lst, Pl.its_own, Pl.its_brw, Pl.its_str, Pl.enum_tup, Pl.eq_int, Pl.ne_int, Pl.lt_int, Pl.le_int, Pl.gt_int, Pl.ge_int, Pl.add_int, Pl.sub_int, Pl.len_tup, Pl.len_own, Pl.len_brw, Pl.len_lst, Pl.idx_tup, Pl.idx_lst, Pl.idx_own, Pl.idx_brw, Pl.in_dic, Pl.nin_dic, Pl.idx_dic, Pl.is_non, Pl.isn_non, Pl.at_zero, Pl.at_one, sizeLine_eq, Nat.reduceAdd, Nat.reduceLeDiff, isTup, isi_int (sm_ty h)] <;> rfl
theorem cps_lt (c b : Nat) : (!decide ([c] < [b])) = decide (b ≤ c) := by
  by_cases h : b ≤ c
  · rw [decide_eq_true h, decide_eq_false]
    · rfl
    · intro z
      cases z with
      | rel h2 => omega
      | cons h2 => cases h2
  · rw [decide_eq_false h, decide_eq_true]
    · rfl
    · exact List.Lex.rel (by omega)
theorem le_sign (c b : Nat) (x y : Str) (S : Sto) (hx : x.cps.toList = [b]) (hy : y.cps.toList = [c]) : cmpV .LtE S (.d (.str x)) (.d (.str y)) = some (decide (b ≤ c)) := by
  show some (!decide (y.cps.toList < x.cps.toList)) = _
  rw [hx, hy, cps_lt]
theorem le_a (c : Nat) (S : Sto) : cmpV .LtE S (.d (.str "a")) (.d (.str ⟨#[c]⟩)) = some (decide (97 ≤ c)) := le_sign c 97 _ _ S rfl rfl
theorem le_z (c : Nat) (S : Sto) : cmpV .LtE S (.d (.str ⟨#[c]⟩)) (.d (.str "z")) = some (decide (c ≤ 122)) := le_sign 122 c _ _ S rfl rfl
theorem longest : gd.consts.lookup ("LONGEST" : Str) = some (D.int 8) := by decide +kernel
theorem s_is_name (k : Nat) {v : D} (S : Sto) (h : sm v = true) : R (k + 1) "is_name" [v] S = .ok (.d (.bl (isNm v))) S := by
  rw [R_is_name]
  unfold n_is_name
  simp only [Pl.runFn, List.length_cons, List.length_nil, Pl.startE_cons, Pl.startE_nil, Pl.repl_succ, List.replicate_zero, Nat.zero_add, Pl.execs, Pl.exec, Pl.evalT, Pl.evalE, Pl.evalVs, Pl.evalP, Pl.evalI, Pl.evalJ, List.getElem?_cons_zero, List.getElem?_cons_succ, Pl.Res.bind_ok, Pl.Res.bind_exc, Pl.Res.bind_stuck, Pl.Res.to_ok, Pl.Res.to_exc, Pl.Res.to_stuck, Pl.Res.calm_ok, Pl.SR.andThen_next, Pl.SR.andThen_ret, Pl.SR.andThen_brk, Pl.SR.andThen_cont, Pl.SR.andThen_exc, Pl.SR.andThen_stuck, Pl.gcE_self, Pl.gcX_self, Pl.optR_some, Pl.optR_none, Pl.EV.val_d, Pl.EV.val_own, Pl.EV.items_own, Pl.EV.items_brw, Pl.EV.items_lst, if_true, if_false, reduceIte, Bool.false_eq_true, Bool.not_true, Bool.not_false, List.set_cons_zero, List.set_cons_succ, Pl.wipeE, List.map_cons, List.map_nil, Pl.setE, Pl.bindT, Pl.bindNames, Nat.zero_lt_succ, Nat.succ_lt_succ_iff, Nat.lt_add_one, Pl.tru_bl, Pl.tru_int, Pl.its_tup, Pl.its_lst, Pl.its_own, Pl.its_brw, Pl.its_str, Pl.enum_tup, Pl.eq_int, Pl.ne_int, Pl.lt_int, Pl.le_int, Pl.gt_int, Pl.ge_int, Pl.add_int, Pl.sub_int, Pl.len_tup, Pl.len_own, Pl.len_brw, Pl.len_lst, Pl.idx_tup, Pl.idx_lst, Pl.idx_own, Pl.idx_brw, Pl.in_dic, Pl.nin_dic, Pl.idx_dic, Pl.is_non, Pl.isn_non, Pl.at_zero, Pl.at_one, sizeLine_eq, Nat.reduceAdd, Nat.reduceLeDiff, isi_str (sm_ty h)]
  cases v with
  | str z =>
    obtain ⟨h1, h2⟩ := sm_str h
    simp only [Pl.runFn, List.length_cons, List.length_nil, Pl.startE_cons, Pl.startE_nil, Pl.repl_succ, List.replicate_zero, Nat.zero_add, Pl.execs, Pl.exec, Pl.evalT, Pl.evalE, Pl.evalVs, Pl.evalP, Pl.evalI, Pl.evalJ, List.getElem?_cons_zero, List.getElem?_cons_succ, Pl.Res.bind_ok, Pl.Res.bind_exc, Pl.Res.bind_stuck, Pl.Res.to_ok, Pl.Res.to_exc, Pl.Res.to_stuck, Pl.Res.calm_ok, Pl.SR.andThen_next, Pl.SR.andThen_ret, Pl.SR.andThen_brk, Pl.SR.andThen_cont, Pl.SR.andThen_exc, Pl.SR.andThen_stuck, Pl.gcE_self, Pl.gcX_self, Pl.optR_some, Pl.optR_none, Pl.EV.val_d, Pl.EV.val_own, Pl.EV.items_own, Pl.EV.items_brw, Pl.EV.items_lst, if_true, if_false, reduceIte, Bool.false_eq_true, Bool.not_true, Bool.not_false, List.set_cons_zero, List.set_cons_succ, Pl.wipeE, List.map_cons, List.map_nil, Pl.setE, Pl.bindT, Pl.bindNames, Nat.zero_lt_succ, Nat.succ_lt_succ_iff, Nat.lt_add_one, Pl.tru_bl, Pl.tru_int, Pl.its_tup, Pl.its_lst, Pl.its_own, Pl.its_brw, Pl.its_str, Pl.enum_tup, Pl.eq_int, Pl.ne_int, Pl.lt_int, Pl.le_int, Pl.gt_int, Pl.ge_int, Pl.add_int, Pl.sub_int, Pl.len_tup, Pl.len_own, Pl.len_brw, Pl.len_lst, Pl.idx_tup, Pl.idx_lst, Pl.idx_own, Pl.idx_brw, Pl.in_dic, Pl.nin_dic, Pl.idx_dic, Pl.is_non, Pl.isn_non, Pl.at_zero, Pl.at_one, sizeLine_eq, Nat.reduceAdd, Nat.reduceLeDiff, isStr, len_str (line100 h2), longest]
    by_cases c1 : (1 : Int) ≤ (z.length : Int)
    · by_cases c2 : (z.length : Int) ≤ 8
      · simp only [Pl.runFn, List.length_cons, List.length_nil, Pl.startE_cons, Pl.startE_nil, Pl.repl_succ, List.replicate_zero, Nat.zero_add, Pl.execs, Pl.exec, Pl.evalT, Pl.evalE, Pl.evalVs, Pl.evalP, Pl.evalI, Pl.evalJ, List.getElem?_cons_zero, List.getElem?_cons_succ, Pl.Res.bind_ok, Pl.Res.bind_exc, Pl.Res.bind_stuck, Pl.Res.to_ok, Pl.Res.to_exc, Pl.Res.to_stuck, Pl.Res.calm_ok, Pl.SR.andThen_next, Pl.SR.andThen_ret, Pl.SR.andThen_brk, Pl.SR.andThen_cont, Pl.SR.andThen_exc, Pl.SR.andThen_stuck, Pl.gcE_self, Pl.gcX_self, Pl.optR_some, Pl.optR_none, Pl.EV.val_d, Pl.EV.val_own, Pl.EV.items_own, Pl.EV.items_brw, Pl.EV.items_lst, if_true, if_false, reduceIte, Bool.false_eq_true, Bool.not_true, Bool.not_false, List.set_cons_zero, List.set_cons_succ, Pl.wipeE, List.map_cons, List.map_nil, Pl.setE, Pl.bindT, Pl.bindNames, Nat.zero_lt_succ, Nat.succ_lt_succ_iff, Nat.lt_add_one, Pl.tru_bl, Pl.tru_int, Pl.its_tup, Pl.its_lst, Pl.its_own, Pl.its_brw, Pl.its_str, Pl.enum_tup, Pl.eq_int, Pl.ne_int, Pl.lt_int, Pl.le_int, Pl.gt_int, Pl.ge_int, Pl.add_int, Pl.sub_int, Pl.len_tup, Pl.len_own, Pl.len_brw, Pl.len_lst, Pl.idx_tup, Pl.idx_lst, Pl.idx_own, Pl.idx_brw, Pl.in_dic, Pl.nin_dic, Pl.idx_dic, Pl.is_non, Pl.isn_non, Pl.at_zero, Pl.at_one, sizeLine_eq, Nat.reduceAdd, Nat.reduceLeDiff, c1, c2, decide_true]
        rw [comp_map (f := fun x => .bl (match x with | .str y => (match y.cps.toList with | [c] => decide (97 ≤ c) && decide (c ≤ 122) | _ => false) | _ => false)) rfl _ [] (by simp; exact line100 h2) fun x hx => ?_]
        · simp only [Pl.runFn, List.length_cons, List.length_nil, Pl.startE_cons, Pl.startE_nil, Pl.repl_succ, List.replicate_zero, Nat.zero_add, Pl.execs, Pl.exec, Pl.evalT, Pl.evalE, Pl.evalVs, Pl.evalP, Pl.evalI, Pl.evalJ, List.getElem?_cons_zero, List.getElem?_cons_succ, Pl.Res.bind_ok, Pl.Res.bind_exc, Pl.Res.bind_stuck, Pl.Res.to_ok, Pl.Res.to_exc, Pl.Res.to_stuck, Pl.Res.calm_ok, Pl.SR.andThen_next, Pl.SR.andThen_ret, Pl.SR.andThen_brk, Pl.SR.andThen_cont, Pl.SR.andThen_exc, Pl.SR.andThen_stuck, Pl.gcE_self, Pl.gcX_self, Pl.optR_some, Pl.optR_none, Pl.EV.val_d, Pl.EV.val_own, Pl.EV.items_own, Pl.EV.items_brw, Pl.EV.items_lst, if_true, if_false, reduceIte, Bool.false_eq_true, Bool.not_true, Bool.not_false, List.set_cons_zero, List.set_cons_succ, Pl.wipeE, List.map_cons, List.map_nil, Pl.setE, Pl.bindT, Pl.bindNames, Nat.zero_lt_succ, Nat.succ_lt_succ_iff, Nat.lt_add_one, Pl.tru_bl, Pl.tru_int, Pl.its_tup, Pl.its_lst, Pl.its_own, Pl.its_brw, Pl.its_str, Pl.enum_tup, Pl.eq_int, Pl.ne_int, Pl.lt_int, Pl.le_int, Pl.gt_int, Pl.ge_int, Pl.add_int, Pl.sub_int, Pl.len_tup, Pl.len_own, Pl.len_brw, Pl.len_lst, Pl.idx_tup, Pl.idx_lst, Pl.idx_own, Pl.idx_brw, Pl.in_dic, Pl.nin_dic, Pl.idx_dic, Pl.is_non, Pl.isn_non, Pl.at_zero, Pl.at_one, sizeLine_eq, Nat.reduceAdd, Nat.reduceLeDiff, List.nil_append, map_bl, all_own, all_id]
          have e1 : decide (1 ≤ z.length) = true := decide_eq_true (by omega)
          have e2 : decide (z.length ≤ 8) = true := decide_eq_true (by omega)
          rw [isNm, e1, e2, List.all_map]
          rfl
        · obtain ⟨c, _, rfl⟩ := List.mem_map.mp hx
          refine ⟨_, .d (.bl (decide (97 ≤ c) && decide (c ≤ 122))), rfl, rfl, ?_, rfl⟩
          simp only [Pl.runFn, List.length_cons, List.length_nil, Pl.startE_cons, Pl.startE_nil, Pl.repl_succ, List.replicate_zero, Nat.zero_add, Pl.execs, Pl.exec, Pl.evalT, Pl.evalE, Pl.evalVs, Pl.evalP, Pl.evalI, Pl.evalJ, List.getElem?_cons_zero, List.getElem?_cons_succ, Pl.Res.bind_ok, Pl.Res.bind_exc, Pl.Res.bind_stuck, Pl.Res.to_ok, Pl.Res.to_exc, Pl.Res.to_stuck, Pl.Res.calm_ok, Pl.SR.andThen_next, Pl.SR.andThen_ret, Pl.SR.andThen_brk, Pl.SR.andThen_cont, Pl.SR.andThen_exc, Pl.SR.andThen_stuck, Pl.gcE_self, Pl.gcX_self, Pl.optR_some, Pl.optR_none, Pl.EV.val_d, Pl.EV.val_own, Pl.EV.items_own, Pl.EV.items_brw, Pl.EV.items_lst, if_true, if_false, reduceIte, Bool.false_eq_true, Bool.not_true, Bool.not_false, List.set_cons_zero, List.set_cons_succ, Pl.wipeE, List.map_cons, List.map_nil, Pl.setE, Pl.bindT, Pl.bindNames, Nat.zero_lt_succ, Nat.succ_lt_succ_iff, Nat.lt_add_one, Pl.tru_bl, Pl.tru_int, Pl.its_tup, Pl.its_lst, Pl.its_own, Pl.its_brw, Pl.its_str, Pl.enum_tup, Pl.eq_int, Pl.ne_int, Pl.lt_int, Pl.le_int, Pl.gt_int, Pl.ge_int, Pl.add_int, Pl.sub_int, Pl.len_tup, Pl.len_own, Pl.len_brw, Pl.len_lst, Pl.idx_tup, Pl.idx_lst, Pl.idx_own, Pl.idx_brw, Pl.in_dic, Pl.nin_dic, Pl.idx_dic, Pl.is_non, Pl.isn_non, Pl.at_zero, Pl.at_one, sizeLine_eq, Nat.reduceAdd, Nat.reduceLeDiff, le_a, le_z]
          by_cases q : 97 ≤ c
          · simp only [Pl.runFn, List.length_cons, List.length_nil, Pl.startE_cons, Pl.startE_nil, Pl.repl_succ, List.replicate_zero, Nat.zero_add, Pl.execs, Pl.exec, Pl.evalT, Pl.evalE, Pl.evalVs, Pl.evalP, Pl.evalI, Pl.evalJ, List.getElem?_cons_zero, List.getElem?_cons_succ, Pl.Res.bind_ok, Pl.Res.bind_exc, Pl.Res.bind_stuck, Pl.Res.to_ok, Pl.Res.to_exc, Pl.Res.to_stuck, Pl.Res.calm_ok, Pl.SR.andThen_next, Pl.SR.andThen_ret, Pl.SR.andThen_brk, Pl.SR.andThen_cont, Pl.SR.andThen_exc, Pl.SR.andThen_stuck, Pl.gcE_self, Pl.gcX_self, Pl.optR_some, Pl.optR_none, Pl.EV.val_d, Pl.EV.val_own, Pl.EV.items_own, Pl.EV.items_brw, Pl.EV.items_lst, if_true, if_false, reduceIte, Bool.false_eq_true, Bool.not_true, Bool.not_false, List.set_cons_zero, List.set_cons_succ, Pl.wipeE, List.map_cons, List.map_nil, Pl.setE, Pl.bindT, Pl.bindNames, Nat.zero_lt_succ, Nat.succ_lt_succ_iff, Nat.lt_add_one, Pl.tru_bl, Pl.tru_int, Pl.its_tup, Pl.its_lst, Pl.its_own, Pl.its_brw, Pl.its_str, Pl.enum_tup, Pl.eq_int, Pl.ne_int, Pl.lt_int, Pl.le_int, Pl.gt_int, Pl.ge_int, Pl.add_int, Pl.sub_int, Pl.len_tup, Pl.len_own, Pl.len_brw, Pl.len_lst, Pl.idx_tup, Pl.idx_lst, Pl.idx_own, Pl.idx_brw, Pl.in_dic, Pl.nin_dic, Pl.idx_dic, Pl.is_non, Pl.isn_non, Pl.at_zero, Pl.at_one, sizeLine_eq, Nat.reduceAdd, Nat.reduceLeDiff, q, decide_true, le_z, Bool.true_and]
          · simp only [Pl.runFn, List.length_cons, List.length_nil, Pl.startE_cons, Pl.startE_nil, Pl.repl_succ, List.replicate_zero, Nat.zero_add, Pl.execs, Pl.exec, Pl.evalT, Pl.evalE, Pl.evalVs, Pl.evalP, Pl.evalI, Pl.evalJ, List.getElem?_cons_zero, List.getElem?_cons_succ, Pl.Res.bind_ok, Pl.Res.bind_exc, Pl.Res.bind_stuck, Pl.Res.to_ok, Pl.Res.to_exc, Pl.Res.to_stuck, Pl.Res.calm_ok, Pl.SR.andThen_next, Pl.SR.andThen_ret, Pl.SR.andThen_brk, Pl.SR.andThen_cont, Pl.SR.andThen_exc, Pl.SR.andThen_stuck, Pl.gcE_self, Pl.gcX_self, Pl.optR_some, Pl.optR_none, Pl.EV.val_d, Pl.EV.val_own, Pl.EV.items_own, Pl.EV.items_brw, Pl.EV.items_lst, if_true, if_false, reduceIte, Bool.false_eq_true, Bool.not_true, Bool.not_false, List.set_cons_zero, List.set_cons_succ, Pl.wipeE, List.map_cons, List.map_nil, Pl.setE, Pl.bindT, Pl.bindNames, Nat.zero_lt_succ, Nat.succ_lt_succ_iff, Nat.lt_add_one, Pl.tru_bl, Pl.tru_int, Pl.its_tup, Pl.its_lst, Pl.its_own, Pl.its_brw, Pl.its_str, Pl.enum_tup, Pl.eq_int, Pl.ne_int, Pl.lt_int, Pl.le_int, Pl.gt_int, Pl.ge_int, Pl.add_int, Pl.sub_int, Pl.len_tup, Pl.len_own, Pl.len_brw, Pl.len_lst, Pl.idx_tup, Pl.idx_lst, Pl.idx_own, Pl.idx_brw, Pl.in_dic, Pl.nin_dic, Pl.idx_dic, Pl.is_non, Pl.isn_non, Pl.at_zero, Pl.at_one, sizeLine_eq, Nat.reduceAdd, Nat.reduceLeDiff, q, decide_false, Bool.false_and]
      · simp only [Pl.runFn, List.length_cons, List.length_nil, Pl.startE_cons, Pl.startE_nil, Pl.repl_succ, List.replicate_zero, Nat.zero_add, Pl.execs, Pl.exec, Pl.evalT, Pl.evalE, Pl.evalVs, Pl.evalP, Pl.evalI, Pl.evalJ, List.getElem?_cons_zero, List.getElem?_cons_succ, Pl.Res.bind_ok, Pl.Res.bind_exc, Pl.Res.bind_stuck, Pl.Res.to_ok, Pl.Res.to_exc, Pl.Res.to_stuck, Pl.Res.calm_ok, Pl.SR.andThen_next, Pl.SR.andThen_ret, Pl.SR.andThen_brk, Pl.SR.andThen_cont, Pl.SR.andThen_exc, Pl.SR.andThen_stuck, Pl.gcE_self, Pl.gcX_self, Pl.optR_some, Pl.optR_none, Pl.EV.val_d, Pl.EV.val_own, Pl.EV.items_own, Pl.EV.items_brw, Pl.EV.items_lst, if_true, if_false, reduceIte, Bool.false_eq_true, Bool.not_true, Bool.not_false, List.set_cons_zero, List.set_cons_succ, Pl.wipeE, List.map_cons, List.map_nil, Pl.setE, Pl.bindT, Pl.bindNames, Nat.zero_lt_succ, Nat.succ_lt_succ_iff, Nat.lt_add_one, Pl.tru_bl, Pl.tru_int, Pl.its_tup, Pl.its_lst, Pl.its_own, Pl.its_brw, Pl.its_str, Pl.enum_tup, Pl.eq_int, Pl.ne_int, Pl.lt_int, Pl.le_int, Pl.gt_int, Pl.ge_int, Pl.add_int, Pl.sub_int, Pl.len_tup, Pl.len_own, Pl.len_brw, Pl.len_lst, Pl.idx_tup, Pl.idx_lst, Pl.idx_own, Pl.idx_brw, Pl.in_dic, Pl.nin_dic, Pl.idx_dic, Pl.is_non, Pl.isn_non, Pl.at_zero, Pl.at_one, sizeLine_eq, Nat.reduceAdd, Nat.reduceLeDiff, c1, c2, decide_true, decide_false]
        rw [isNm, decide_eq_false (show ¬ z.length ≤ 8 by omega)]
        simp
    · simp only [Pl.runFn, List.length_cons, List.length_nil, Pl.startE_cons, Pl.startE_nil, Pl.repl_succ, List.replicate_zero, Nat.zero_add, Pl.execs, Pl.exec, Pl.evalT, Pl.evalE, Pl.evalVs, Pl.evalP, Pl.evalI, Pl.evalJ, List.getElem?_cons_zero, List.getElem?_cons_succ, Pl.Res.bind_ok, Pl.Res.bind_exc, Pl.Res.bind_stuck, Pl.Res.to_ok, Pl.Res.to_exc, Pl.Res.to_stuck, Pl.Res.calm_ok, Pl.SR.andThen_next, Pl.SR.andThen_ret, Pl.SR.andThen_brk, Pl.SR.andThen_cont, Pl.SR.andThen_exc, Pl.SR.andThen_stuck, Pl.gcE_self, Pl.gcX_self, Pl.optR_some, Pl.optR_none, Pl.EV.val_d, Pl.EV.val_own, Pl.EV.items_own, Pl.EV.items_brw, Pl.EV.items_lst, if_true, if_false, reduceIte, Bool.false_eq_true, Bool.not_true, Bool.not_false, List.set_cons_zero, List.set_cons_succ, Pl.wipeE, List.map_cons, List.map_nil, Pl.setE, Pl.bindT, Pl.bindNames, Nat.zero_lt_succ, Nat.succ_lt_succ_iff, Nat.lt_add_one, Pl.tru_bl, Pl.tru_int, Pl.its_tup, Pl.its_lst, Pl.its_own, Pl.its_brw, Pl.its_str, Pl.enum_tup, Pl.eq_int, Pl.ne_int, Pl.lt_int, Pl.le_int, Pl.gt_int, Pl.ge_int, Pl.add_int, Pl.sub_int, Pl.len_tup, Pl.len_own, Pl.len_brw, Pl.len_lst, Pl.idx_tup, Pl.idx_lst, Pl.idx_own, Pl.idx_brw, Pl.in_dic, Pl.nin_dic, Pl.idx_dic, Pl.is_non, Pl.isn_non, Pl.at_zero, Pl.at_one, sizeLine_eq, Nat.reduceAdd, Nat.reduceLeDiff, c1, decide_false]
      rw [isNm, decide_eq_false (show ¬ 1 ≤ z.length by omega)]
      simp
  | _ => simp only [Pl.runFn, List.length_cons, List.length_nil, Pl.startE_cons, Pl.startE_nil, Pl.repl_succ, List.replicate_zero, Nat.zero_add, Pl.execs, Pl.exec, Pl.evalT, Pl.evalE, Pl.evalVs, Pl.evalP, Pl.evalI, Pl.evalJ, List.getElem?_cons_zero, List.getElem?_cons_succ, Pl.Res.bind_ok, Pl.Res.bind_exc, Pl.Res.bind_stuck, Pl.Res.to_ok, Pl.Res.to_exc, Pl.Res.to_stuck, Pl.Res.calm_ok, Pl.SR.andThen_next, Pl.SR.andThen_ret, Pl.SR.andThen_brk, Pl.SR.andThen_cont, Pl.SR.andThen_exc, Pl.SR.andThen_stuck, Pl.gcE_self, Pl.gcX_self, Pl.optR_some, Pl.optR_none, Pl.EV.val_d, Pl.EV.val_own, Pl.EV.items_own, Pl.EV.items_brw, Pl.EV.items_lst, if_true, if_false, reduceIte, Bool.false_eq_true, Bool.not_true, Bool.not_false, List.set_cons_zero, List.set_cons_succ, Pl.wipeE, List.map_cons, List.map_nil, Pl.setE, Pl.bindT, Pl.bindNames, Nat.zero_lt_succ, Nat.succ_lt_succ_iff, Nat.lt_add_one, Pl.tru_bl, Pl.tru_int, Pl.its_tup, Pl.its_lst, Pl.its_own, Pl.its_brw, Pl.its_str, Pl.enum_tup, Pl.eq_int, Pl.ne_int, Pl.lt_int, Pl.le_int, Pl.gt_int, Pl.ge_int, Pl.add_int, Pl.sub_int, Pl.len_tup, Pl.len_own, Pl.len_brw, Pl.len_lst, Pl.idx_tup, Pl.idx_lst, Pl.idx_own, Pl.idx_brw, Pl.in_dic, Pl.nin_dic, Pl.idx_dic, Pl.is_non, Pl.isn_non, Pl.at_zero, Pl.at_one, sizeLine_eq, Nat.reduceAdd, Nat.reduceLeDiff, isStr] <;> rfl
theorem dep_in {xs : List D} {x : D} {k : Nat} (hx : x ∈ xs) (h : dep (.tup xs) ≤ k + 1) : dep x ≤ k := by
  have := deps_mem hx
  simp only [dep] at h
  omega
theorem s_is_row : ∀ (n k : Nat) (v : D) (S : Sto), sm v = true → dep v ≤ k → R (k + n + 2) "is_row" [v, .int n] S = .ok (.d (.bl (isRw n v))) S := by
  intro n
  induction n with
  | zero =>
    intro k v S h hd
    rw [show k + 0 + 2 = (k + 1) + 1 from rfl, R_is_row]
    unfold n_is_row
    simp only [Pl.runFn, List.length_cons, List.length_nil, Pl.startE_cons, Pl.startE_nil, Pl.repl_succ, List.replicate_zero, Nat.zero_add, Pl.execs, Pl.exec, Pl.evalT, Pl.evalE, Pl.evalVs, Pl.evalP, Pl.evalI, Pl.evalJ, List.getElem?_cons_zero, List.getElem?_cons_succ, Pl.Res.bind_ok, Pl.Res.bind_exc, Pl.Res.bind_stuck, Pl.Res.to_ok, Pl.Res.to_exc, Pl.Res.to_stuck, Pl.Res.calm_ok, Pl.SR.andThen_next, Pl.SR.andThen_ret, Pl.SR.andThen_brk, Pl.SR.andThen_cont, Pl.SR.andThen_exc, Pl.SR.andThen_stuck, Pl.gcE_self, Pl.gcX_self, Pl.optR_some, Pl.optR_none, Pl.EV.val_d, Pl.EV.val_own, Pl.EV.items_own, Pl.EV.items_brw, Pl.EV.items_lst, if_true, if_false, reduceIte, Bool.false_eq_true, Bool.not_true, Bool.not_false, List.set_cons_zero, List.set_cons_succ, Pl.wipeE, List.map_cons, List.map_nil, Pl.setE, Pl.bindT, Pl.bindNames, Nat.zero_lt_succ, Nat.succ_lt_succ_iff, Nat.lt_add_one, Pl.tru_bl, Pl.tru_int, Pl.its_tup, Pl.its_lst, Pl.its_own, Pl.its_brw, Pl.its_str, Pl.enum_tup, Pl.eq_int, Pl.ne_int, Pl.lt_int, Pl.le_int, Pl.gt_int, Pl.ge_int, Pl.add_int, Pl.sub_int, Pl.len_tup, Pl.len_own, Pl.len_brw, Pl.len_lst, Pl.idx_tup, Pl.idx_lst, Pl.idx_own, Pl.idx_brw, Pl.in_dic, Pl.nin_dic, Pl.idx_dic, Pl.is_non, Pl.isn_non, Pl.at_zero, Pl.at_one, sizeLine_eq, Nat.reduceAdd, Nat.reduceLeDiff, show ((0 : Nat) : Int) = 0 from rfl, decide_true]
    rw [s_is_element k v S h hd]
    simp only [Pl.runFn, List.length_cons, List.length_nil, Pl.startE_cons, Pl.startE_nil, Pl.repl_succ, List.replicate_zero, Nat.zero_add, Pl.execs, Pl.exec, Pl.evalT, Pl.evalE, Pl.evalVs, Pl.evalP, Pl.evalI, Pl.evalJ, List.getElem?_cons_zero, List.getElem?_cons_succ, Pl.Res.bind_ok, Pl.Res.bind_exc, Pl.Res.bind_stuck, Pl.Res.to_ok, Pl.Res.to_exc, Pl.Res.to_stuck, Pl.Res.calm_ok, Pl.SR.andThen_next, Pl.SR.andThen_ret, Pl.SR.andThen_brk, Pl.SR.andThen_cont, Pl.SR.andThen_exc, Pl.SR.andThen_stuck, Pl.gcE_self, Pl.gcX_self, Pl.optR_some, Pl.optR_none, Pl.EV.val_d, Pl.EV.val_own, Pl.EV.items_own, Pl.EV.items_brw, Pl.EV.items_lst, if_true, if_false, reduceIte, Bool.false_eq_true, Bool.not_true, Bool.not_false, List.set_cons_zero, List.set_cons_succ, Pl.wipeE, List.map_cons, List.map_nil, Pl.setE, Pl.bindT, Pl.bindNames, Nat.zero_lt_succ, Nat.succ_lt_succ_iff, Nat.lt_add_one, Pl.tru_bl, Pl.tru_int, Pl.its_tup, Pl.its_lst, Pl.its_own, Pl.its_brw, Pl.its_str, Pl.enum_tup, Pl.eq_int, Pl.ne_int, Pl.lt_int, Pl.le_int, Pl.gt_int, Pl.ge_int, Pl.add_int, Pl.sub_int, Pl.len_tup, Pl.len_own, Pl.len_brw, Pl.len_lst, Pl.idx_tup, Pl.idx_lst, Pl.idx_own, Pl.idx_brw, Pl.in_dic, Pl.nin_dic, Pl.idx_dic, Pl.is_non, Pl.isn_non, Pl.at_zero, Pl.at_one, sizeLine_eq, Nat.reduceAdd, Nat.reduceLeDiff, isRw]
  | succ n ih =>
    intro k v S h hd
    rw [show k + (n + 1) + 2 = (k + n + 2) + 1 from rfl, R_is_row]
    unfold n_is_row
    have hne : ¬ (((n + 1 : Nat) : Int) = 0) := by omega
    simp only [Pl.runFn, List.length_cons, List.length_nil, Pl.startE_cons, Pl.startE_nil, Pl.repl_succ, List.replicate_zero, Nat.zero_add, Pl.execs, Pl.exec, Pl.evalT, Pl.evalE, Pl.evalVs, Pl.evalP, Pl.evalI, Pl.evalJ, List.getElem?_cons_zero, List.getElem?_cons_succ, Pl.Res.bind_ok, Pl.Res.bind_exc, Pl.Res.bind_stuck, Pl.Res.to_ok, Pl.Res.to_exc, Pl.Res.to_stuck, Pl.Res.calm_ok, Pl.SR.andThen_next, Pl.SR.andThen_ret, Pl.SR.andThen_brk, Pl.SR.andThen_cont, Pl.SR.andThen_exc, Pl.SR.andThen_stuck, Pl.gcE_self, Pl.gcX_self, Pl.optR_some, Pl.optR_none, Pl.EV.val_d, Pl.EV.val_own, Pl.EV.items_own, Pl.EV.items_brw, Pl.EV.items_lst, if_true, if_false, reduceIte, Bool.false_eq_true, Bool.not_true, Bool.not_false, List.set_cons_zero, List.set_cons_succ, Pl.wipeE, List.map_cons, List.map_nil, Pl.setE, Pl.bindT, Pl.bindNames, Nat.zero_lt_succ, Nat.succ_lt_succ_iff, Nat.lt_add_one, Pl.tru_bl, Pl.tru_int, Pl.its_tup, Pl.its_lst, Pl.its_own, Pl.its_brw, Pl.its_str, Pl.enum_tup, Pl.eq_int, Pl.ne_int, Pl.lt_int, Pl.le_int, Pl.gt_int, Pl.ge_int, Pl.add_int, Pl.sub_int, Pl.len_tup, Pl.len_own, Pl.len_brw, Pl.len_lst, Pl.idx_tup, Pl.idx_lst, Pl.idx_own, Pl.idx_brw, Pl.in_dic, Pl.nin_dic, Pl.idx_dic, Pl.is_non, Pl.isn_non, Pl.at_zero, Pl.at_one, sizeLine_eq, Nat.reduceAdd, Nat.reduceLeDiff, hne, decide_false, isi_tuple (sm_ty h)]
    cases v with
    | tup xs =>
      obtain ⟨h1, h2⟩ := sm_tup h
      simp only [Pl.runFn, List.length_cons, List.length_nil, Pl.startE_cons, Pl.startE_nil, Pl.repl_succ, List.replicate_zero, Nat.zero_add, Pl.execs, Pl.exec, Pl.evalT, Pl.evalE, Pl.evalVs, Pl.evalP, Pl.evalI, Pl.evalJ, List.getElem?_cons_zero, List.getElem?_cons_succ, Pl.Res.bind_ok, Pl.Res.bind_exc, Pl.Res.bind_stuck, Pl.Res.to_ok, Pl.Res.to_exc, Pl.Res.to_stuck, Pl.Res.calm_ok, Pl.SR.andThen_next, Pl.SR.andThen_ret, Pl.SR.andThen_brk, Pl.SR.andThen_cont, Pl.SR.andThen_exc, Pl.SR.andThen_stuck, Pl.gcE_self, Pl.gcX_self, Pl.optR_some, Pl.optR_none, Pl.EV.val_d, Pl.EV.val_own, Pl.EV.items_own, Pl.EV.items_brw, Pl.EV.items_lst, if_true, if_false, reduceIte, Bool.false_eq_true, Bool.not_true, Bool.not_false, List.set_cons_zero, List.set_cons_succ, Pl.wipeE, List.map_cons, List.map_nil, Pl.setE, Pl.bindT, Pl.bindNames, Nat.zero_lt_succ, Nat.succ_lt_succ_iff, Nat.lt_add_one, Pl.tru_bl, Pl.tru_int, Pl.its_tup, Pl.its_lst, Pl.its_own, Pl.its_brw, Pl.its_str, Pl.enum_tup, Pl.eq_int, Pl.ne_int, Pl.lt_int, Pl.le_int, Pl.gt_int, Pl.ge_int, Pl.add_int, Pl.sub_int, Pl.len_tup, Pl.len_own, Pl.len_brw, Pl.len_lst, Pl.idx_tup, Pl.idx_lst, Pl.idx_own, Pl.idx_brw, Pl.in_dic, Pl.nin_dic, Pl.idx_dic, Pl.is_non, Pl.isn_non, Pl.at_zero, Pl.at_one, sizeLine_eq, Nat.reduceAdd, Nat.reduceLeDiff, isTup]
      rw [comp_map (f := fun x => .bl (isRw n x)) rfl xs [] (by simpa using line100 h1) fun x hx => ⟨_, .d (.bl (isRw n x)), rfl, rfl, (by
        simp only [Pl.runFn, List.length_cons, List.length_nil, Pl.startE_cons, Pl.startE_nil, Pl.repl_succ, List.replicate_zero, Nat.zero_add, Pl.execs, Pl.exec, Pl.evalT, Pl.evalE, Pl.evalVs, Pl.evalP, Pl.evalI, Pl.evalJ, List.getElem?_cons_zero, List.getElem?_cons_succ, Pl.Res.bind_ok, Pl.Res.bind_exc, Pl.Res.bind_stuck, Pl.Res.to_ok, Pl.Res.to_exc, Pl.Res.to_stuck, Pl.Res.calm_ok, Pl.SR.andThen_next, Pl.SR.andThen_ret, Pl.SR.andThen_brk, Pl.SR.andThen_cont, Pl.SR.andThen_exc, Pl.SR.andThen_stuck, Pl.gcE_self, Pl.gcX_self, Pl.optR_some, Pl.optR_none, Pl.EV.val_d, Pl.EV.val_own, Pl.EV.items_own, Pl.EV.items_brw, Pl.EV.items_lst, if_true, if_false, reduceIte, Bool.false_eq_true, Bool.not_true, Bool.not_false, List.set_cons_zero, List.set_cons_succ, Pl.wipeE, List.map_cons, List.map_nil, Pl.setE, Pl.bindT, Pl.bindNames, Nat.zero_lt_succ, Nat.succ_lt_succ_iff, Nat.lt_add_one, Pl.tru_bl, Pl.tru_int, Pl.its_tup, Pl.its_lst, Pl.its_own, Pl.its_brw, Pl.its_str, Pl.enum_tup, Pl.eq_int, Pl.ne_int, Pl.lt_int, Pl.le_int, Pl.gt_int, Pl.ge_int, Pl.add_int, Pl.sub_int, Pl.len_tup, Pl.len_own, Pl.len_brw, Pl.len_lst, Pl.idx_tup, Pl.idx_lst, Pl.idx_own, Pl.idx_brw, Pl.in_dic, Pl.nin_dic, Pl.idx_dic, Pl.is_non, Pl.isn_non, Pl.at_zero, Pl.at_one, sizeLine_eq, Nat.reduceAdd, Nat.reduceLeDiff]
        rw [show ((n + 1 : Nat) : Int) - 1 = (n : Int) by omega]
        cases k with
        | zero => simp [dep] at hd
        | succ k => exact ih (k + 1) x S (sms_mem h2 hx) (by have := dep_in hx hd; omega)), rfl⟩]
      simp only [Pl.runFn, List.length_cons, List.length_nil, Pl.startE_cons, Pl.startE_nil, Pl.repl_succ, List.replicate_zero, Nat.zero_add, Pl.execs, Pl.exec, Pl.evalT, Pl.evalE, Pl.evalVs, Pl.evalP, Pl.evalI, Pl.evalJ, List.getElem?_cons_zero, List.getElem?_cons_succ, Pl.Res.bind_ok, Pl.Res.bind_exc, Pl.Res.bind_stuck, Pl.Res.to_ok, Pl.Res.to_exc, Pl.Res.to_stuck, Pl.Res.calm_ok, Pl.SR.andThen_next, Pl.SR.andThen_ret, Pl.SR.andThen_brk, Pl.SR.andThen_cont, Pl.SR.andThen_exc, Pl.SR.andThen_stuck, Pl.gcE_self, Pl.gcX_self, Pl.optR_some, Pl.optR_none, Pl.EV.val_d, Pl.EV.val_own, Pl.EV.items_own, Pl.EV.items_brw, Pl.EV.items_lst, if_true, if_false, reduceIte, Bool.false_eq_true, Bool.not_true, Bool.not_false, List.set_cons_zero, List.set_cons_succ, Pl.wipeE, List.map_cons, List.map_nil, Pl.setE, Pl.bindT, Pl.bindNames, Nat.zero_lt_succ, Nat.succ_lt_succ_iff, Nat.lt_add_one, Pl.tru_bl, Pl.tru_int, Pl.its_tup, Pl.its_lst, Pl.its_own, Pl.its_brw, Pl.its_str, Pl.enum_tup, Pl.eq_int, Pl.ne_int, Pl.lt_int, Pl.le_int, Pl.gt_int, Pl.ge_int, Pl.add_int, Pl.sub_int, Pl.len_tup, Pl.len_own, Pl.len_brw, Pl.len_lst, Pl.idx_tup, Pl.idx_lst, Pl.idx_own, Pl.idx_brw, Pl.in_dic, Pl.nin_dic, Pl.idx_dic, Pl.is_non, Pl.isn_non, Pl.at_zero, Pl.at_one, sizeLine_eq, Nat.reduceAdd, Nat.reduceLeDiff, List.nil_append, map_bl, all_own, all_id]
      rfl
    | _ => simp only [Pl.runFn, List.length_cons, List.length_nil, Pl.startE_cons, Pl.startE_nil, Pl.repl_succ, List.replicate_zero, Nat.zero_add, Pl.execs, Pl.exec, Pl.evalT, Pl.evalE, Pl.evalVs, Pl.evalP, Pl.evalI, Pl.evalJ, List.getElem?_cons_zero, List.getElem?_cons_succ, Pl.Res.bind_ok, Pl.Res.bind_exc, Pl.Res.bind_stuck, Pl.Res.to_ok, Pl.Res.to_exc, Pl.Res.to_stuck, Pl.Res.calm_ok, Pl.SR.andThen_next, Pl.SR.andThen_ret, Pl.SR.andThen_brk, Pl.SR.andThen_cont, Pl.SR.andThen_exc, Pl.SR.andThen_stuck, Pl.gcE_self, Pl.gcX_self, Pl.optR_some, Pl.optR_none, Pl.EV.val_d, Pl.EV.val_own, Pl.EV.items_own, Pl.EV.items_brw, Pl.EV.items_lst, if_true, if_false, reduceIte, Bool.false_eq_true, Bool.not_true, Bool.not_false, List.set_cons_zero, List.set_cons_succ, Pl.wipeE, List.map_cons, List.map_nil, Pl.setE, Pl.bindT, Pl.bindNames, Nat.zero_lt_succ, Nat.succ_lt_succ_iff, Nat.lt_add_one, Pl.tru_bl, Pl.tru_int, Pl.its_tup, Pl.its_lst, Pl.its_own, Pl.its_brw, Pl.its_str, Pl.enum_tup, Pl.eq_int, Pl.ne_int, Pl.lt_int, Pl.le_int, Pl.gt_int, Pl.ge_int, Pl.add_int, Pl.sub_int, Pl.len_tup, Pl.len_own, Pl.len_brw, Pl.len_lst, Pl.idx_tup, Pl.idx_lst, Pl.idx_own, Pl.idx_brw, Pl.in_dic, Pl.nin_dic, Pl.idx_dic, Pl.is_non, Pl.isn_non, Pl.at_zero, Pl.at_one, sizeLine_eq, Nat.reduceAdd, Nat.reduceLeDiff, isTup] <;> rfl
theorem s_is_plain : ∀ (n k : Nat) (v : D) (S : Sto), sm v = true → R (k + n + 1) "is_plain" [v, .int n] S = .ok (.d (.bl (isPl n v))) S := by
  intro n
  induction n with
  | zero =>
    intro k v S h
    rw [show k + 0 + 1 = k + 1 from rfl, R_is_plain]
    unfold n_is_plain
    simp only [Pl.runFn, List.length_cons, List.length_nil, Pl.startE_cons, Pl.startE_nil, Pl.repl_succ, List.replicate_zero, Nat.zero_add, Pl.execs, Pl.exec, Pl.evalT, Pl.evalE, Pl.evalVs, Pl.evalP, Pl.evalI, Pl.evalJ, List.getElem?_cons_zero, List.getElem?_cons_succ, Pl.Res.bind_ok, Pl.Res.bind_exc, Pl.Res.bind_stuck, Pl.Res.to_ok, Pl.Res.to_exc, Pl.Res.to_stuck, Pl.Res.calm_ok, Pl.SR.andThen_next, Pl.SR.andThen_ret, Pl.SR.andThen_brk, Pl.SR.andThen_cont, Pl.SR.andThen_exc, Pl.SR.andThen_stuck, Pl.gcE_self, Pl.gcX_self, Pl.optR_some, Pl.optR_none, Pl.EV.val_d, Pl.EV.val_own, Pl.EV.items_own, Pl.EV.items_brw, Pl.EV.items_lst, if_true, if_false, reduceIte, Bool.false_eq_true, Bool.not_true, Bool.not_false, List.set_cons_zero, List.set_cons_succ, Pl.wipeE, List.map_cons, List.map_nil, Pl.setE, Pl.bindT, Pl.bindNames, Nat.zero_lt_succ, Nat.succ_lt_succ_iff, Nat.lt_add_one, Pl.tru_bl, Pl.tru_int, Pl.its_tup, Pl.its_lst, Pl.its_own, Pl.its_brw, Pl.its_str, Pl.enum_tup, Pl.eq_int, Pl.ne_int, Pl.lt_int, Pl.le_int, Pl.gt_int, Pl.ge_int, Pl.add_int, Pl.sub_int, Pl.len_tup, Pl.len_own, Pl.len_brw, Pl.len_lst, Pl.idx_tup, Pl.idx_lst, Pl.idx_own, Pl.idx_brw, Pl.in_dic, Pl.nin_dic, Pl.idx_dic, Pl.is_non, Pl.isn_non, Pl.at_zero, Pl.at_one, sizeLine_eq, Nat.reduceAdd, Nat.reduceLeDiff, show ((0 : Nat) : Int) = 0 from rfl, decide_true, isi_int (sm_ty h), isPl]
  | succ n ih =>
    intro k v S h
    rw [show k + (n + 1) + 1 = (k + n + 1) + 1 from rfl, R_is_plain]
    unfold n_is_plain
    have hne : ¬ (((n + 1 : Nat) : Int) = 0) := by omega
    simp only [Pl.runFn, List.length_cons, List.length_nil, Pl.startE_cons, Pl.startE_nil, Pl.repl_succ, List.replicate_zero, Nat.zero_add, Pl.execs, Pl.exec, Pl.evalT, Pl.evalE, Pl.evalVs, Pl.evalP, Pl.evalI, Pl.evalJ, List.getElem?_cons_zero, List.getElem?_cons_succ, Pl.Res.bind_ok, Pl.Res.bind_exc, Pl.Res.bind_stuck, Pl.Res.to_ok, Pl.Res.to_exc, Pl.Res.to_stuck, Pl.Res.calm_ok, Pl.SR.andThen_next, Pl.SR.andThen_ret, Pl.SR.andThen_brk, Pl.SR.andThen_cont, Pl.SR.andThen_exc, Pl.SR.andThen_stuck, Pl.gcE_self, Pl.gcX_self, Pl.optR_some, Pl.optR_none, Pl.EV.val_d, Pl.EV.val_own, Pl.EV.items_own, Pl.EV.items_brw, Pl.EV.items_lst, if_true, if_false, reduceIte, Bool.false_eq_true, Bool.not_true, Bool.not_false, List.set_cons_zero, List.set_cons_succ, Pl.wipeE, List.map_cons, List.map_nil, Pl.setE, Pl.bindT, Pl.bindNames, Nat.zero_lt_succ, Nat.succ_lt_succ_iff, Nat.lt_add_one, Pl.tru_bl, Pl.tru_int, Pl.its_tup, Pl.its_lst, Pl.its_own, Pl.its_brw, Pl.its_str, Pl.enum_tup, Pl.eq_int, Pl.ne_int, Pl.lt_int, Pl.le_int, Pl.gt_int, Pl.ge_int, Pl.add_int, Pl.sub_int, Pl.len_tup, Pl.len_own, Pl.len_brw, Pl.len_lst, Pl.idx_tup, Pl.idx_lst, Pl.idx_own, Pl.idx_brw, Pl.in_dic, Pl.nin_dic, Pl.idx_dic, Pl.is_non, Pl.isn_non, Pl.at_zero, Pl.at_one, sizeLine_eq, Nat.reduceAdd, Nat.reduceLeDiff, hne, decide_false, isi_tuple (sm_ty h)]
    cases v with
    | tup xs =>
      obtain ⟨h1, h2⟩ := sm_tup h
      simp only [Pl.runFn, List.length_cons, List.length_nil, Pl.startE_cons, Pl.startE_nil, Pl.repl_succ, List.replicate_zero, Nat.zero_add, Pl.execs, Pl.exec, Pl.evalT, Pl.evalE, Pl.evalVs, Pl.evalP, Pl.evalI, Pl.evalJ, List.getElem?_cons_zero, List.getElem?_cons_succ, Pl.Res.bind_ok, Pl.Res.bind_exc, Pl.Res.bind_stuck, Pl.Res.to_ok, Pl.Res.to_exc, Pl.Res.to_stuck, Pl.Res.calm_ok, Pl.SR.andThen_next, Pl.SR.andThen_ret, Pl.SR.andThen_brk, Pl.SR.andThen_cont, Pl.SR.andThen_exc, Pl.SR.andThen_stuck, Pl.gcE_self, Pl.gcX_self, Pl.optR_some, Pl.optR_none, Pl.EV.val_d, Pl.EV.val_own, Pl.EV.items_own, Pl.EV.items_brw, Pl.EV.items_lst, if_true, if_false, reduceIte, Bool.false_eq_true, Bool.not_true, Bool.not_false, List.set_cons_zero, List.set_cons_succ, Pl.wipeE, List.map_cons, List.map_nil, Pl.setE, Pl.bindT, Pl.bindNames, Nat.zero_lt_succ, Nat.succ_lt_succ_iff, Nat.lt_add_one, Pl.tru_bl, Pl.tru_int, Pl.its_tup, Pl.its_lst, Pl.its_own, Pl.its_brw, Pl.its_str, Pl.enum_tup, Pl.eq_int, Pl.ne_int, Pl.lt_int, Pl.le_int, Pl.gt_int, Pl.ge_int, Pl.add_int, Pl.sub_int, Pl.len_tup, Pl.len_own, Pl.len_brw, Pl.len_lst, Pl.idx_tup, Pl.idx_lst, Pl.idx_own, Pl.idx_brw, Pl.in_dic, Pl.nin_dic, Pl.idx_dic, Pl.is_non, Pl.isn_non, Pl.at_zero, Pl.at_one, sizeLine_eq, Nat.reduceAdd, Nat.reduceLeDiff, isTup]
      rw [comp_map (f := fun x => .bl (isPl n x)) rfl xs [] (by simpa using line100 h1) fun x hx => ⟨_, _, rfl, rfl, (by
        simp only [Pl.runFn, List.length_cons, List.length_nil, Pl.startE_cons, Pl.startE_nil, Pl.repl_succ, List.replicate_zero, Nat.zero_add, Pl.execs, Pl.exec, Pl.evalT, Pl.evalE, Pl.evalVs, Pl.evalP, Pl.evalI, Pl.evalJ, List.getElem?_cons_zero, List.getElem?_cons_succ, Pl.Res.bind_ok, Pl.Res.bind_exc, Pl.Res.bind_stuck, Pl.Res.to_ok, Pl.Res.to_exc, Pl.Res.to_stuck, Pl.Res.calm_ok, Pl.SR.andThen_next, Pl.SR.andThen_ret, Pl.SR.andThen_brk, Pl.SR.andThen_cont, Pl.SR.andThen_exc, Pl.SR.andThen_stuck, Pl.gcE_self, Pl.gcX_self, Pl.optR_some, Pl.optR_none, Pl.EV.val_d, Pl.EV.val_own, Pl.EV.items_own, Pl.EV.items_brw, Pl.EV.items_lst, if_true, if_false, reduceIte, Bool.false_eq_true, Bool.not_true, Bool.not_false, List.set_cons_zero, List.set_cons_succ, Pl.wipeE, List.map_cons, List.map_nil, Pl.setE, Pl.bindT, Pl.bindNames, Nat.zero_lt_succ, Nat.succ_lt_succ_iff, Nat.lt_add_one, Pl.tru_bl, Pl.tru_int, Pl.its_tup, Pl.its_lst, Pl.its_own, Pl.its_brw, Pl.its_str, Pl.enum_tup, Pl.eq_int, Pl.ne_int, Pl.lt_int, Pl.le_int, Pl.gt_int, Pl.ge_int, Pl.add_int, Pl.sub_int, Pl.len_tup, Pl.len_own, Pl.len_brw, Pl.len_lst, Pl.idx_tup, Pl.idx_lst, Pl.idx_own, Pl.idx_brw, Pl.in_dic, Pl.nin_dic, Pl.idx_dic, Pl.is_non, Pl.isn_non, Pl.at_zero, Pl.at_one, sizeLine_eq, Nat.reduceAdd, Nat.reduceLeDiff]
        rw [show ((n + 1 : Nat) : Int) - 1 = (n : Int) by omega]
        exact ih k x S (sms_mem h2 hx)), rfl⟩]
      simp only [Pl.runFn, List.length_cons, List.length_nil, Pl.startE_cons, Pl.startE_nil, Pl.repl_succ, List.replicate_zero, Nat.zero_add, Pl.execs, Pl.exec, Pl.evalT, Pl.evalE, Pl.evalVs, Pl.evalP, Pl.evalI, Pl.evalJ, List.getElem?_cons_zero, List.getElem?_cons_succ, Pl.Res.bind_ok, Pl.Res.bind_exc, Pl.Res.bind_stuck, Pl.Res.to_ok, Pl.Res.to_exc, Pl.Res.to_stuck, Pl.Res.calm_ok, Pl.SR.andThen_next, Pl.SR.andThen_ret, Pl.SR.andThen_brk, Pl.SR.andThen_cont, Pl.SR.andThen_exc, Pl.SR.andThen_stuck, Pl.gcE_self, Pl.gcX_self, Pl.optR_some, Pl.optR_none, Pl.EV.val_d, Pl.EV.val_own, Pl.EV.items_own, Pl.EV.items_brw, Pl.EV.items_lst, if_true, if_false, reduceIte, Bool.false_eq_true, Bool.not_true, Bool.not_false, List.set_cons_zero, List.set_cons_succ, Pl.wipeE, List.map_cons, List.map_nil, Pl.setE, Pl.bindT, Pl.bindNames, Nat.zero_lt_succ, Nat.succ_lt_succ_iff, Nat.lt_add_one, Pl.tru_bl, Pl.tru_int, Pl.its_tup, Pl.its_lst, Pl.its_own, Pl.its_brw, Pl.its_str, Pl.enum_tup, Pl.eq_int, Pl.ne_int, Pl.lt_int, Pl.le_int, Pl.gt_int, Pl.ge_int, Pl.add_int, Pl.sub_int, Pl.len_tup, Pl.len_own, Pl.len_brw, Pl.len_lst, Pl.idx_tup, Pl.idx_lst, Pl.idx_own, Pl.idx_brw, Pl.in_dic, Pl.nin_dic, Pl.idx_dic, Pl.is_non, Pl.isn_non, Pl.at_zero, Pl.at_one, sizeLine_eq, Nat.reduceAdd, Nat.reduceLeDiff, List.nil_append, map_bl, all_own, all_id]
      rfl
    | _ => simp only [Pl.runFn, List.length_cons, List.length_nil, Pl.startE_cons, Pl.startE_nil, Pl.repl_succ, List.replicate_zero, Nat.zero_add, Pl.execs, Pl.exec, Pl.evalT, Pl.evalE, Pl.evalVs, Pl.evalP, Pl.evalI, Pl.evalJ, List.getElem?_cons_zero, List.getElem?_cons_succ, Pl.Res.bind_ok, Pl.Res.bind_exc, Pl.Res.bind_stuck, Pl.Res.to_ok, Pl.Res.to_exc, Pl.Res.to_stuck, Pl.Res.calm_ok, Pl.SR.andThen_next, Pl.SR.andThen_ret, Pl.SR.andThen_brk, Pl.SR.andThen_cont, Pl.SR.andThen_exc, Pl.SR.andThen_stuck, Pl.gcE_self, Pl.gcX_self, Pl.optR_some, Pl.optR_none, Pl.EV.val_d, Pl.EV.val_own, Pl.EV.items_own, Pl.EV.items_brw, Pl.EV.items_lst, if_true, if_false, reduceIte, Bool.false_eq_true, Bool.not_true, Bool.not_false, List.set_cons_zero, List.set_cons_succ, Pl.wipeE, List.map_cons, List.map_nil, Pl.setE, Pl.bindT, Pl.bindNames, Nat.zero_lt_succ, Nat.succ_lt_succ_iff, Nat.lt_add_one, Pl.tru_bl, Pl.tru_int, Pl.its_tup, Pl.its_lst, Pl.its_own, Pl.its_brw, Pl.its_str, Pl.enum_tup, Pl.eq_int, Pl.ne_int, Pl.lt_int, Pl.le_int, Pl.gt_int, Pl.ge_int, Pl.add_int, Pl.sub_int, Pl.len_tup, Pl.len_own, Pl.len_brw, Pl.len_lst, Pl.idx_tup, Pl.idx_lst, Pl.idx_own, Pl.idx_brw, Pl.in_dic, Pl.nin_dic, Pl.idx_dic, Pl.is_non, Pl.isn_non, Pl.at_zero, Pl.at_one, sizeLine_eq, Nat.reduceAdd, Nat.reduceLeDiff, isTup] <;> rfl
end K20
end

section
set_option Elab.async false
set_option linter.all false
set_option maxRecDepth 100000
/-! k20: is_written, the tables. -/
namespace K20
open PySem hiding exec execs
open L2 Pl
def sK : List Str := ["kind", "term", "formula", "derivation"]
def sD : List D := [dKINDS, dTERMS, dFORMULAS, dDERIVATIONS]
theorem look_SORTS : gd.consts.lookup ("SORTS" : Str) = some (D.dic sK sD) := rfl
def leaves : List Str := ["name", "elements", "lists", "number", "numbers", "rows"]
def tab (sort : Str) : Option (List Str × List D) := match (sK.zip sD).lookup sort with
  | some (.dic ws rs) => some (ws, rs)
  | _ => none
def rowOf (sort w : Str) : Option (List D) := match tab sort with
  | some (ws, rs) => (match (ws.zip rs).lookup w with
    | some (.tup ss) => some ss
    | _ => none)
  | none => none
def tabsOk : Bool := sK.all fun s => match tab s with
  | some (ws, rs) => decide (ws.length = rs.length) && ws.all fun w => PyData.strOk w && decide (w.length ≤ 20) && match rowOf s w with
    | some ss => decide (ss.length ≤ 5) && ss.all fun x => match x with
      | .str z => sK.contains z || leaves.contains z
      | _ => false
    | none => false
  | none => false
theorem tabs_ok : tabsOk = true := by decide +kernel
theorem tab_in {s : Str} (h : s ∈ sK) : ∃ ws rs, (sK.zip sD).lookup s = some (.dic ws rs) ∧ tab s = some (ws, rs) ∧ ws.length = rs.length ∧ ∀ w, w ∈ ws → ∃ ss, (ws.zip rs).lookup w = some (.tup ss) ∧ rowOf s w = some ss ∧ ss.length ≤ 5 ∧ ∀ x, x ∈ ss → ∃ z, x = .str z ∧ (z ∈ sK ∨ z ∈ leaves) := by
  have q := List.all_eq_true.mp tabs_ok s h
  split at q
  · rename_i ws rs e
    simp only [Bool.and_eq_true, decide_eq_true_eq, List.all_eq_true] at q
    obtain ⟨q1, q2⟩ := q
    have e0 := e
    unfold tab at e0
    split at e0
    · rename_i ws' rs' e1
      cases e0
      refine ⟨ws, rs, e1, e, q1, fun w hw => ?_⟩
      obtain ⟨⟨q3, q4⟩, q5⟩ := q2 w hw
      split at q5
      · rename_i ss er
        simp only [Bool.and_eq_true, decide_eq_true_eq, List.all_eq_true] at q5
        obtain ⟨q6, q7⟩ := q5
        have er0 := er
        unfold rowOf at er0
        rw [e] at er0
        simp only at er0
        split at er0
        · rename_i ss' e2
          cases er0
          refine ⟨ss, e2, er, q6, fun x hx => ?_⟩
          have q8 := q7 x hx
          split at q8
          · rename_i z
            simp only [Bool.or_eq_true, List.contains_iff_mem] at q8
            exact ⟨z, rfl, q8⟩
          · cases q8
        · cases er0
      · cases q5
    · cases e0
  · cases q
theorem okZ_sorts : (sK ++ leaves).all (fun z => PyData.strOk z) = true := by decide +kernel
theorem okZ_sort {s : Str} (h : s ∈ sK ∨ s ∈ leaves) : okZ s := List.all_eq_true.mp okZ_sorts s (by simpa using h)
theorem tab_none {s : Str} (h : s ∈ leaves) : (sK.zip sD).lookup s = none ∧ sK.contains s = false ∧ tab s = none := by
  simp only [leaves, List.mem_cons, List.not_mem_nil, or_false] at h
  rcases h with rfl | rfl | rfl | rfl | rfl | rfl <;> refine ⟨?_, ?_, ?_⟩ <;> decide +kernel
def leafWr (sort : Str) (v : D) : Bool := if sort = "name" then isNm v else if sort = "elements" then isRw 1 v else if sort = "lists" then isRw 2 v else if sort = "number" then isPl 0 v else if sort = "numbers" then isPl 1 v else isPl 2 v
def wrP (f : D → Str → Bool) (args : List D) : D → Bool
  | .tup [.int i, .str s] => f (args.getD i.toNat .non) s
  | _ => false
def ndWr (f : D → Str → Bool) (sort : Str) : D → Bool
  | .tup (.str w :: args) => (match rowOf sort w with
    | some ss => decide (ss.length = args.length) && (enumD ss).all (wrP f args)
    | none => false)
  | _ => false
def isWr : Nat → D → Str → Bool
  | 0, _, _ => false
  | n + 1, v, sort => (match tab sort with
    | some _ => ndWr (isWr n) sort v
    | none => leafWr sort v)
theorem isWr_node {n : Nat} {v : D} {sort : Str} {t : List Str × List D} (h : tab sort = some t) : isWr (n + 1) v sort = ndWr (isWr n) sort v := by rw [isWr, h]
theorem isWr_leaf {n : Nat} {v : D} {sort : Str} (h : tab sort = none) : isWr (n + 1) v sort = leafWr sort v := by rw [isWr, h]
theorem mem_enumD {xs : List D} {p : D} (h : p ∈ enumD xs) : ∃ (i : Nat) (x : D), p = .tup [.int (i : Nat), x] ∧ xs[i]? = some x := by
  obtain ⟨i, hi, e⟩ := List.mem_iff_getElem.mp h
  have e2 : (enumD xs)[i]? = some p := by rw [List.getElem?_eq_getElem hi, e]
  obtain ⟨x, e3, e4⟩ := enumD_get e2
  exact ⟨i, x, e4, e3⟩
theorem len0 {n : Nat} : ¬ ((n + 1 : Nat) : Int) = 0 := by omega
theorem lookS (ks : List Str) (ds : List D) (w : Str) (hl : ks.length = ds.length) : ((ks.zip ds).lookup w).isSome = ks.contains w := zip_lookup_isSome hl
theorem s_is_written : ∀ (n : Nat) (v : D) (sort : Str) (S : Sto), sm v = true → dep v ≤ n → (sort ∈ sK ∨ sort ∈ leaves) → R (n + 6) "is_written" [v, .str sort] S = .ok (.d (.bl (isWr (n + 1) v sort))) S := by
  intro n
  induction n using Nat.strongRecOn with
  | ind n ih =>
    intro v sort S h hd hs
    rw [show n + 6 = (n + 5) + 1 from rfl, R_is_written]
    unfold n_is_written
    simp only [Pl.runFn, List.length_cons, List.length_nil, Pl.startE_cons, Pl.startE_nil, Pl.repl_succ, List.replicate_zero, Nat.zero_add, Pl.execs, Pl.exec, Pl.evalT, Pl.evalE, Pl.evalVs, Pl.evalP, Pl.evalI, Pl.evalJ, List.getElem?_cons_zero, List.getElem?_cons_succ, Pl.Res.bind_ok, Pl.Res.bind_exc, Pl.Res.bind_stuck, Pl.Res.to_ok, Pl.Res.to_exc, Pl.Res.to_stuck, Pl.Res.calm_ok, Pl.SR.andThen_next, Pl.SR.andThen_ret, Pl.SR.andThen_brk, Pl.SR.andThen_cont, Pl.SR.andThen_exc, Pl.SR.andThen_stuck, Pl.gcE_self, Pl.gcX_self, Pl.optR_some, Pl.optR_none, Pl.EV.val_d, Pl.EV.val_own, Pl.EV.items_own, Pl.EV.items_brw, Pl.EV.items_lst, if_true, if_false, reduceIte, Bool.false_eq_true, Bool.not_true, Bool.not_false, List.set_cons_zero, List.set_cons_succ, Pl.wipeE, List.map_cons, List.map_nil, Pl.setE, Pl.bindT, Pl.bindNames, Nat.zero_lt_succ, Nat.succ_lt_succ_iff, Nat.lt_add_one, Pl.tru_bl, Pl.tru_int, Pl.its_tup, Pl.its_lst, Pl.its_own, Pl.its_brw, Pl.its_str, Pl.enum_tup, Pl.eq_int, Pl.ne_int, Pl.lt_int, Pl.le_int, Pl.gt_int, Pl.ge_int, Pl.add_int, Pl.sub_int, Pl.len_tup, Pl.len_own, Pl.len_brw, Pl.len_lst, Pl.idx_tup, Pl.idx_lst, Pl.idx_own, Pl.idx_brw, Pl.in_dic, Pl.nin_dic, Pl.idx_dic, Pl.is_non, Pl.isn_non, Pl.at_zero, Pl.at_one, sizeLine_eq, Nat.reduceAdd, Nat.reduceLeDiff, look_SORTS]
    by_cases hin : sort ∈ sK
    · obtain ⟨ws, rs, e1, e2, e3, e4⟩ := tab_in hin
      have c : sK.contains sort = true := List.contains_iff_mem.mpr hin
      simp only [Pl.runFn, List.length_cons, List.length_nil, Pl.startE_cons, Pl.startE_nil, Pl.repl_succ, List.replicate_zero, Nat.zero_add, Pl.execs, Pl.exec, Pl.evalT, Pl.evalE, Pl.evalVs, Pl.evalP, Pl.evalI, Pl.evalJ, List.getElem?_cons_zero, List.getElem?_cons_succ, Pl.Res.bind_ok, Pl.Res.bind_exc, Pl.Res.bind_stuck, Pl.Res.to_ok, Pl.Res.to_exc, Pl.Res.to_stuck, Pl.Res.calm_ok, Pl.SR.andThen_next, Pl.SR.andThen_ret, Pl.SR.andThen_brk, Pl.SR.andThen_cont, Pl.SR.andThen_exc, Pl.SR.andThen_stuck, Pl.gcE_self, Pl.gcX_self, Pl.optR_some, Pl.optR_none, Pl.EV.val_d, Pl.EV.val_own, Pl.EV.items_own, Pl.EV.items_brw, Pl.EV.items_lst, if_true, if_false, reduceIte, Bool.false_eq_true, Bool.not_true, Bool.not_false, List.set_cons_zero, List.set_cons_succ, Pl.wipeE, List.map_cons, List.map_nil, Pl.setE, Pl.bindT, Pl.bindNames, Nat.zero_lt_succ, Nat.succ_lt_succ_iff, Nat.lt_add_one, Pl.tru_bl, Pl.tru_int, Pl.its_tup, Pl.its_lst, Pl.its_own, Pl.its_brw, Pl.its_str, Pl.enum_tup, Pl.eq_int, Pl.ne_int, Pl.lt_int, Pl.le_int, Pl.gt_int, Pl.ge_int, Pl.add_int, Pl.sub_int, Pl.len_tup, Pl.len_own, Pl.len_brw, Pl.len_lst, Pl.idx_tup, Pl.idx_lst, Pl.idx_own, Pl.idx_brw, Pl.in_dic, Pl.nin_dic, Pl.idx_dic, Pl.is_non, Pl.isn_non, Pl.at_zero, Pl.at_one, sizeLine_eq, Nat.reduceAdd, Nat.reduceLeDiff, c, isi_tuple (sm_ty h), e1]
      rw [isWr_node e2]
      cases v with
      | tup xs =>
        obtain ⟨h1, h2⟩ := sm_tup h
        cases xs with
        | nil => simp only [Pl.runFn, List.length_cons, List.length_nil, Pl.startE_cons, Pl.startE_nil, Pl.repl_succ, List.replicate_zero, Nat.zero_add, Pl.execs, Pl.exec, Pl.evalT, Pl.evalE, Pl.evalVs, Pl.evalP, Pl.evalI, Pl.evalJ, List.getElem?_cons_zero, List.getElem?_cons_succ, Pl.Res.bind_ok, Pl.Res.bind_exc, Pl.Res.bind_stuck, Pl.Res.to_ok, Pl.Res.to_exc, Pl.Res.to_stuck, Pl.Res.calm_ok, Pl.SR.andThen_next, Pl.SR.andThen_ret, Pl.SR.andThen_brk, Pl.SR.andThen_cont, Pl.SR.andThen_exc, Pl.SR.andThen_stuck, Pl.gcE_self, Pl.gcX_self, Pl.optR_some, Pl.optR_none, Pl.EV.val_d, Pl.EV.val_own, Pl.EV.items_own, Pl.EV.items_brw, Pl.EV.items_lst, if_true, if_false, reduceIte, Bool.false_eq_true, Bool.not_true, Bool.not_false, List.set_cons_zero, List.set_cons_succ, Pl.wipeE, List.map_cons, List.map_nil, Pl.setE, Pl.bindT, Pl.bindNames, Nat.zero_lt_succ, Nat.succ_lt_succ_iff, Nat.lt_add_one, Pl.tru_bl, Pl.tru_int, Pl.its_tup, Pl.its_lst, Pl.its_own, Pl.its_brw, Pl.its_str, Pl.enum_tup, Pl.eq_int, Pl.ne_int, Pl.lt_int, Pl.le_int, Pl.gt_int, Pl.ge_int, Pl.add_int, Pl.sub_int, Pl.len_tup, Pl.len_own, Pl.len_brw, Pl.len_lst, Pl.idx_tup, Pl.idx_lst, Pl.idx_own, Pl.idx_brw, Pl.in_dic, Pl.nin_dic, Pl.idx_dic, Pl.is_non, Pl.isn_non, Pl.at_zero, Pl.at_one, sizeLine_eq, Nat.reduceAdd, Nat.reduceLeDiff, isTup, show ((0 : Nat) : Int) = 0 from rfl, decide_true, ndWr]
        | cons x xs =>
          have hx := sms_mem h2 (List.mem_cons_self)
          simp only [Pl.runFn, List.length_cons, List.length_nil, Pl.startE_cons, Pl.startE_nil, Pl.repl_succ, List.replicate_zero, Nat.zero_add, Pl.execs, Pl.exec, Pl.evalT, Pl.evalE, Pl.evalVs, Pl.evalP, Pl.evalI, Pl.evalJ, List.getElem?_cons_zero, List.getElem?_cons_succ, Pl.Res.bind_ok, Pl.Res.bind_exc, Pl.Res.bind_stuck, Pl.Res.to_ok, Pl.Res.to_exc, Pl.Res.to_stuck, Pl.Res.calm_ok, Pl.SR.andThen_next, Pl.SR.andThen_ret, Pl.SR.andThen_brk, Pl.SR.andThen_cont, Pl.SR.andThen_exc, Pl.SR.andThen_stuck, Pl.gcE_self, Pl.gcX_self, Pl.optR_some, Pl.optR_none, Pl.EV.val_d, Pl.EV.val_own, Pl.EV.items_own, Pl.EV.items_brw, Pl.EV.items_lst, if_true, if_false, reduceIte, Bool.false_eq_true, Bool.not_true, Bool.not_false, List.set_cons_zero, List.set_cons_succ, Pl.wipeE, List.map_cons, List.map_nil, Pl.setE, Pl.bindT, Pl.bindNames, Nat.zero_lt_succ, Nat.succ_lt_succ_iff, Nat.lt_add_one, Pl.tru_bl, Pl.tru_int, Pl.its_tup, Pl.its_lst, Pl.its_own, Pl.its_brw, Pl.its_str, Pl.enum_tup, Pl.eq_int, Pl.ne_int, Pl.lt_int, Pl.le_int, Pl.gt_int, Pl.ge_int, Pl.add_int, Pl.sub_int, Pl.len_tup, Pl.len_own, Pl.len_brw, Pl.len_lst, Pl.idx_tup, Pl.idx_lst, Pl.idx_own, Pl.idx_brw, Pl.in_dic, Pl.nin_dic, Pl.idx_dic, Pl.is_non, Pl.isn_non, Pl.at_zero, Pl.at_one, sizeLine_eq, Nat.reduceAdd, Nat.reduceLeDiff, isTup, len0, decide_false, isi_str (sm_ty hx)]
          cases x with
          | str w =>
            simp only [Pl.runFn, List.length_cons, List.length_nil, Pl.startE_cons, Pl.startE_nil, Pl.repl_succ, List.replicate_zero, Nat.zero_add, Pl.execs, Pl.exec, Pl.evalT, Pl.evalE, Pl.evalVs, Pl.evalP, Pl.evalI, Pl.evalJ, List.getElem?_cons_zero, List.getElem?_cons_succ, Pl.Res.bind_ok, Pl.Res.bind_exc, Pl.Res.bind_stuck, Pl.Res.to_ok, Pl.Res.to_exc, Pl.Res.to_stuck, Pl.Res.calm_ok, Pl.SR.andThen_next, Pl.SR.andThen_ret, Pl.SR.andThen_brk, Pl.SR.andThen_cont, Pl.SR.andThen_exc, Pl.SR.andThen_stuck, Pl.gcE_self, Pl.gcX_self, Pl.optR_some, Pl.optR_none, Pl.EV.val_d, Pl.EV.val_own, Pl.EV.items_own, Pl.EV.items_brw, Pl.EV.items_lst, if_true, if_false, reduceIte, Bool.false_eq_true, Bool.not_true, Bool.not_false, List.set_cons_zero, List.set_cons_succ, Pl.wipeE, List.map_cons, List.map_nil, Pl.setE, Pl.bindT, Pl.bindNames, Nat.zero_lt_succ, Nat.succ_lt_succ_iff, Nat.lt_add_one, Pl.tru_bl, Pl.tru_int, Pl.its_tup, Pl.its_lst, Pl.its_own, Pl.its_brw, Pl.its_str, Pl.enum_tup, Pl.eq_int, Pl.ne_int, Pl.lt_int, Pl.le_int, Pl.gt_int, Pl.ge_int, Pl.add_int, Pl.sub_int, Pl.len_tup, Pl.len_own, Pl.len_brw, Pl.len_lst, Pl.idx_tup, Pl.idx_lst, Pl.idx_own, Pl.idx_brw, Pl.in_dic, Pl.nin_dic, Pl.idx_dic, Pl.is_non, Pl.isn_non, Pl.at_zero, Pl.at_one, sizeLine_eq, Nat.reduceAdd, Nat.reduceLeDiff, isStr, e1]
            by_cases hw : w ∈ ws
            · obtain ⟨ss, f1, f2, f3, f4⟩ := e4 w hw
              have cw : ws.contains w = true := List.contains_iff_mem.mpr hw
              simp only [Pl.runFn, List.length_cons, List.length_nil, Pl.startE_cons, Pl.startE_nil, Pl.repl_succ, List.replicate_zero, Nat.zero_add, Pl.execs, Pl.exec, Pl.evalT, Pl.evalE, Pl.evalVs, Pl.evalP, Pl.evalI, Pl.evalJ, List.getElem?_cons_zero, List.getElem?_cons_succ, Pl.Res.bind_ok, Pl.Res.bind_exc, Pl.Res.bind_stuck, Pl.Res.to_ok, Pl.Res.to_exc, Pl.Res.to_stuck, Pl.Res.calm_ok, Pl.SR.andThen_next, Pl.SR.andThen_ret, Pl.SR.andThen_brk, Pl.SR.andThen_cont, Pl.SR.andThen_exc, Pl.SR.andThen_stuck, Pl.gcE_self, Pl.gcX_self, Pl.optR_some, Pl.optR_none, Pl.EV.val_d, Pl.EV.val_own, Pl.EV.items_own, Pl.EV.items_brw, Pl.EV.items_lst, if_true, if_false, reduceIte, Bool.false_eq_true, Bool.not_true, Bool.not_false, List.set_cons_zero, List.set_cons_succ, Pl.wipeE, List.map_cons, List.map_nil, Pl.setE, Pl.bindT, Pl.bindNames, Nat.zero_lt_succ, Nat.succ_lt_succ_iff, Nat.lt_add_one, Pl.tru_bl, Pl.tru_int, Pl.its_tup, Pl.its_lst, Pl.its_own, Pl.its_brw, Pl.its_str, Pl.enum_tup, Pl.eq_int, Pl.ne_int, Pl.lt_int, Pl.le_int, Pl.gt_int, Pl.ge_int, Pl.add_int, Pl.sub_int, Pl.len_tup, Pl.len_own, Pl.len_brw, Pl.len_lst, Pl.idx_tup, Pl.idx_lst, Pl.idx_own, Pl.idx_brw, Pl.in_dic, Pl.nin_dic, Pl.idx_dic, Pl.is_non, Pl.isn_non, Pl.at_zero, Pl.at_one, sizeLine_eq, Nat.reduceAdd, Nat.reduceLeDiff, cw, e1, f1]
              by_cases hl : ss.length = xs.length
              · have hl' : ((ss.length : Int) = ((xs.length + 1 : Nat) : Int) - 1) := by omega
                simp only [Pl.runFn, List.length_cons, List.length_nil, Pl.startE_cons, Pl.startE_nil, Pl.repl_succ, List.replicate_zero, Nat.zero_add, Pl.execs, Pl.exec, Pl.evalT, Pl.evalE, Pl.evalVs, Pl.evalP, Pl.evalI, Pl.evalJ, List.getElem?_cons_zero, List.getElem?_cons_succ, Pl.Res.bind_ok, Pl.Res.bind_exc, Pl.Res.bind_stuck, Pl.Res.to_ok, Pl.Res.to_exc, Pl.Res.to_stuck, Pl.Res.calm_ok, Pl.SR.andThen_next, Pl.SR.andThen_ret, Pl.SR.andThen_brk, Pl.SR.andThen_cont, Pl.SR.andThen_exc, Pl.SR.andThen_stuck, Pl.gcE_self, Pl.gcX_self, Pl.optR_some, Pl.optR_none, Pl.EV.val_d, Pl.EV.val_own, Pl.EV.items_own, Pl.EV.items_brw, Pl.EV.items_lst, if_true, if_false, reduceIte, Bool.false_eq_true, Bool.not_true, Bool.not_false, List.set_cons_zero, List.set_cons_succ, Pl.wipeE, List.map_cons, List.map_nil, Pl.setE, Pl.bindT, Pl.bindNames, Nat.zero_lt_succ, Nat.succ_lt_succ_iff, Nat.lt_add_one, Pl.tru_bl, Pl.tru_int, Pl.its_tup, Pl.its_lst, Pl.its_own, Pl.its_brw, Pl.its_str, Pl.enum_tup, Pl.eq_int, Pl.ne_int, Pl.lt_int, Pl.le_int, Pl.gt_int, Pl.ge_int, Pl.add_int, Pl.sub_int, Pl.len_tup, Pl.len_own, Pl.len_brw, Pl.len_lst, Pl.idx_tup, Pl.idx_lst, Pl.idx_own, Pl.idx_brw, Pl.in_dic, Pl.nin_dic, Pl.idx_dic, Pl.is_non, Pl.isn_non, Pl.at_zero, Pl.at_one, sizeLine_eq, Nat.reduceAdd, Nat.reduceLeDiff, hl', decide_true, e1, f1]
                rw [comp_map (f := fun p => .bl (wrP (isWr n) xs p)) rfl (enumD ss) [] (by rw [enumD_length]; exact line100 (by simp; omega)) fun p hp => ?_]
                · simp only [Pl.runFn, List.length_cons, List.length_nil, Pl.startE_cons, Pl.startE_nil, Pl.repl_succ, List.replicate_zero, Nat.zero_add, Pl.execs, Pl.exec, Pl.evalT, Pl.evalE, Pl.evalVs, Pl.evalP, Pl.evalI, Pl.evalJ, List.getElem?_cons_zero, List.getElem?_cons_succ, Pl.Res.bind_ok, Pl.Res.bind_exc, Pl.Res.bind_stuck, Pl.Res.to_ok, Pl.Res.to_exc, Pl.Res.to_stuck, Pl.Res.calm_ok, Pl.SR.andThen_next, Pl.SR.andThen_ret, Pl.SR.andThen_brk, Pl.SR.andThen_cont, Pl.SR.andThen_exc, Pl.SR.andThen_stuck, Pl.gcE_self, Pl.gcX_self, Pl.optR_some, Pl.optR_none, Pl.EV.val_d, Pl.EV.val_own, Pl.EV.items_own, Pl.EV.items_brw, Pl.EV.items_lst, if_true, if_false, reduceIte, Bool.false_eq_true, Bool.not_true, Bool.not_false, List.set_cons_zero, List.set_cons_succ, Pl.wipeE, List.map_cons, List.map_nil, Pl.setE, Pl.bindT, Pl.bindNames, Nat.zero_lt_succ, Nat.succ_lt_succ_iff, Nat.lt_add_one, Pl.tru_bl, Pl.tru_int, Pl.its_tup, Pl.its_lst, Pl.its_own, Pl.its_brw, Pl.its_str, Pl.enum_tup, Pl.eq_int, Pl.ne_int, Pl.lt_int, Pl.le_int, Pl.gt_int, Pl.ge_int, Pl.add_int, Pl.sub_int, Pl.len_tup, Pl.len_own, Pl.len_brw, Pl.len_lst, Pl.idx_tup, Pl.idx_lst, Pl.idx_own, Pl.idx_brw, Pl.in_dic, Pl.nin_dic, Pl.idx_dic, Pl.is_non, Pl.isn_non, Pl.at_zero, Pl.at_one, sizeLine_eq, Nat.reduceAdd, Nat.reduceLeDiff, List.nil_append, map_bl, all_own, all_id, ndWr, f2, hl, decide_true, Bool.true_and]
                · obtain ⟨i, y, rfl, hy⟩ := mem_enumD hp
                  obtain ⟨z, rfl, hz⟩ := f4 y (List.mem_of_getElem? hy)
                  have hi : i < xs.length := by rw [← hl]; exact (List.getElem?_eq_some_iff.mp hy).1
                  have ha : (D.str w :: xs)[i + 1]? = some xs[i] := by simp [hi]
                  refine ⟨_, .d (.bl (wrP (isWr n) xs (.tup [.int (i : Nat), .str z]))), rfl, rfl, ?_, rfl⟩
                  simp only [Pl.runFn, List.length_cons, List.length_nil, Pl.startE_cons, Pl.startE_nil, Pl.repl_succ, List.replicate_zero, Nat.zero_add, Pl.execs, Pl.exec, Pl.evalT, Pl.evalE, Pl.evalVs, Pl.evalP, Pl.evalI, Pl.evalJ, List.getElem?_cons_zero, List.getElem?_cons_succ, Pl.Res.bind_ok, Pl.Res.bind_exc, Pl.Res.bind_stuck, Pl.Res.to_ok, Pl.Res.to_exc, Pl.Res.to_stuck, Pl.Res.calm_ok, Pl.SR.andThen_next, Pl.SR.andThen_ret, Pl.SR.andThen_brk, Pl.SR.andThen_cont, Pl.SR.andThen_exc, Pl.SR.andThen_stuck, Pl.gcE_self, Pl.gcX_self, Pl.optR_some, Pl.optR_none, Pl.EV.val_d, Pl.EV.val_own, Pl.EV.items_own, Pl.EV.items_brw, Pl.EV.items_lst, if_true, if_false, reduceIte, Bool.false_eq_true, Bool.not_true, Bool.not_false, List.set_cons_zero, List.set_cons_succ, Pl.wipeE, List.map_cons, List.map_nil, Pl.setE, Pl.bindT, Pl.bindNames, Nat.zero_lt_succ, Nat.succ_lt_succ_iff, Nat.lt_add_one, Pl.tru_bl, Pl.tru_int, Pl.its_tup, Pl.its_lst, Pl.its_own, Pl.its_brw, Pl.its_str, Pl.enum_tup, Pl.eq_int, Pl.ne_int, Pl.lt_int, Pl.le_int, Pl.gt_int, Pl.ge_int, Pl.add_int, Pl.sub_int, Pl.len_tup, Pl.len_own, Pl.len_brw, Pl.len_lst, Pl.idx_tup, Pl.idx_lst, Pl.idx_own, Pl.idx_brw, Pl.in_dic, Pl.nin_dic, Pl.idx_dic, Pl.is_non, Pl.isn_non, Pl.at_zero, Pl.at_one, sizeLine_eq, Nat.reduceAdd, Nat.reduceLeDiff, ha]
                  have hm : xs[i] ∈ D.str w :: xs := List.mem_cons_of_mem _ (List.getElem_mem hi)
                  cases n with
                  | zero => simp [dep] at hd
                  | succ n =>
                    have := ih n (by omega) xs[i] z S (sms_mem h2 hm) (dep_in hm hd) hz
                    rw [show n + 1 + 5 = n + 6 from rfl, this]
                    have e0 : wrP (isWr (n + 1)) xs (.tup [.int (i : Nat), .str z]) = isWr (n + 1) xs[i] z := by
                      show isWr (n + 1) (xs.getD ((i : Nat) : Int).toNat .non) z = _
                      simp [hi]
                    rw [e0]
              · have hl' : ¬ ((ss.length : Int) = ((xs.length + 1 : Nat) : Int) - 1) := by omega
                simp only [Pl.runFn, List.length_cons, List.length_nil, Pl.startE_cons, Pl.startE_nil, Pl.repl_succ, List.replicate_zero, Nat.zero_add, Pl.execs, Pl.exec, Pl.evalT, Pl.evalE, Pl.evalVs, Pl.evalP, Pl.evalI, Pl.evalJ, List.getElem?_cons_zero, List.getElem?_cons_succ, Pl.Res.bind_ok, Pl.Res.bind_exc, Pl.Res.bind_stuck, Pl.Res.to_ok, Pl.Res.to_exc, Pl.Res.to_stuck, Pl.Res.calm_ok, Pl.SR.andThen_next, Pl.SR.andThen_ret, Pl.SR.andThen_brk, Pl.SR.andThen_cont, Pl.SR.andThen_exc, Pl.SR.andThen_stuck, Pl.gcE_self, Pl.gcX_self, Pl.optR_some, Pl.optR_none, Pl.EV.val_d, Pl.EV.val_own, Pl.EV.items_own, Pl.EV.items_brw, Pl.EV.items_lst, if_true, if_false, reduceIte, Bool.false_eq_true, Bool.not_true, Bool.not_false, List.set_cons_zero, List.set_cons_succ, Pl.wipeE, List.map_cons, List.map_nil, Pl.setE, Pl.bindT, Pl.bindNames, Nat.zero_lt_succ, Nat.succ_lt_succ_iff, Nat.lt_add_one, Pl.tru_bl, Pl.tru_int, Pl.its_tup, Pl.its_lst, Pl.its_own, Pl.its_brw, Pl.its_str, Pl.enum_tup, Pl.eq_int, Pl.ne_int, Pl.lt_int, Pl.le_int, Pl.gt_int, Pl.ge_int, Pl.add_int, Pl.sub_int, Pl.len_tup, Pl.len_own, Pl.len_brw, Pl.len_lst, Pl.idx_tup, Pl.idx_lst, Pl.idx_own, Pl.idx_brw, Pl.in_dic, Pl.nin_dic, Pl.idx_dic, Pl.is_non, Pl.isn_non, Pl.at_zero, Pl.at_one, sizeLine_eq, Nat.reduceAdd, Nat.reduceLeDiff, hl', decide_false, e1, f1, ndWr, f2, hl, Bool.false_and]
            · have cw : ws.contains w = false := by
                cases q : ws.contains w with
                | false => rfl
                | true => exact (hw (List.contains_iff_mem.mp q)).elim
              have nl : (ws.zip rs).lookup w = none := by
                have := lookS ws rs w e3
                rw [cw] at this
                cases q : (ws.zip rs).lookup w with
                | none => rfl
                | some u => rw [q] at this; cases this
              have nr : rowOf sort w = none := by unfold rowOf; rw [e2]; simp only [nl]
              simp only [Pl.runFn, List.length_cons, List.length_nil, Pl.startE_cons, Pl.startE_nil, Pl.repl_succ, List.replicate_zero, Nat.zero_add, Pl.execs, Pl.exec, Pl.evalT, Pl.evalE, Pl.evalVs, Pl.evalP, Pl.evalI, Pl.evalJ, List.getElem?_cons_zero, List.getElem?_cons_succ, Pl.Res.bind_ok, Pl.Res.bind_exc, Pl.Res.bind_stuck, Pl.Res.to_ok, Pl.Res.to_exc, Pl.Res.to_stuck, Pl.Res.calm_ok, Pl.SR.andThen_next, Pl.SR.andThen_ret, Pl.SR.andThen_brk, Pl.SR.andThen_cont, Pl.SR.andThen_exc, Pl.SR.andThen_stuck, Pl.gcE_self, Pl.gcX_self, Pl.optR_some, Pl.optR_none, Pl.EV.val_d, Pl.EV.val_own, Pl.EV.items_own, Pl.EV.items_brw, Pl.EV.items_lst, if_true, if_false, reduceIte, Bool.false_eq_true, Bool.not_true, Bool.not_false, List.set_cons_zero, List.set_cons_succ, Pl.wipeE, List.map_cons, List.map_nil, Pl.setE, Pl.bindT, Pl.bindNames, Nat.zero_lt_succ, Nat.succ_lt_succ_iff, Nat.lt_add_one, Pl.tru_bl, Pl.tru_int, Pl.its_tup, Pl.its_lst, Pl.its_own, Pl.its_brw, Pl.its_str, Pl.enum_tup, Pl.eq_int, Pl.ne_int, Pl.lt_int, Pl.le_int, Pl.gt_int, Pl.ge_int, Pl.add_int, Pl.sub_int, Pl.len_tup, Pl.len_own, Pl.len_brw, Pl.len_lst, Pl.idx_tup, Pl.idx_lst, Pl.idx_own, Pl.idx_brw, Pl.in_dic, Pl.nin_dic, Pl.idx_dic, Pl.is_non, Pl.isn_non, Pl.at_zero, Pl.at_one, sizeLine_eq, Nat.reduceAdd, Nat.reduceLeDiff, cw, ndWr, nr]
          | _ => simp only [Pl.runFn, List.length_cons, List.length_nil, Pl.startE_cons, Pl.startE_nil, Pl.repl_succ, List.replicate_zero, Nat.zero_add, Pl.execs, Pl.exec, Pl.evalT, Pl.evalE, Pl.evalVs, Pl.evalP, Pl.evalI, Pl.evalJ, List.getElem?_cons_zero, List.getElem?_cons_succ, Pl.Res.bind_ok, Pl.Res.bind_exc, Pl.Res.bind_stuck, Pl.Res.to_ok, Pl.Res.to_exc, Pl.Res.to_stuck, Pl.Res.calm_ok, Pl.SR.andThen_next, Pl.SR.andThen_ret, Pl.SR.andThen_brk, Pl.SR.andThen_cont, Pl.SR.andThen_exc, Pl.SR.andThen_stuck, Pl.gcE_self, Pl.gcX_self, Pl.optR_some, Pl.optR_none, Pl.EV.val_d, Pl.EV.val_own, Pl.EV.items_own, Pl.EV.items_brw, Pl.EV.items_lst, if_true, if_false, reduceIte, Bool.false_eq_true, Bool.not_true, Bool.not_false, List.set_cons_zero, List.set_cons_succ, Pl.wipeE, List.map_cons, List.map_nil, Pl.setE, Pl.bindT, Pl.bindNames, Nat.zero_lt_succ, Nat.succ_lt_succ_iff, Nat.lt_add_one, Pl.tru_bl, Pl.tru_int, Pl.its_tup, Pl.its_lst, Pl.its_own, Pl.its_brw, Pl.its_str, Pl.enum_tup, Pl.eq_int, Pl.ne_int, Pl.lt_int, Pl.le_int, Pl.gt_int, Pl.ge_int, Pl.add_int, Pl.sub_int, Pl.len_tup, Pl.len_own, Pl.len_brw, Pl.len_lst, Pl.idx_tup, Pl.idx_lst, Pl.idx_own, Pl.idx_brw, Pl.in_dic, Pl.nin_dic, Pl.idx_dic, Pl.is_non, Pl.isn_non, Pl.at_zero, Pl.at_one, sizeLine_eq, Nat.reduceAdd, Nat.reduceLeDiff, isStr, ndWr]
      | _ => simp only [Pl.runFn, List.length_cons, List.length_nil, Pl.startE_cons, Pl.startE_nil, Pl.repl_succ, List.replicate_zero, Nat.zero_add, Pl.execs, Pl.exec, Pl.evalT, Pl.evalE, Pl.evalVs, Pl.evalP, Pl.evalI, Pl.evalJ, List.getElem?_cons_zero, List.getElem?_cons_succ, Pl.Res.bind_ok, Pl.Res.bind_exc, Pl.Res.bind_stuck, Pl.Res.to_ok, Pl.Res.to_exc, Pl.Res.to_stuck, Pl.Res.calm_ok, Pl.SR.andThen_next, Pl.SR.andThen_ret, Pl.SR.andThen_brk, Pl.SR.andThen_cont, Pl.SR.andThen_exc, Pl.SR.andThen_stuck, Pl.gcE_self, Pl.gcX_self, Pl.optR_some, Pl.optR_none, Pl.EV.val_d, Pl.EV.val_own, Pl.EV.items_own, Pl.EV.items_brw, Pl.EV.items_lst, if_true, if_false, reduceIte, Bool.false_eq_true, Bool.not_true, Bool.not_false, List.set_cons_zero, List.set_cons_succ, Pl.wipeE, List.map_cons, List.map_nil, Pl.setE, Pl.bindT, Pl.bindNames, Nat.zero_lt_succ, Nat.succ_lt_succ_iff, Nat.lt_add_one, Pl.tru_bl, Pl.tru_int, Pl.its_tup, Pl.its_lst, Pl.its_own, Pl.its_brw, Pl.its_str, Pl.enum_tup, Pl.eq_int, Pl.ne_int, Pl.lt_int, Pl.le_int, Pl.gt_int, Pl.ge_int, Pl.add_int, Pl.sub_int, Pl.len_tup, Pl.len_own, Pl.len_brw, Pl.len_lst, Pl.idx_tup, Pl.idx_lst, Pl.idx_own, Pl.idx_brw, Pl.in_dic, Pl.nin_dic, Pl.idx_dic, Pl.is_non, Pl.isn_non, Pl.at_zero, Pl.at_one, sizeLine_eq, Nat.reduceAdd, Nat.reduceLeDiff, isTup, ndWr]
    · have hl : sort ∈ leaves := hs.resolve_left hin
      obtain ⟨t1, t2, t3⟩ := tab_none hl
      rw [isWr_leaf t3]
      simp only [Pl.runFn, List.length_cons, List.length_nil, Pl.startE_cons, Pl.startE_nil, Pl.repl_succ, List.replicate_zero, Nat.zero_add, Pl.execs, Pl.exec, Pl.evalT, Pl.evalE, Pl.evalVs, Pl.evalP, Pl.evalI, Pl.evalJ, List.getElem?_cons_zero, List.getElem?_cons_succ, Pl.Res.bind_ok, Pl.Res.bind_exc, Pl.Res.bind_stuck, Pl.Res.to_ok, Pl.Res.to_exc, Pl.Res.to_stuck, Pl.Res.calm_ok, Pl.SR.andThen_next, Pl.SR.andThen_ret, Pl.SR.andThen_brk, Pl.SR.andThen_cont, Pl.SR.andThen_exc, Pl.SR.andThen_stuck, Pl.gcE_self, Pl.gcX_self, Pl.optR_some, Pl.optR_none, Pl.EV.val_d, Pl.EV.val_own, Pl.EV.items_own, Pl.EV.items_brw, Pl.EV.items_lst, if_true, if_false, reduceIte, Bool.false_eq_true, Bool.not_true, Bool.not_false, List.set_cons_zero, List.set_cons_succ, Pl.wipeE, List.map_cons, List.map_nil, Pl.setE, Pl.bindT, Pl.bindNames, Nat.zero_lt_succ, Nat.succ_lt_succ_iff, Nat.lt_add_one, Pl.tru_bl, Pl.tru_int, Pl.its_tup, Pl.its_lst, Pl.its_own, Pl.its_brw, Pl.its_str, Pl.enum_tup, Pl.eq_int, Pl.ne_int, Pl.lt_int, Pl.le_int, Pl.gt_int, Pl.ge_int, Pl.add_int, Pl.sub_int, Pl.len_tup, Pl.len_own, Pl.len_brw, Pl.len_lst, Pl.idx_tup, Pl.idx_lst, Pl.idx_own, Pl.idx_brw, Pl.in_dic, Pl.nin_dic, Pl.idx_dic, Pl.is_non, Pl.isn_non, Pl.at_zero, Pl.at_one, sizeLine_eq, Nat.reduceAdd, Nat.reduceLeDiff, t2]
      have e1 : cmpV .Eq S (.d (.str sort)) (.d (.str "name")) = some (decide (sort = "name")) := eq_str (okZ_sort hs) (by decide +kernel)
      have e2 : cmpV .In S (.d (.str sort)) (.d (.tup [.str "elements", .str "lists"])) = some (decide (sort ∈ (["elements", "lists"] : List Str))) := in_tup (ws := ["elements", "lists"]) (okZ_sort hs) (by decide +kernel)
      have e3 : cmpV .Eq S (.d (.str sort)) (.d (.str "elements")) = some (decide (sort = "elements")) := eq_str (okZ_sort hs) (by decide +kernel)
      simp only [Pl.runFn, List.length_cons, List.length_nil, Pl.startE_cons, Pl.startE_nil, Pl.repl_succ, List.replicate_zero, Nat.zero_add, Pl.execs, Pl.exec, Pl.evalT, Pl.evalE, Pl.evalVs, Pl.evalP, Pl.evalI, Pl.evalJ, List.getElem?_cons_zero, List.getElem?_cons_succ, Pl.Res.bind_ok, Pl.Res.bind_exc, Pl.Res.bind_stuck, Pl.Res.to_ok, Pl.Res.to_exc, Pl.Res.to_stuck, Pl.Res.calm_ok, Pl.SR.andThen_next, Pl.SR.andThen_ret, Pl.SR.andThen_brk, Pl.SR.andThen_cont, Pl.SR.andThen_exc, Pl.SR.andThen_stuck, Pl.gcE_self, Pl.gcX_self, Pl.optR_some, Pl.optR_none, Pl.EV.val_d, Pl.EV.val_own, Pl.EV.items_own, Pl.EV.items_brw, Pl.EV.items_lst, if_true, if_false, reduceIte, Bool.false_eq_true, Bool.not_true, Bool.not_false, List.set_cons_zero, List.set_cons_succ, Pl.wipeE, List.map_cons, List.map_nil, Pl.setE, Pl.bindT, Pl.bindNames, Nat.zero_lt_succ, Nat.succ_lt_succ_iff, Nat.lt_add_one, Pl.tru_bl, Pl.tru_int, Pl.its_tup, Pl.its_lst, Pl.its_own, Pl.its_brw, Pl.its_str, Pl.enum_tup, Pl.eq_int, Pl.ne_int, Pl.lt_int, Pl.le_int, Pl.gt_int, Pl.ge_int, Pl.add_int, Pl.sub_int, Pl.len_tup, Pl.len_own, Pl.len_brw, Pl.len_lst, Pl.idx_tup, Pl.idx_lst, Pl.idx_own, Pl.idx_brw, Pl.in_dic, Pl.nin_dic, Pl.idx_dic, Pl.is_non, Pl.isn_non, Pl.at_zero, Pl.at_one, sizeLine_eq, Nat.reduceAdd, Nat.reduceLeDiff, e1]
      by_cases c1 : sort = "name"
      · rw [show leafWr sort v = isNm v by rw [leafWr, if_pos c1]]
        simp only [Pl.runFn, List.length_cons, List.length_nil, Pl.startE_cons, Pl.startE_nil, Pl.repl_succ, List.replicate_zero, Nat.zero_add, Pl.execs, Pl.exec, Pl.evalT, Pl.evalE, Pl.evalVs, Pl.evalP, Pl.evalI, Pl.evalJ, List.getElem?_cons_zero, List.getElem?_cons_succ, Pl.Res.bind_ok, Pl.Res.bind_exc, Pl.Res.bind_stuck, Pl.Res.to_ok, Pl.Res.to_exc, Pl.Res.to_stuck, Pl.Res.calm_ok, Pl.SR.andThen_next, Pl.SR.andThen_ret, Pl.SR.andThen_brk, Pl.SR.andThen_cont, Pl.SR.andThen_exc, Pl.SR.andThen_stuck, Pl.gcE_self, Pl.gcX_self, Pl.optR_some, Pl.optR_none, Pl.EV.val_d, Pl.EV.val_own, Pl.EV.items_own, Pl.EV.items_brw, Pl.EV.items_lst, if_true, if_false, reduceIte, Bool.false_eq_true, Bool.not_true, Bool.not_false, List.set_cons_zero, List.set_cons_succ, Pl.wipeE, List.map_cons, List.map_nil, Pl.setE, Pl.bindT, Pl.bindNames, Nat.zero_lt_succ, Nat.succ_lt_succ_iff, Nat.lt_add_one, Pl.tru_bl, Pl.tru_int, Pl.its_tup, Pl.its_lst, Pl.its_own, Pl.its_brw, Pl.its_str, Pl.enum_tup, Pl.eq_int, Pl.ne_int, Pl.lt_int, Pl.le_int, Pl.gt_int, Pl.ge_int, Pl.add_int, Pl.sub_int, Pl.len_tup, Pl.len_own, Pl.len_brw, Pl.len_lst, Pl.idx_tup, Pl.idx_lst, Pl.idx_own, Pl.idx_brw, Pl.in_dic, Pl.nin_dic, Pl.idx_dic, Pl.is_non, Pl.isn_non, Pl.at_zero, Pl.at_one, sizeLine_eq, Nat.reduceAdd, Nat.reduceLeDiff, c1, decide_true, s_is_name (n + 4) S h]
      · simp only [Pl.runFn, List.length_cons, List.length_nil, Pl.startE_cons, Pl.startE_nil, Pl.repl_succ, List.replicate_zero, Nat.zero_add, Pl.execs, Pl.exec, Pl.evalT, Pl.evalE, Pl.evalVs, Pl.evalP, Pl.evalI, Pl.evalJ, List.getElem?_cons_zero, List.getElem?_cons_succ, Pl.Res.bind_ok, Pl.Res.bind_exc, Pl.Res.bind_stuck, Pl.Res.to_ok, Pl.Res.to_exc, Pl.Res.to_stuck, Pl.Res.calm_ok, Pl.SR.andThen_next, Pl.SR.andThen_ret, Pl.SR.andThen_brk, Pl.SR.andThen_cont, Pl.SR.andThen_exc, Pl.SR.andThen_stuck, Pl.gcE_self, Pl.gcX_self, Pl.optR_some, Pl.optR_none, Pl.EV.val_d, Pl.EV.val_own, Pl.EV.items_own, Pl.EV.items_brw, Pl.EV.items_lst, if_true, if_false, reduceIte, Bool.false_eq_true, Bool.not_true, Bool.not_false, List.set_cons_zero, List.set_cons_succ, Pl.wipeE, List.map_cons, List.map_nil, Pl.setE, Pl.bindT, Pl.bindNames, Nat.zero_lt_succ, Nat.succ_lt_succ_iff, Nat.lt_add_one, Pl.tru_bl, Pl.tru_int, Pl.its_tup, Pl.its_lst, Pl.its_own, Pl.its_brw, Pl.its_str, Pl.enum_tup, Pl.eq_int, Pl.ne_int, Pl.lt_int, Pl.le_int, Pl.gt_int, Pl.ge_int, Pl.add_int, Pl.sub_int, Pl.len_tup, Pl.len_own, Pl.len_brw, Pl.len_lst, Pl.idx_tup, Pl.idx_lst, Pl.idx_own, Pl.idx_brw, Pl.in_dic, Pl.nin_dic, Pl.idx_dic, Pl.is_non, Pl.isn_non, Pl.at_zero, Pl.at_one, sizeLine_eq, Nat.reduceAdd, Nat.reduceLeDiff, c1, decide_false, e2]
        have r0 : ∀ m : Nat, R (n + 5) "is_row" [v, .int ((m + 1 : Nat) : Int)] S = .ok (.d (.bl (isRw (m + 1) v))) S ∨ 2 ≤ m := fun m => by
          by_cases hm : 2 ≤ m
          · exact .inr hm
          · left
            have := s_is_row (m + 1) (n + 2 - m) v S h (by omega)
            rw [show n + 2 - m + (m + 1) + 2 = n + 5 by omega] at this
            exact this
        have p0 : ∀ m : Nat, m ≤ 2 → R (n + 5) "is_plain" [v, .int (m : Int)] S = .ok (.d (.bl (isPl m v))) S := fun m hm => by
          have := s_is_plain m (n + 4 - m) v S h
          rw [show n + 4 - m + m + 1 = n + 5 by omega] at this
          exact this
        by_cases c2 : sort = "elements"
        · subst c2
          simp only [Pl.runFn, List.length_cons, List.length_nil, Pl.startE_cons, Pl.startE_nil, Pl.repl_succ, List.replicate_zero, Nat.zero_add, Pl.execs, Pl.exec, Pl.evalT, Pl.evalE, Pl.evalVs, Pl.evalP, Pl.evalI, Pl.evalJ, List.getElem?_cons_zero, List.getElem?_cons_succ, Pl.Res.bind_ok, Pl.Res.bind_exc, Pl.Res.bind_stuck, Pl.Res.to_ok, Pl.Res.to_exc, Pl.Res.to_stuck, Pl.Res.calm_ok, Pl.SR.andThen_next, Pl.SR.andThen_ret, Pl.SR.andThen_brk, Pl.SR.andThen_cont, Pl.SR.andThen_exc, Pl.SR.andThen_stuck, Pl.gcE_self, Pl.gcX_self, Pl.optR_some, Pl.optR_none, Pl.EV.val_d, Pl.EV.val_own, Pl.EV.items_own, Pl.EV.items_brw, Pl.EV.items_lst, if_true, if_false, reduceIte, Bool.false_eq_true, Bool.not_true, Bool.not_false, List.set_cons_zero, List.set_cons_succ, Pl.wipeE, List.map_cons, List.map_nil, Pl.setE, Pl.bindT, Pl.bindNames, Nat.zero_lt_succ, Nat.succ_lt_succ_iff, Nat.lt_add_one, Pl.tru_bl, Pl.tru_int, Pl.its_tup, Pl.its_lst, Pl.its_own, Pl.its_brw, Pl.its_str, Pl.enum_tup, Pl.eq_int, Pl.ne_int, Pl.lt_int, Pl.le_int, Pl.gt_int, Pl.ge_int, Pl.add_int, Pl.sub_int, Pl.len_tup, Pl.len_own, Pl.len_brw, Pl.len_lst, Pl.idx_tup, Pl.idx_lst, Pl.idx_own, Pl.idx_brw, Pl.in_dic, Pl.nin_dic, Pl.idx_dic, Pl.is_non, Pl.isn_non, Pl.at_zero, Pl.at_one, sizeLine_eq, Nat.reduceAdd, Nat.reduceLeDiff, show decide ((Str.ofString "elements") ∈ ([Str.ofString "elements", Str.ofString "lists"] : List Str)) = true from by decide +kernel, e3, decide_true]
          rw [show R (n + 5) (Str.ofString "is_row") [v, .int 1] S = _ from (r0 0).resolve_right (by decide)]
          simp only [Pl.runFn, List.length_cons, List.length_nil, Pl.startE_cons, Pl.startE_nil, Pl.repl_succ, List.replicate_zero, Nat.zero_add, Pl.execs, Pl.exec, Pl.evalT, Pl.evalE, Pl.evalVs, Pl.evalP, Pl.evalI, Pl.evalJ, List.getElem?_cons_zero, List.getElem?_cons_succ, Pl.Res.bind_ok, Pl.Res.bind_exc, Pl.Res.bind_stuck, Pl.Res.to_ok, Pl.Res.to_exc, Pl.Res.to_stuck, Pl.Res.calm_ok, Pl.SR.andThen_next, Pl.SR.andThen_ret, Pl.SR.andThen_brk, Pl.SR.andThen_cont, Pl.SR.andThen_exc, Pl.SR.andThen_stuck, Pl.gcE_self, Pl.gcX_self, Pl.optR_some, Pl.optR_none, Pl.EV.val_d, Pl.EV.val_own, Pl.EV.items_own, Pl.EV.items_brw, Pl.EV.items_lst, if_true, if_false, reduceIte, Bool.false_eq_true, Bool.not_true, Bool.not_false, List.set_cons_zero, List.set_cons_succ, Pl.wipeE, List.map_cons, List.map_nil, Pl.setE, Pl.bindT, Pl.bindNames, Nat.zero_lt_succ, Nat.succ_lt_succ_iff, Nat.lt_add_one, Pl.tru_bl, Pl.tru_int, Pl.its_tup, Pl.its_lst, Pl.its_own, Pl.its_brw, Pl.its_str, Pl.enum_tup, Pl.eq_int, Pl.ne_int, Pl.lt_int, Pl.le_int, Pl.gt_int, Pl.ge_int, Pl.add_int, Pl.sub_int, Pl.len_tup, Pl.len_own, Pl.len_brw, Pl.len_lst, Pl.idx_tup, Pl.idx_lst, Pl.idx_own, Pl.idx_brw, Pl.in_dic, Pl.nin_dic, Pl.idx_dic, Pl.is_non, Pl.isn_non, Pl.at_zero, Pl.at_one, sizeLine_eq, Nat.reduceAdd, Nat.reduceLeDiff]
          rw [show leafWr (Str.ofString "elements") v = isRw 1 v from by rw [leafWr, if_neg (by decide +kernel), if_pos rfl]]
        · by_cases c3 : sort = "lists"
          · subst c3
            simp only [Pl.runFn, List.length_cons, List.length_nil, Pl.startE_cons, Pl.startE_nil, Pl.repl_succ, List.replicate_zero, Nat.zero_add, Pl.execs, Pl.exec, Pl.evalT, Pl.evalE, Pl.evalVs, Pl.evalP, Pl.evalI, Pl.evalJ, List.getElem?_cons_zero, List.getElem?_cons_succ, Pl.Res.bind_ok, Pl.Res.bind_exc, Pl.Res.bind_stuck, Pl.Res.to_ok, Pl.Res.to_exc, Pl.Res.to_stuck, Pl.Res.calm_ok, Pl.SR.andThen_next, Pl.SR.andThen_ret, Pl.SR.andThen_brk, Pl.SR.andThen_cont, Pl.SR.andThen_exc, Pl.SR.andThen_stuck, Pl.gcE_self, Pl.gcX_self, Pl.optR_some, Pl.optR_none, Pl.EV.val_d, Pl.EV.val_own, Pl.EV.items_own, Pl.EV.items_brw, Pl.EV.items_lst, if_true, if_false, reduceIte, Bool.false_eq_true, Bool.not_true, Bool.not_false, List.set_cons_zero, List.set_cons_succ, Pl.wipeE, List.map_cons, List.map_nil, Pl.setE, Pl.bindT, Pl.bindNames, Nat.zero_lt_succ, Nat.succ_lt_succ_iff, Nat.lt_add_one, Pl.tru_bl, Pl.tru_int, Pl.its_tup, Pl.its_lst, Pl.its_own, Pl.its_brw, Pl.its_str, Pl.enum_tup, Pl.eq_int, Pl.ne_int, Pl.lt_int, Pl.le_int, Pl.gt_int, Pl.ge_int, Pl.add_int, Pl.sub_int, Pl.len_tup, Pl.len_own, Pl.len_brw, Pl.len_lst, Pl.idx_tup, Pl.idx_lst, Pl.idx_own, Pl.idx_brw, Pl.in_dic, Pl.nin_dic, Pl.idx_dic, Pl.is_non, Pl.isn_non, Pl.at_zero, Pl.at_one, sizeLine_eq, Nat.reduceAdd, Nat.reduceLeDiff, show decide ((Str.ofString "lists") ∈ ([Str.ofString "elements", Str.ofString "lists"] : List Str)) = true from by decide +kernel, e3, c2, decide_false]
            rw [show R (n + 5) (Str.ofString "is_row") [v, .int 2] S = _ from (r0 1).resolve_right (by decide)]
            simp only [Pl.runFn, List.length_cons, List.length_nil, Pl.startE_cons, Pl.startE_nil, Pl.repl_succ, List.replicate_zero, Nat.zero_add, Pl.execs, Pl.exec, Pl.evalT, Pl.evalE, Pl.evalVs, Pl.evalP, Pl.evalI, Pl.evalJ, List.getElem?_cons_zero, List.getElem?_cons_succ, Pl.Res.bind_ok, Pl.Res.bind_exc, Pl.Res.bind_stuck, Pl.Res.to_ok, Pl.Res.to_exc, Pl.Res.to_stuck, Pl.Res.calm_ok, Pl.SR.andThen_next, Pl.SR.andThen_ret, Pl.SR.andThen_brk, Pl.SR.andThen_cont, Pl.SR.andThen_exc, Pl.SR.andThen_stuck, Pl.gcE_self, Pl.gcX_self, Pl.optR_some, Pl.optR_none, Pl.EV.val_d, Pl.EV.val_own, Pl.EV.items_own, Pl.EV.items_brw, Pl.EV.items_lst, if_true, if_false, reduceIte, Bool.false_eq_true, Bool.not_true, Bool.not_false, List.set_cons_zero, List.set_cons_succ, Pl.wipeE, List.map_cons, List.map_nil, Pl.setE, Pl.bindT, Pl.bindNames, Nat.zero_lt_succ, Nat.succ_lt_succ_iff, Nat.lt_add_one, Pl.tru_bl, Pl.tru_int, Pl.its_tup, Pl.its_lst, Pl.its_own, Pl.its_brw, Pl.its_str, Pl.enum_tup, Pl.eq_int, Pl.ne_int, Pl.lt_int, Pl.le_int, Pl.gt_int, Pl.ge_int, Pl.add_int, Pl.sub_int, Pl.len_tup, Pl.len_own, Pl.len_brw, Pl.len_lst, Pl.idx_tup, Pl.idx_lst, Pl.idx_own, Pl.idx_brw, Pl.in_dic, Pl.nin_dic, Pl.idx_dic, Pl.is_non, Pl.isn_non, Pl.at_zero, Pl.at_one, sizeLine_eq, Nat.reduceAdd, Nat.reduceLeDiff]
            rw [show leafWr (Str.ofString "lists") v = isRw 2 v from by rw [leafWr, if_neg (by decide +kernel), if_neg (by decide +kernel), if_pos rfl]]
          · have c4 : ¬ sort ∈ (["elements", "lists"] : List Str) := by simp [c2, c3]
            simp only [Pl.runFn, List.length_cons, List.length_nil, Pl.startE_cons, Pl.startE_nil, Pl.repl_succ, List.replicate_zero, Nat.zero_add, Pl.execs, Pl.exec, Pl.evalT, Pl.evalE, Pl.evalVs, Pl.evalP, Pl.evalI, Pl.evalJ, List.getElem?_cons_zero, List.getElem?_cons_succ, Pl.Res.bind_ok, Pl.Res.bind_exc, Pl.Res.bind_stuck, Pl.Res.to_ok, Pl.Res.to_exc, Pl.Res.to_stuck, Pl.Res.calm_ok, Pl.SR.andThen_next, Pl.SR.andThen_ret, Pl.SR.andThen_brk, Pl.SR.andThen_cont, Pl.SR.andThen_exc, Pl.SR.andThen_stuck, Pl.gcE_self, Pl.gcX_self, Pl.optR_some, Pl.optR_none, Pl.EV.val_d, Pl.EV.val_own, Pl.EV.items_own, Pl.EV.items_brw, Pl.EV.items_lst, if_true, if_false, reduceIte, Bool.false_eq_true, Bool.not_true, Bool.not_false, List.set_cons_zero, List.set_cons_succ, Pl.wipeE, List.map_cons, List.map_nil, Pl.setE, Pl.bindT, Pl.bindNames, Nat.zero_lt_succ, Nat.succ_lt_succ_iff, Nat.lt_add_one, Pl.tru_bl, Pl.tru_int, Pl.its_tup, Pl.its_lst, Pl.its_own, Pl.its_brw, Pl.its_str, Pl.enum_tup, Pl.eq_int, Pl.ne_int, Pl.lt_int, Pl.le_int, Pl.gt_int, Pl.ge_int, Pl.add_int, Pl.sub_int, Pl.len_tup, Pl.len_own, Pl.len_brw, Pl.len_lst, Pl.idx_tup, Pl.idx_lst, Pl.idx_own, Pl.idx_brw, Pl.in_dic, Pl.nin_dic, Pl.idx_dic, Pl.is_non, Pl.isn_non, Pl.at_zero, Pl.at_one, sizeLine_eq, Nat.reduceAdd, Nat.reduceLeDiff, c4, decide_false]
            simp only [leaves, List.mem_cons, List.not_mem_nil, or_false] at hl
            rcases hl with hl | hl | hl | hl | hl | hl
            · exact (c1 hl).elim
            · exact (c2 hl).elim
            · exact (c3 hl).elim
            · subst hl
              simp only [Pl.runFn, List.length_cons, List.length_nil, Pl.startE_cons, Pl.startE_nil, Pl.repl_succ, List.replicate_zero, Nat.zero_add, Pl.execs, Pl.exec, Pl.evalT, Pl.evalE, Pl.evalVs, Pl.evalP, Pl.evalI, Pl.evalJ, List.getElem?_cons_zero, List.getElem?_cons_succ, Pl.Res.bind_ok, Pl.Res.bind_exc, Pl.Res.bind_stuck, Pl.Res.to_ok, Pl.Res.to_exc, Pl.Res.to_stuck, Pl.Res.calm_ok, Pl.SR.andThen_next, Pl.SR.andThen_ret, Pl.SR.andThen_brk, Pl.SR.andThen_cont, Pl.SR.andThen_exc, Pl.SR.andThen_stuck, Pl.gcE_self, Pl.gcX_self, Pl.optR_some, Pl.optR_none, Pl.EV.val_d, Pl.EV.val_own, Pl.EV.items_own, Pl.EV.items_brw, Pl.EV.items_lst, if_true, if_false, reduceIte, Bool.false_eq_true, Bool.not_true, Bool.not_false, List.set_cons_zero, List.set_cons_succ, Pl.wipeE, List.map_cons, List.map_nil, Pl.setE, Pl.bindT, Pl.bindNames, Nat.zero_lt_succ, Nat.succ_lt_succ_iff, Nat.lt_add_one, Pl.tru_bl, Pl.tru_int, Pl.its_tup, Pl.its_lst, Pl.its_own, Pl.its_brw, Pl.its_str, Pl.enum_tup, Pl.eq_int, Pl.ne_int, Pl.lt_int, Pl.le_int, Pl.gt_int, Pl.ge_int, Pl.add_int, Pl.sub_int, Pl.len_tup, Pl.len_own, Pl.len_brw, Pl.len_lst, Pl.idx_tup, Pl.idx_lst, Pl.idx_own, Pl.idx_brw, Pl.in_dic, Pl.nin_dic, Pl.idx_dic, Pl.is_non, Pl.isn_non, Pl.at_zero, Pl.at_one, sizeLine_eq, Nat.reduceAdd, Nat.reduceLeDiff, show List.lookup (Str.ofString "number") (([Str.ofString "number", Str.ofString "numbers", Str.ofString "rows"] : List Str).zip ([0, 1, 2] : List Int)) = some 0 from by decide +kernel]
              rw [show R (n + 5) (Str.ofString "is_plain") [v, .int 0] S = _ from p0 0 (by decide)]
              simp only [Pl.runFn, List.length_cons, List.length_nil, Pl.startE_cons, Pl.startE_nil, Pl.repl_succ, List.replicate_zero, Nat.zero_add, Pl.execs, Pl.exec, Pl.evalT, Pl.evalE, Pl.evalVs, Pl.evalP, Pl.evalI, Pl.evalJ, List.getElem?_cons_zero, List.getElem?_cons_succ, Pl.Res.bind_ok, Pl.Res.bind_exc, Pl.Res.bind_stuck, Pl.Res.to_ok, Pl.Res.to_exc, Pl.Res.to_stuck, Pl.Res.calm_ok, Pl.SR.andThen_next, Pl.SR.andThen_ret, Pl.SR.andThen_brk, Pl.SR.andThen_cont, Pl.SR.andThen_exc, Pl.SR.andThen_stuck, Pl.gcE_self, Pl.gcX_self, Pl.optR_some, Pl.optR_none, Pl.EV.val_d, Pl.EV.val_own, Pl.EV.items_own, Pl.EV.items_brw, Pl.EV.items_lst, if_true, if_false, reduceIte, Bool.false_eq_true, Bool.not_true, Bool.not_false, List.set_cons_zero, List.set_cons_succ, Pl.wipeE, List.map_cons, List.map_nil, Pl.setE, Pl.bindT, Pl.bindNames, Nat.zero_lt_succ, Nat.succ_lt_succ_iff, Nat.lt_add_one, Pl.tru_bl, Pl.tru_int, Pl.its_tup, Pl.its_lst, Pl.its_own, Pl.its_brw, Pl.its_str, Pl.enum_tup, Pl.eq_int, Pl.ne_int, Pl.lt_int, Pl.le_int, Pl.gt_int, Pl.ge_int, Pl.add_int, Pl.sub_int, Pl.len_tup, Pl.len_own, Pl.len_brw, Pl.len_lst, Pl.idx_tup, Pl.idx_lst, Pl.idx_own, Pl.idx_brw, Pl.in_dic, Pl.nin_dic, Pl.idx_dic, Pl.is_non, Pl.isn_non, Pl.at_zero, Pl.at_one, sizeLine_eq, Nat.reduceAdd, Nat.reduceLeDiff]
              rw [show leafWr (Str.ofString "number") v = isPl 0 v from by rw [leafWr, if_neg (by decide +kernel), if_neg (by decide +kernel), if_neg (by decide +kernel), if_pos rfl]]
            · subst hl
              simp only [Pl.runFn, List.length_cons, List.length_nil, Pl.startE_cons, Pl.startE_nil, Pl.repl_succ, List.replicate_zero, Nat.zero_add, Pl.execs, Pl.exec, Pl.evalT, Pl.evalE, Pl.evalVs, Pl.evalP, Pl.evalI, Pl.evalJ, List.getElem?_cons_zero, List.getElem?_cons_succ, Pl.Res.bind_ok, Pl.Res.bind_exc, Pl.Res.bind_stuck, Pl.Res.to_ok, Pl.Res.to_exc, Pl.Res.to_stuck, Pl.Res.calm_ok, Pl.SR.andThen_next, Pl.SR.andThen_ret, Pl.SR.andThen_brk, Pl.SR.andThen_cont, Pl.SR.andThen_exc, Pl.SR.andThen_stuck, Pl.gcE_self, Pl.gcX_self, Pl.optR_some, Pl.optR_none, Pl.EV.val_d, Pl.EV.val_own, Pl.EV.items_own, Pl.EV.items_brw, Pl.EV.items_lst, if_true, if_false, reduceIte, Bool.false_eq_true, Bool.not_true, Bool.not_false, List.set_cons_zero, List.set_cons_succ, Pl.wipeE, List.map_cons, List.map_nil, Pl.setE, Pl.bindT, Pl.bindNames, Nat.zero_lt_succ, Nat.succ_lt_succ_iff, Nat.lt_add_one, Pl.tru_bl, Pl.tru_int, Pl.its_tup, Pl.its_lst, Pl.its_own, Pl.its_brw, Pl.its_str, Pl.enum_tup, Pl.eq_int, Pl.ne_int, Pl.lt_int, Pl.le_int, Pl.gt_int, Pl.ge_int, Pl.add_int, Pl.sub_int, Pl.len_tup, Pl.len_own, Pl.len_brw, Pl.len_lst, Pl.idx_tup, Pl.idx_lst, Pl.idx_own, Pl.idx_brw, Pl.in_dic, Pl.nin_dic, Pl.idx_dic, Pl.is_non, Pl.isn_non, Pl.at_zero, Pl.at_one, sizeLine_eq, Nat.reduceAdd, Nat.reduceLeDiff, show List.lookup (Str.ofString "numbers") (([Str.ofString "number", Str.ofString "numbers", Str.ofString "rows"] : List Str).zip ([0, 1, 2] : List Int)) = some 1 from by decide +kernel]
              rw [show R (n + 5) (Str.ofString "is_plain") [v, .int 1] S = _ from p0 1 (by decide)]
              simp only [Pl.runFn, List.length_cons, List.length_nil, Pl.startE_cons, Pl.startE_nil, Pl.repl_succ, List.replicate_zero, Nat.zero_add, Pl.execs, Pl.exec, Pl.evalT, Pl.evalE, Pl.evalVs, Pl.evalP, Pl.evalI, Pl.evalJ, List.getElem?_cons_zero, List.getElem?_cons_succ, Pl.Res.bind_ok, Pl.Res.bind_exc, Pl.Res.bind_stuck, Pl.Res.to_ok, Pl.Res.to_exc, Pl.Res.to_stuck, Pl.Res.calm_ok, Pl.SR.andThen_next, Pl.SR.andThen_ret, Pl.SR.andThen_brk, Pl.SR.andThen_cont, Pl.SR.andThen_exc, Pl.SR.andThen_stuck, Pl.gcE_self, Pl.gcX_self, Pl.optR_some, Pl.optR_none, Pl.EV.val_d, Pl.EV.val_own, Pl.EV.items_own, Pl.EV.items_brw, Pl.EV.items_lst, if_true, if_false, reduceIte, Bool.false_eq_true, Bool.not_true, Bool.not_false, List.set_cons_zero, List.set_cons_succ, Pl.wipeE, List.map_cons, List.map_nil, Pl.setE, Pl.bindT, Pl.bindNames, Nat.zero_lt_succ, Nat.succ_lt_succ_iff, Nat.lt_add_one, Pl.tru_bl, Pl.tru_int, Pl.its_tup, Pl.its_lst, Pl.its_own, Pl.its_brw, Pl.its_str, Pl.enum_tup, Pl.eq_int, Pl.ne_int, Pl.lt_int, Pl.le_int, Pl.gt_int, Pl.ge_int, Pl.add_int, Pl.sub_int, Pl.len_tup, Pl.len_own, Pl.len_brw, Pl.len_lst, Pl.idx_tup, Pl.idx_lst, Pl.idx_own, Pl.idx_brw, Pl.in_dic, Pl.nin_dic, Pl.idx_dic, Pl.is_non, Pl.isn_non, Pl.at_zero, Pl.at_one, sizeLine_eq, Nat.reduceAdd, Nat.reduceLeDiff]
              rw [show leafWr (Str.ofString "numbers") v = isPl 1 v from by rw [leafWr, if_neg (by decide +kernel), if_neg (by decide +kernel), if_neg (by decide +kernel), if_neg (by decide +kernel), if_pos rfl]]
            · subst hl
              simp only [Pl.runFn, List.length_cons, List.length_nil, Pl.startE_cons, Pl.startE_nil, Pl.repl_succ, List.replicate_zero, Nat.zero_add, Pl.execs, Pl.exec, Pl.evalT, Pl.evalE, Pl.evalVs, Pl.evalP, Pl.evalI, Pl.evalJ, List.getElem?_cons_zero, List.getElem?_cons_succ, Pl.Res.bind_ok, Pl.Res.bind_exc, Pl.Res.bind_stuck, Pl.Res.to_ok, Pl.Res.to_exc, Pl.Res.to_stuck, Pl.Res.calm_ok, Pl.SR.andThen_next, Pl.SR.andThen_ret, Pl.SR.andThen_brk, Pl.SR.andThen_cont, Pl.SR.andThen_exc, Pl.SR.andThen_stuck, Pl.gcE_self, Pl.gcX_self, Pl.optR_some, Pl.optR_none, Pl.EV.val_d, Pl.EV.val_own, Pl.EV.items_own, Pl.EV.items_brw, Pl.EV.items_lst, if_true, if_false, reduceIte, Bool.false_eq_true, Bool.not_true, Bool.not_false, List.set_cons_zero, List.set_cons_succ, Pl.wipeE, List.map_cons, List.map_nil, Pl.setE, Pl.bindT, Pl.bindNames, Nat.zero_lt_succ, Nat.succ_lt_succ_iff, Nat.lt_add_one, Pl.tru_bl, Pl.tru_int, Pl.its_tup, Pl.its_lst, Pl.its_own, Pl.its_brw, Pl.its_str, Pl.enum_tup, Pl.eq_int, Pl.ne_int, Pl.lt_int, Pl.le_int, Pl.gt_int, Pl.ge_int, Pl.add_int, Pl.sub_int, Pl.len_tup, Pl.len_own, Pl.len_brw, Pl.len_lst, Pl.idx_tup, Pl.idx_lst, Pl.idx_own, Pl.idx_brw, Pl.in_dic, Pl.nin_dic, Pl.idx_dic, Pl.is_non, Pl.isn_non, Pl.at_zero, Pl.at_one, sizeLine_eq, Nat.reduceAdd, Nat.reduceLeDiff, show List.lookup (Str.ofString "rows") (([Str.ofString "number", Str.ofString "numbers", Str.ofString "rows"] : List Str).zip ([0, 1, 2] : List Int)) = some 2 from by decide +kernel]
              rw [show R (n + 5) (Str.ofString "is_plain") [v, .int 2] S = _ from p0 2 (by decide)]
              simp only [Pl.runFn, List.length_cons, List.length_nil, Pl.startE_cons, Pl.startE_nil, Pl.repl_succ, List.replicate_zero, Nat.zero_add, Pl.execs, Pl.exec, Pl.evalT, Pl.evalE, Pl.evalVs, Pl.evalP, Pl.evalI, Pl.evalJ, List.getElem?_cons_zero, List.getElem?_cons_succ, Pl.Res.bind_ok, Pl.Res.bind_exc, Pl.Res.bind_stuck, Pl.Res.to_ok, Pl.Res.to_exc, Pl.Res.to_stuck, Pl.Res.calm_ok, Pl.SR.andThen_next, Pl.SR.andThen_ret, Pl.SR.andThen_brk, Pl.SR.andThen_cont, Pl.SR.andThen_exc, Pl.SR.andThen_stuck, Pl.gcE_self, Pl.gcX_self, Pl.optR_some, Pl.optR_none, Pl.EV.val_d, Pl.EV.val_own, Pl.EV.items_own, Pl.EV.items_brw, Pl.EV.items_lst, if_true, if_false, reduceIte, Bool.false_eq_true, Bool.not_true, Bool.not_false, List.set_cons_zero, List.set_cons_succ, Pl.wipeE, List.map_cons, List.map_nil, Pl.setE, Pl.bindT, Pl.bindNames, Nat.zero_lt_succ, Nat.succ_lt_succ_iff, Nat.lt_add_one, Pl.tru_bl, Pl.tru_int, Pl.its_tup, Pl.its_lst, Pl.its_own, Pl.its_brw, Pl.its_str, Pl.enum_tup, Pl.eq_int, Pl.ne_int, Pl.lt_int, Pl.le_int, Pl.gt_int, Pl.ge_int, Pl.add_int, Pl.sub_int, Pl.len_tup, Pl.len_own, Pl.len_brw, Pl.len_lst, Pl.idx_tup, Pl.idx_lst, Pl.idx_own, Pl.idx_brw, Pl.in_dic, Pl.nin_dic, Pl.idx_dic, Pl.is_non, Pl.isn_non, Pl.at_zero, Pl.at_one, sizeLine_eq, Nat.reduceAdd, Nat.reduceLeDiff]
              rw [show leafWr (Str.ofString "rows") v = isPl 2 v from by rw [leafWr, if_neg (by decide +kernel), if_neg (by decide +kernel), if_neg (by decide +kernel), if_neg (by decide +kernel), if_neg (by decide +kernel)]]
end K20
end

section
set_option Elab.async false
set_option linter.all false
set_option maxRecDepth 100000
/-! k20: parts_of, told_name, is_free. -/
namespace K20
open PySem hiding exec execs
open L2 Pl
theorem s_check_t (k : Nat) (S : Sto) : R (k + 1) "check_form" [.bl true] S = .ok (.d .non) S := by
  rw [R_check_form]
  unfold n_check_form
  simp only [Pl.runFn, List.length_cons, List.length_nil, Pl.startE_cons, Pl.startE_nil, Pl.repl_succ, List.replicate_zero, Nat.zero_add, Pl.execs, Pl.exec, Pl.evalT, Pl.evalE, Pl.evalVs, Pl.evalP, Pl.evalI, Pl.evalJ, List.getElem?_cons_zero, List.getElem?_cons_succ, Pl.Res.bind_ok, Pl.Res.bind_exc, Pl.Res.bind_stuck, Pl.Res.to_ok, Pl.Res.to_exc, Pl.Res.to_stuck, Pl.Res.calm_ok, Pl.SR.andThen_next, Pl.SR.andThen_ret, Pl.SR.andThen_brk, Pl.SR.andThen_cont, Pl.SR.andThen_exc, Pl.SR.andThen_stuck, Pl.gcE_self, Pl.gcX_self, Pl.optR_some, Pl.optR_none, Pl.EV.val_d, Pl.EV.val_own, Pl.EV.items_own, Pl.EV.items_brw, Pl.EV.items_lst, if_true, if_false, reduceIte, Bool.false_eq_true, Bool.not_true, Bool.not_false, List.set_cons_zero, List.set_cons_succ, Pl.wipeE, List.map_cons, List.map_nil, Pl.setE, Pl.bindT, Pl.bindNames, Nat.zero_lt_succ, Nat.succ_lt_succ_iff, Nat.lt_add_one, Pl.tru_bl, Pl.tru_int, Pl.its_tup, Pl.its_lst, Pl.its_own, Pl.its_brw, Pl.its_str, Pl.enum_tup, Pl.eq_int, Pl.ne_int, Pl.lt_int, Pl.le_int, Pl.gt_int, Pl.ge_int, Pl.add_int, Pl.sub_int, Pl.len_tup, Pl.len_own, Pl.len_brw, Pl.len_lst, Pl.idx_tup, Pl.idx_lst, Pl.idx_own, Pl.idx_brw, Pl.in_dic, Pl.nin_dic, Pl.idx_dic, Pl.is_non, Pl.isn_non, Pl.at_zero, Pl.at_one, sizeLine_eq, Nat.reduceAdd, Nat.reduceLeDiff]
theorem excs_form : gd.excs.contains ("BadForm" : Str) = true := by decide +kernel
theorem excs_deriv : gd.excs.contains ("BadDerivation" : Str) = true := by decide +kernel
theorem s_check_f (k : Nat) (S : Sto) : R (k + 1) "check_form" [.bl false] S = .exc "BadForm" S := by
  rw [R_check_form]
  unfold n_check_form
  simp only [Pl.runFn, List.length_cons, List.length_nil, Pl.startE_cons, Pl.startE_nil, Pl.repl_succ, List.replicate_zero, Nat.zero_add, Pl.execs, Pl.exec, Pl.evalT, Pl.evalE, Pl.evalVs, Pl.evalP, Pl.evalI, Pl.evalJ, List.getElem?_cons_zero, List.getElem?_cons_succ, Pl.Res.bind_ok, Pl.Res.bind_exc, Pl.Res.bind_stuck, Pl.Res.to_ok, Pl.Res.to_exc, Pl.Res.to_stuck, Pl.Res.calm_ok, Pl.SR.andThen_next, Pl.SR.andThen_ret, Pl.SR.andThen_brk, Pl.SR.andThen_cont, Pl.SR.andThen_exc, Pl.SR.andThen_stuck, Pl.gcE_self, Pl.gcX_self, Pl.optR_some, Pl.optR_none, Pl.EV.val_d, Pl.EV.val_own, Pl.EV.items_own, Pl.EV.items_brw, Pl.EV.items_lst, if_true, if_false, reduceIte, Bool.false_eq_true, Bool.not_true, Bool.not_false, List.set_cons_zero, List.set_cons_succ, Pl.wipeE, List.map_cons, List.map_nil, Pl.setE, Pl.bindT, Pl.bindNames, Nat.zero_lt_succ, Nat.succ_lt_succ_iff, Nat.lt_add_one, Pl.tru_bl, Pl.tru_int, Pl.its_tup, Pl.its_lst, Pl.its_own, Pl.its_brw, Pl.its_str, Pl.enum_tup, Pl.eq_int, Pl.ne_int, Pl.lt_int, Pl.le_int, Pl.gt_int, Pl.ge_int, Pl.add_int, Pl.sub_int, Pl.len_tup, Pl.len_own, Pl.len_brw, Pl.len_lst, Pl.idx_tup, Pl.idx_lst, Pl.idx_own, Pl.idx_brw, Pl.in_dic, Pl.nin_dic, Pl.idx_dic, Pl.is_non, Pl.isn_non, Pl.at_zero, Pl.at_one, sizeLine_eq, Nat.reduceAdd, Nat.reduceLeDiff, excs_form]
/-! ### the parts -/
def qP : D → Bool
  | .tup [_, .str s] => sK.contains s
  | _ => false
def fP : D → D
  | .tup [.int i, s] => .tup [.int (i + 1), s]
  | d => d
def partsD (sort w : Str) : List D := match rowOf sort w with
  | some ss => ((enumD ss).filter qP).map fP
  | none => []
theorem row_in {sort w : Str} {ss : List D} (h : rowOf sort w = some ss) : ∃ ws rs, (sK.zip sD).lookup sort = some (.dic ws rs) ∧ (ws.zip rs).lookup w = some (.tup ss) := by
  unfold rowOf at h
  split at h
  · rename_i ws rs e
    unfold tab at e
    split at e
    · rename_i ws' rs' e1
      cases e
      split at h
      · rename_i ss' e2
        cases h
        exact ⟨ws, rs, e1, e2⟩
      · cases h
    · cases e
  · cases h
theorem row_sorts {sort w : Str} {ss : List D} (hs : sort ∈ sK) (h : rowOf sort w = some ss) : ss.length ≤ 5 ∧ ∀ x ∈ ss, ∃ z, x = .str z ∧ (z ∈ sK ∨ z ∈ leaves) := by
  obtain ⟨ws, rs, e1, e2, e3, e4⟩ := tab_in hs
  by_cases hw : w ∈ ws
  · obtain ⟨ss', _, f2, f3, f4⟩ := e4 w hw
    rw [h] at f2
    cases f2
    exact ⟨f3, f4⟩
  · exfalso
    have := lookS ws rs w e3
    rw [show ws.contains w = false from by cases q : ws.contains w with | false => rfl | true => exact (hw (List.contains_iff_mem.mp q)).elim] at this
    unfold rowOf at h
    rw [e2] at h
    simp only at h
    split at h
    · rename_i e5
      rw [e5] at this
      cases this
    · cases h
theorem s_parts_of (k : Nat) {sort w : Str} {ss args : List D} (S : Sto) (hs : sort ∈ sK) (h : rowOf sort w = some ss) : R (k + 1) "parts_of" [.tup (.str w :: args), .str sort] S = .ok (.own (partsD sort w)) S := by
  obtain ⟨ws, rs, e1, e2⟩ := row_in h
  obtain ⟨r1, r2⟩ := row_sorts hs h
  rw [R_parts_of]
  unfold n_parts_of
  simp only [Pl.runFn, List.length_cons, List.length_nil, Pl.startE_cons, Pl.startE_nil, Pl.repl_succ, List.replicate_zero, Nat.zero_add, Pl.execs, Pl.exec, Pl.evalT, Pl.evalE, Pl.evalVs, Pl.evalP, Pl.evalI, Pl.evalJ, List.getElem?_cons_zero, List.getElem?_cons_succ, Pl.Res.bind_ok, Pl.Res.bind_exc, Pl.Res.bind_stuck, Pl.Res.to_ok, Pl.Res.to_exc, Pl.Res.to_stuck, Pl.Res.calm_ok, Pl.SR.andThen_next, Pl.SR.andThen_ret, Pl.SR.andThen_brk, Pl.SR.andThen_cont, Pl.SR.andThen_exc, Pl.SR.andThen_stuck, Pl.gcE_self, Pl.gcX_self, Pl.optR_some, Pl.optR_none, Pl.EV.val_d, Pl.EV.val_own, Pl.EV.items_own, Pl.EV.items_brw, Pl.EV.items_lst, if_true, if_false, reduceIte, Bool.false_eq_true, Bool.not_true, Bool.not_false, List.set_cons_zero, List.set_cons_succ, Pl.wipeE, List.map_cons, List.map_nil, Pl.setE, Pl.bindT, Pl.bindNames, Nat.zero_lt_succ, Nat.succ_lt_succ_iff, Nat.lt_add_one, Pl.tru_bl, Pl.tru_int, Pl.its_tup, Pl.its_lst, Pl.its_own, Pl.its_brw, Pl.its_str, Pl.enum_tup, Pl.eq_int, Pl.ne_int, Pl.lt_int, Pl.le_int, Pl.gt_int, Pl.ge_int, Pl.add_int, Pl.sub_int, Pl.len_tup, Pl.len_own, Pl.len_brw, Pl.len_lst, Pl.idx_tup, Pl.idx_lst, Pl.idx_own, Pl.idx_brw, Pl.in_dic, Pl.nin_dic, Pl.idx_dic, Pl.is_non, Pl.isn_non, Pl.at_zero, Pl.at_one, sizeLine_eq, Nat.reduceAdd, Nat.reduceLeDiff, look_SORTS, e1, e2]
  rw [comp_filter (q := qP) (f := fP) rfl (enumD ss) [] (by rw [enumD_length]; exact line100 (by simp; omega)) fun p hp => ?_]
  · simp only [Pl.runFn, List.length_cons, List.length_nil, Pl.startE_cons, Pl.startE_nil, Pl.repl_succ, List.replicate_zero, Nat.zero_add, Pl.execs, Pl.exec, Pl.evalT, Pl.evalE, Pl.evalVs, Pl.evalP, Pl.evalI, Pl.evalJ, List.getElem?_cons_zero, List.getElem?_cons_succ, Pl.Res.bind_ok, Pl.Res.bind_exc, Pl.Res.bind_stuck, Pl.Res.to_ok, Pl.Res.to_exc, Pl.Res.to_stuck, Pl.Res.calm_ok, Pl.SR.andThen_next, Pl.SR.andThen_ret, Pl.SR.andThen_brk, Pl.SR.andThen_cont, Pl.SR.andThen_exc, Pl.SR.andThen_stuck, Pl.gcE_self, Pl.gcX_self, Pl.optR_some, Pl.optR_none, Pl.EV.val_d, Pl.EV.val_own, Pl.EV.items_own, Pl.EV.items_brw, Pl.EV.items_lst, if_true, if_false, reduceIte, Bool.false_eq_true, Bool.not_true, Bool.not_false, List.set_cons_zero, List.set_cons_succ, Pl.wipeE, List.map_cons, List.map_nil, Pl.setE, Pl.bindT, Pl.bindNames, Nat.zero_lt_succ, Nat.succ_lt_succ_iff, Nat.lt_add_one, Pl.tru_bl, Pl.tru_int, Pl.its_tup, Pl.its_lst, Pl.its_own, Pl.its_brw, Pl.its_str, Pl.enum_tup, Pl.eq_int, Pl.ne_int, Pl.lt_int, Pl.le_int, Pl.gt_int, Pl.ge_int, Pl.add_int, Pl.sub_int, Pl.len_tup, Pl.len_own, Pl.len_brw, Pl.len_lst, Pl.idx_tup, Pl.idx_lst, Pl.idx_own, Pl.idx_brw, Pl.in_dic, Pl.nin_dic, Pl.idx_dic, Pl.is_non, Pl.isn_non, Pl.at_zero, Pl.at_one, sizeLine_eq, Nat.reduceAdd, Nat.reduceLeDiff, List.nil_append, partsD, h]
  · obtain ⟨i, y, rfl, hy⟩ := mem_enumD hp
    obtain ⟨z, rfl, hz⟩ := r2 y (List.mem_of_getElem? hy)
    refine ⟨_, rfl, ?_, fun hq => ⟨.d (.tup [.int ((i : Int) + 1), .str z]), ?_, rfl⟩⟩
    · simp only [Pl.runFn, List.length_cons, List.length_nil, Pl.startE_cons, Pl.startE_nil, Pl.repl_succ, List.replicate_zero, Nat.zero_add, Pl.execs, Pl.exec, Pl.evalT, Pl.evalE, Pl.evalVs, Pl.evalP, Pl.evalI, Pl.evalJ, List.getElem?_cons_zero, List.getElem?_cons_succ, Pl.Res.bind_ok, Pl.Res.bind_exc, Pl.Res.bind_stuck, Pl.Res.to_ok, Pl.Res.to_exc, Pl.Res.to_stuck, Pl.Res.calm_ok, Pl.SR.andThen_next, Pl.SR.andThen_ret, Pl.SR.andThen_brk, Pl.SR.andThen_cont, Pl.SR.andThen_exc, Pl.SR.andThen_stuck, Pl.gcE_self, Pl.gcX_self, Pl.optR_some, Pl.optR_none, Pl.EV.val_d, Pl.EV.val_own, Pl.EV.items_own, Pl.EV.items_brw, Pl.EV.items_lst, if_true, if_false, reduceIte, Bool.false_eq_true, Bool.not_true, Bool.not_false, List.set_cons_zero, List.set_cons_succ, Pl.wipeE, List.map_cons, List.map_nil, Pl.setE, Pl.bindT, Pl.bindNames, Nat.zero_lt_succ, Nat.succ_lt_succ_iff, Nat.lt_add_one, Pl.tru_bl, Pl.tru_int, Pl.its_tup, Pl.its_lst, Pl.its_own, Pl.its_brw, Pl.its_str, Pl.enum_tup, Pl.eq_int, Pl.ne_int, Pl.lt_int, Pl.le_int, Pl.gt_int, Pl.ge_int, Pl.add_int, Pl.sub_int, Pl.len_tup, Pl.len_own, Pl.len_brw, Pl.len_lst, Pl.idx_tup, Pl.idx_lst, Pl.idx_own, Pl.idx_brw, Pl.in_dic, Pl.nin_dic, Pl.idx_dic, Pl.is_non, Pl.isn_non, Pl.at_zero, Pl.at_one, sizeLine_eq, Nat.reduceAdd, Nat.reduceLeDiff, look_SORTS]
      rfl
    · simp only [Pl.runFn, List.length_cons, List.length_nil, Pl.startE_cons, Pl.startE_nil, Pl.repl_succ, List.replicate_zero, Nat.zero_add, Pl.execs, Pl.exec, Pl.evalT, Pl.evalE, Pl.evalVs, Pl.evalP, Pl.evalI, Pl.evalJ, List.getElem?_cons_zero, List.getElem?_cons_succ, Pl.Res.bind_ok, Pl.Res.bind_exc, Pl.Res.bind_stuck, Pl.Res.to_ok, Pl.Res.to_exc, Pl.Res.to_stuck, Pl.Res.calm_ok, Pl.SR.andThen_next, Pl.SR.andThen_ret, Pl.SR.andThen_brk, Pl.SR.andThen_cont, Pl.SR.andThen_exc, Pl.SR.andThen_stuck, Pl.gcE_self, Pl.gcX_self, Pl.optR_some, Pl.optR_none, Pl.EV.val_d, Pl.EV.val_own, Pl.EV.items_own, Pl.EV.items_brw, Pl.EV.items_lst, if_true, if_false, reduceIte, Bool.false_eq_true, Bool.not_true, Bool.not_false, List.set_cons_zero, List.set_cons_succ, Pl.wipeE, List.map_cons, List.map_nil, Pl.setE, Pl.bindT, Pl.bindNames, Nat.zero_lt_succ, Nat.succ_lt_succ_iff, Nat.lt_add_one, Pl.tru_bl, Pl.tru_int, Pl.its_tup, Pl.its_lst, Pl.its_own, Pl.its_brw, Pl.its_str, Pl.enum_tup, Pl.eq_int, Pl.ne_int, Pl.lt_int, Pl.le_int, Pl.gt_int, Pl.ge_int, Pl.add_int, Pl.sub_int, Pl.len_tup, Pl.len_own, Pl.len_brw, Pl.len_lst, Pl.idx_tup, Pl.idx_lst, Pl.idx_own, Pl.idx_brw, Pl.in_dic, Pl.nin_dic, Pl.idx_dic, Pl.is_non, Pl.isn_non, Pl.at_zero, Pl.at_one, sizeLine_eq, Nat.reduceAdd, Nat.reduceLeDiff]
/-! ### names by rows -/
def toldV (sort w : Str) (t : Int) (xs : List D) : List D → D
  | [] => .non
  | .tup [.str k, .str x, .int p, .int n] :: r => if k = sort ∧ x = w ∧ p = t then (atI xs n).getD .non else toldV sort w t xs r
  | _ :: r => toldV sort w t xs r
def RowOk (sort w : Str) (xs : List D) (d : D) : Prop := ∃ k x p n, d = .tup [.str k, .str x, .int p, .int n] ∧ okZ k ∧ okZ x ∧ (k = sort → x = w → ∃ y, atI xs n = some y)
theorem s_told_name (k : Nat) {sort w : Str} {t : Int} {args rows : List D} (S : Sto) (hs : okZ sort) (hw : okZ w) (hr : ∀ d ∈ rows, RowOk sort w (.str w :: args) d) :
    R (k + 1) "told_name" [.tup rows, .tup (.str w :: args), .str sort, .int t] S = .ok (.d (toldV sort w t (.str w :: args) rows)) S := by
  rw [R_told_name]
  unfold n_told_name
  simp only [Pl.runFn, List.length_cons, List.length_nil, Pl.startE_cons, Pl.startE_nil, Pl.repl_succ, List.replicate_zero, Nat.zero_add, Pl.execs, Pl.exec, Pl.evalT, Pl.evalE, Pl.evalVs, Pl.evalP, Pl.evalI, Pl.evalJ, List.getElem?_cons_zero, List.getElem?_cons_succ, Pl.Res.bind_ok, Pl.Res.bind_exc, Pl.Res.bind_stuck, Pl.Res.to_ok, Pl.Res.to_exc, Pl.Res.to_stuck, Pl.Res.calm_ok, Pl.SR.andThen_next, Pl.SR.andThen_ret, Pl.SR.andThen_brk, Pl.SR.andThen_cont, Pl.SR.andThen_exc, Pl.SR.andThen_stuck, Pl.gcE_self, Pl.gcX_self, Pl.optR_some, Pl.optR_none, Pl.EV.val_d, Pl.EV.val_own, Pl.EV.items_own, Pl.EV.items_brw, Pl.EV.items_lst, if_true, if_false, reduceIte, Bool.false_eq_true, Bool.not_true, Bool.not_false, List.set_cons_zero, List.set_cons_succ, Pl.wipeE, List.map_cons, List.map_nil, Pl.setE, Pl.bindT, Pl.bindNames, Nat.zero_lt_succ, Nat.succ_lt_succ_iff, Nat.lt_add_one, Pl.tru_bl, Pl.tru_int, Pl.its_tup, Pl.its_lst, Pl.its_own, Pl.its_brw, Pl.its_str, Pl.enum_tup, Pl.eq_int, Pl.ne_int, Pl.lt_int, Pl.le_int, Pl.gt_int, Pl.ge_int, Pl.add_int, Pl.sub_int, Pl.len_tup, Pl.len_own, Pl.len_brw, Pl.len_lst, Pl.idx_tup, Pl.idx_lst, Pl.idx_own, Pl.idx_brw, Pl.in_dic, Pl.nin_dic, Pl.idx_dic, Pl.is_non, Pl.isn_non, Pl.at_zero, Pl.at_one, sizeLine_eq, Nat.reduceAdd, Nat.reduceLeDiff]
  generalize hf : forLoop _ _ _ _ _ = r
  have hq : r = .ret (.d (toldV sort w t (.str w :: args) rows)) S ∨ (toldV sort w t (.str w :: args) rows = .non ∧ ∃ ρ, r = .next ρ S) := by
    rw [← hf]
    refine for_inv (fun xs ρ S' => S' = S ∧ (∀ d ∈ xs, RowOk sort w (.str w :: args) d) ∧ toldV sort w t (.str w :: args) rows = toldV sort w t (.str w :: args) xs ∧
      ∃ a b c d, ρ = [some (.d (.tup rows)), some (.d (.tup (.str w :: args))), some (.d (.str sort)), some (.d (.int t)), a, b, c, d])
      (fun r => r = .ret (.d (toldV sort w t (.str w :: args) rows)) S ∨ (toldV sort w t (.str w :: args) rows = .non ∧ ∃ ρ, r = .next ρ S)) rows _ S ⟨rfl, hr, rfl, _, _, _, _, rfl⟩ (fun _ _ _ _ => rfl) ?_ ?_
    · rintro ρ S' ⟨rfl, _, e, _⟩
      exact .inr ⟨e, _, rfl⟩
    · rintro x xs ρ S' ⟨rfl, h1, e, a, b, c, d, rfl⟩
      obtain ⟨kk, x', p, n, rfl, o1, o2, hy⟩ := h1 x List.mem_cons_self
      simp only [Pl.runFn, List.length_cons, List.length_nil, Pl.startE_cons, Pl.startE_nil, Pl.repl_succ, List.replicate_zero, Nat.zero_add, Pl.execs, Pl.exec, Pl.evalT, Pl.evalE, Pl.evalVs, Pl.evalP, Pl.evalI, Pl.evalJ, List.getElem?_cons_zero, List.getElem?_cons_succ, Pl.Res.bind_ok, Pl.Res.bind_exc, Pl.Res.bind_stuck, Pl.Res.to_ok, Pl.Res.to_exc, Pl.Res.to_stuck, Pl.Res.calm_ok, Pl.SR.andThen_next, Pl.SR.andThen_ret, Pl.SR.andThen_brk, Pl.SR.andThen_cont, Pl.SR.andThen_exc, Pl.SR.andThen_stuck, Pl.gcE_self, Pl.gcX_self, Pl.optR_some, Pl.optR_none, Pl.EV.val_d, Pl.EV.val_own, Pl.EV.items_own, Pl.EV.items_brw, Pl.EV.items_lst, if_true, if_false, reduceIte, Bool.false_eq_true, Bool.not_true, Bool.not_false, List.set_cons_zero, List.set_cons_succ, Pl.wipeE, List.map_cons, List.map_nil, Pl.setE, Pl.bindT, Pl.bindNames, Nat.zero_lt_succ, Nat.succ_lt_succ_iff, Nat.lt_add_one, Pl.tru_bl, Pl.tru_int, Pl.its_tup, Pl.its_lst, Pl.its_own, Pl.its_brw, Pl.its_str, Pl.enum_tup, Pl.eq_int, Pl.ne_int, Pl.lt_int, Pl.le_int, Pl.gt_int, Pl.ge_int, Pl.add_int, Pl.sub_int, Pl.len_tup, Pl.len_own, Pl.len_brw, Pl.len_lst, Pl.idx_tup, Pl.idx_lst, Pl.idx_own, Pl.idx_brw, Pl.in_dic, Pl.nin_dic, Pl.idx_dic, Pl.is_non, Pl.isn_non, Pl.at_zero, Pl.at_one, sizeLine_eq, Nat.reduceAdd, Nat.reduceLeDiff, eq_str o1 hs, eq_str o2 hw]
      by_cases c1 : kk = sort
      · simp only [Pl.runFn, List.length_cons, List.length_nil, Pl.startE_cons, Pl.startE_nil, Pl.repl_succ, List.replicate_zero, Nat.zero_add, Pl.execs, Pl.exec, Pl.evalT, Pl.evalE, Pl.evalVs, Pl.evalP, Pl.evalI, Pl.evalJ, List.getElem?_cons_zero, List.getElem?_cons_succ, Pl.Res.bind_ok, Pl.Res.bind_exc, Pl.Res.bind_stuck, Pl.Res.to_ok, Pl.Res.to_exc, Pl.Res.to_stuck, Pl.Res.calm_ok, Pl.SR.andThen_next, Pl.SR.andThen_ret, Pl.SR.andThen_brk, Pl.SR.andThen_cont, Pl.SR.andThen_exc, Pl.SR.andThen_stuck, Pl.gcE_self, Pl.gcX_self, Pl.optR_some, Pl.optR_none, Pl.EV.val_d, Pl.EV.val_own, Pl.EV.items_own, Pl.EV.items_brw, Pl.EV.items_lst, if_true, if_false, reduceIte, Bool.false_eq_true, Bool.not_true, Bool.not_false, List.set_cons_zero, List.set_cons_succ, Pl.wipeE, List.map_cons, List.map_nil, Pl.setE, Pl.bindT, Pl.bindNames, Nat.zero_lt_succ, Nat.succ_lt_succ_iff, Nat.lt_add_one, Pl.tru_bl, Pl.tru_int, Pl.its_tup, Pl.its_lst, Pl.its_own, Pl.its_brw, Pl.its_str, Pl.enum_tup, Pl.eq_int, Pl.ne_int, Pl.lt_int, Pl.le_int, Pl.gt_int, Pl.ge_int, Pl.add_int, Pl.sub_int, Pl.len_tup, Pl.len_own, Pl.len_brw, Pl.len_lst, Pl.idx_tup, Pl.idx_lst, Pl.idx_own, Pl.idx_brw, Pl.in_dic, Pl.nin_dic, Pl.idx_dic, Pl.is_non, Pl.isn_non, Pl.at_zero, Pl.at_one, sizeLine_eq, Nat.reduceAdd, Nat.reduceLeDiff, c1, decide_true]
        by_cases c2 : x' = w
        · simp only [Pl.runFn, List.length_cons, List.length_nil, Pl.startE_cons, Pl.startE_nil, Pl.repl_succ, List.replicate_zero, Nat.zero_add, Pl.execs, Pl.exec, Pl.evalT, Pl.evalE, Pl.evalVs, Pl.evalP, Pl.evalI, Pl.evalJ, List.getElem?_cons_zero, List.getElem?_cons_succ, Pl.Res.bind_ok, Pl.Res.bind_exc, Pl.Res.bind_stuck, Pl.Res.to_ok, Pl.Res.to_exc, Pl.Res.to_stuck, Pl.Res.calm_ok, Pl.SR.andThen_next, Pl.SR.andThen_ret, Pl.SR.andThen_brk, Pl.SR.andThen_cont, Pl.SR.andThen_exc, Pl.SR.andThen_stuck, Pl.gcE_self, Pl.gcX_self, Pl.optR_some, Pl.optR_none, Pl.EV.val_d, Pl.EV.val_own, Pl.EV.items_own, Pl.EV.items_brw, Pl.EV.items_lst, if_true, if_false, reduceIte, Bool.false_eq_true, Bool.not_true, Bool.not_false, List.set_cons_zero, List.set_cons_succ, Pl.wipeE, List.map_cons, List.map_nil, Pl.setE, Pl.bindT, Pl.bindNames, Nat.zero_lt_succ, Nat.succ_lt_succ_iff, Nat.lt_add_one, Pl.tru_bl, Pl.tru_int, Pl.its_tup, Pl.its_lst, Pl.its_own, Pl.its_brw, Pl.its_str, Pl.enum_tup, Pl.eq_int, Pl.ne_int, Pl.lt_int, Pl.le_int, Pl.gt_int, Pl.ge_int, Pl.add_int, Pl.sub_int, Pl.len_tup, Pl.len_own, Pl.len_brw, Pl.len_lst, Pl.idx_tup, Pl.idx_lst, Pl.idx_own, Pl.idx_brw, Pl.in_dic, Pl.nin_dic, Pl.idx_dic, Pl.is_non, Pl.isn_non, Pl.at_zero, Pl.at_one, sizeLine_eq, Nat.reduceAdd, Nat.reduceLeDiff, c2, decide_true]
          by_cases c3 : p = t
          · obtain ⟨y, hy⟩ := hy c1 c2
            simp only [Pl.runFn, List.length_cons, List.length_nil, Pl.startE_cons, Pl.startE_nil, Pl.repl_succ, List.replicate_zero, Nat.zero_add, Pl.execs, Pl.exec, Pl.evalT, Pl.evalE, Pl.evalVs, Pl.evalP, Pl.evalI, Pl.evalJ, List.getElem?_cons_zero, List.getElem?_cons_succ, Pl.Res.bind_ok, Pl.Res.bind_exc, Pl.Res.bind_stuck, Pl.Res.to_ok, Pl.Res.to_exc, Pl.Res.to_stuck, Pl.Res.calm_ok, Pl.SR.andThen_next, Pl.SR.andThen_ret, Pl.SR.andThen_brk, Pl.SR.andThen_cont, Pl.SR.andThen_exc, Pl.SR.andThen_stuck, Pl.gcE_self, Pl.gcX_self, Pl.optR_some, Pl.optR_none, Pl.EV.val_d, Pl.EV.val_own, Pl.EV.items_own, Pl.EV.items_brw, Pl.EV.items_lst, if_true, if_false, reduceIte, Bool.false_eq_true, Bool.not_true, Bool.not_false, List.set_cons_zero, List.set_cons_succ, Pl.wipeE, List.map_cons, List.map_nil, Pl.setE, Pl.bindT, Pl.bindNames, Nat.zero_lt_succ, Nat.succ_lt_succ_iff, Nat.lt_add_one, Pl.tru_bl, Pl.tru_int, Pl.its_tup, Pl.its_lst, Pl.its_own, Pl.its_brw, Pl.its_str, Pl.enum_tup, Pl.eq_int, Pl.ne_int, Pl.lt_int, Pl.le_int, Pl.gt_int, Pl.ge_int, Pl.add_int, Pl.sub_int, Pl.len_tup, Pl.len_own, Pl.len_brw, Pl.len_lst, Pl.idx_tup, Pl.idx_lst, Pl.idx_own, Pl.idx_brw, Pl.in_dic, Pl.nin_dic, Pl.idx_dic, Pl.is_non, Pl.isn_non, Pl.at_zero, Pl.at_one, sizeLine_eq, Nat.reduceAdd, Nat.reduceLeDiff, c3, decide_true, hy]
            refine .inr (.inl ⟨_, _, rfl, .inl ?_⟩)
            rw [e, toldV, if_pos ⟨c1, c2, c3⟩, hy]
            rfl
          · simp only [Pl.runFn, List.length_cons, List.length_nil, Pl.startE_cons, Pl.startE_nil, Pl.repl_succ, List.replicate_zero, Nat.zero_add, Pl.execs, Pl.exec, Pl.evalT, Pl.evalE, Pl.evalVs, Pl.evalP, Pl.evalI, Pl.evalJ, List.getElem?_cons_zero, List.getElem?_cons_succ, Pl.Res.bind_ok, Pl.Res.bind_exc, Pl.Res.bind_stuck, Pl.Res.to_ok, Pl.Res.to_exc, Pl.Res.to_stuck, Pl.Res.calm_ok, Pl.SR.andThen_next, Pl.SR.andThen_ret, Pl.SR.andThen_brk, Pl.SR.andThen_cont, Pl.SR.andThen_exc, Pl.SR.andThen_stuck, Pl.gcE_self, Pl.gcX_self, Pl.optR_some, Pl.optR_none, Pl.EV.val_d, Pl.EV.val_own, Pl.EV.items_own, Pl.EV.items_brw, Pl.EV.items_lst, if_true, if_false, reduceIte, Bool.false_eq_true, Bool.not_true, Bool.not_false, List.set_cons_zero, List.set_cons_succ, Pl.wipeE, List.map_cons, List.map_nil, Pl.setE, Pl.bindT, Pl.bindNames, Nat.zero_lt_succ, Nat.succ_lt_succ_iff, Nat.lt_add_one, Pl.tru_bl, Pl.tru_int, Pl.its_tup, Pl.its_lst, Pl.its_own, Pl.its_brw, Pl.its_str, Pl.enum_tup, Pl.eq_int, Pl.ne_int, Pl.lt_int, Pl.le_int, Pl.gt_int, Pl.ge_int, Pl.add_int, Pl.sub_int, Pl.len_tup, Pl.len_own, Pl.len_brw, Pl.len_lst, Pl.idx_tup, Pl.idx_lst, Pl.idx_own, Pl.idx_brw, Pl.in_dic, Pl.nin_dic, Pl.idx_dic, Pl.is_non, Pl.isn_non, Pl.at_zero, Pl.at_one, sizeLine_eq, Nat.reduceAdd, Nat.reduceLeDiff, c3, decide_false]
            refine .inl ⟨_, _, rfl, rfl, fun d hd => h1 d (List.mem_cons_of_mem _ hd), ?_, _, _, _, _, rfl⟩
            rw [e, toldV, if_neg fun z => c3 z.2.2]
        · simp only [Pl.runFn, List.length_cons, List.length_nil, Pl.startE_cons, Pl.startE_nil, Pl.repl_succ, List.replicate_zero, Nat.zero_add, Pl.execs, Pl.exec, Pl.evalT, Pl.evalE, Pl.evalVs, Pl.evalP, Pl.evalI, Pl.evalJ, List.getElem?_cons_zero, List.getElem?_cons_succ, Pl.Res.bind_ok, Pl.Res.bind_exc, Pl.Res.bind_stuck, Pl.Res.to_ok, Pl.Res.to_exc, Pl.Res.to_stuck, Pl.Res.calm_ok, Pl.SR.andThen_next, Pl.SR.andThen_ret, Pl.SR.andThen_brk, Pl.SR.andThen_cont, Pl.SR.andThen_exc, Pl.SR.andThen_stuck, Pl.gcE_self, Pl.gcX_self, Pl.optR_some, Pl.optR_none, Pl.EV.val_d, Pl.EV.val_own, Pl.EV.items_own, Pl.EV.items_brw, Pl.EV.items_lst, if_true, if_false, reduceIte, Bool.false_eq_true, Bool.not_true, Bool.not_false, List.set_cons_zero, List.set_cons_succ, Pl.wipeE, List.map_cons, List.map_nil, Pl.setE, Pl.bindT, Pl.bindNames, Nat.zero_lt_succ, Nat.succ_lt_succ_iff, Nat.lt_add_one, Pl.tru_bl, Pl.tru_int, Pl.its_tup, Pl.its_lst, Pl.its_own, Pl.its_brw, Pl.its_str, Pl.enum_tup, Pl.eq_int, Pl.ne_int, Pl.lt_int, Pl.le_int, Pl.gt_int, Pl.ge_int, Pl.add_int, Pl.sub_int, Pl.len_tup, Pl.len_own, Pl.len_brw, Pl.len_lst, Pl.idx_tup, Pl.idx_lst, Pl.idx_own, Pl.idx_brw, Pl.in_dic, Pl.nin_dic, Pl.idx_dic, Pl.is_non, Pl.isn_non, Pl.at_zero, Pl.at_one, sizeLine_eq, Nat.reduceAdd, Nat.reduceLeDiff, c2, decide_false]
          refine .inl ⟨_, _, rfl, rfl, fun d hd => h1 d (List.mem_cons_of_mem _ hd), ?_, _, _, _, _, rfl⟩
          rw [e, toldV, if_neg fun z => c2 z.2.1]
      · simp only [Pl.runFn, List.length_cons, List.length_nil, Pl.startE_cons, Pl.startE_nil, Pl.repl_succ, List.replicate_zero, Nat.zero_add, Pl.execs, Pl.exec, Pl.evalT, Pl.evalE, Pl.evalVs, Pl.evalP, Pl.evalI, Pl.evalJ, List.getElem?_cons_zero, List.getElem?_cons_succ, Pl.Res.bind_ok, Pl.Res.bind_exc, Pl.Res.bind_stuck, Pl.Res.to_ok, Pl.Res.to_exc, Pl.Res.to_stuck, Pl.Res.calm_ok, Pl.SR.andThen_next, Pl.SR.andThen_ret, Pl.SR.andThen_brk, Pl.SR.andThen_cont, Pl.SR.andThen_exc, Pl.SR.andThen_stuck, Pl.gcE_self, Pl.gcX_self, Pl.optR_some, Pl.optR_none, Pl.EV.val_d, Pl.EV.val_own, Pl.EV.items_own, Pl.EV.items_brw, Pl.EV.items_lst, if_true, if_false, reduceIte, Bool.false_eq_true, Bool.not_true, Bool.not_false, List.set_cons_zero, List.set_cons_succ, Pl.wipeE, List.map_cons, List.map_nil, Pl.setE, Pl.bindT, Pl.bindNames, Nat.zero_lt_succ, Nat.succ_lt_succ_iff, Nat.lt_add_one, Pl.tru_bl, Pl.tru_int, Pl.its_tup, Pl.its_lst, Pl.its_own, Pl.its_brw, Pl.its_str, Pl.enum_tup, Pl.eq_int, Pl.ne_int, Pl.lt_int, Pl.le_int, Pl.gt_int, Pl.ge_int, Pl.add_int, Pl.sub_int, Pl.len_tup, Pl.len_own, Pl.len_brw, Pl.len_lst, Pl.idx_tup, Pl.idx_lst, Pl.idx_own, Pl.idx_brw, Pl.in_dic, Pl.nin_dic, Pl.idx_dic, Pl.is_non, Pl.isn_non, Pl.at_zero, Pl.at_one, sizeLine_eq, Nat.reduceAdd, Nat.reduceLeDiff, c1, decide_false]
        refine .inl ⟨_, _, rfl, rfl, fun d hd => h1 d (List.mem_cons_of_mem _ hd), ?_, _, _, _, _, rfl⟩
        rw [e, toldV, if_neg fun z => c1 z.1]
  rcases hq with rfl | ⟨e, ρ, rfl⟩
  · simp only [Pl.runFn, List.length_cons, List.length_nil, Pl.startE_cons, Pl.startE_nil, Pl.repl_succ, List.replicate_zero, Nat.zero_add, Pl.execs, Pl.exec, Pl.evalT, Pl.evalE, Pl.evalVs, Pl.evalP, Pl.evalI, Pl.evalJ, List.getElem?_cons_zero, List.getElem?_cons_succ, Pl.Res.bind_ok, Pl.Res.bind_exc, Pl.Res.bind_stuck, Pl.Res.to_ok, Pl.Res.to_exc, Pl.Res.to_stuck, Pl.Res.calm_ok, Pl.SR.andThen_next, Pl.SR.andThen_ret, Pl.SR.andThen_brk, Pl.SR.andThen_cont, Pl.SR.andThen_exc, Pl.SR.andThen_stuck, Pl.gcE_self, Pl.gcX_self, Pl.optR_some, Pl.optR_none, Pl.EV.val_d, Pl.EV.val_own, Pl.EV.items_own, Pl.EV.items_brw, Pl.EV.items_lst, if_true, if_false, reduceIte, Bool.false_eq_true, Bool.not_true, Bool.not_false, List.set_cons_zero, List.set_cons_succ, Pl.wipeE, List.map_cons, List.map_nil, Pl.setE, Pl.bindT, Pl.bindNames, Nat.zero_lt_succ, Nat.succ_lt_succ_iff, Nat.lt_add_one, Pl.tru_bl, Pl.tru_int, Pl.its_tup, Pl.its_lst, Pl.its_own, Pl.its_brw, Pl.its_str, Pl.enum_tup, Pl.eq_int, Pl.ne_int, Pl.lt_int, Pl.le_int, Pl.gt_int, Pl.ge_int, Pl.add_int, Pl.sub_int, Pl.len_tup, Pl.len_own, Pl.len_brw, Pl.len_lst, Pl.idx_tup, Pl.idx_lst, Pl.idx_own, Pl.idx_brw, Pl.in_dic, Pl.nin_dic, Pl.idx_dic, Pl.is_non, Pl.isn_non, Pl.at_zero, Pl.at_one, sizeLine_eq, Nat.reduceAdd, Nat.reduceLeDiff]
  · simp only [Pl.runFn, List.length_cons, List.length_nil, Pl.startE_cons, Pl.startE_nil, Pl.repl_succ, List.replicate_zero, Nat.zero_add, Pl.execs, Pl.exec, Pl.evalT, Pl.evalE, Pl.evalVs, Pl.evalP, Pl.evalI, Pl.evalJ, List.getElem?_cons_zero, List.getElem?_cons_succ, Pl.Res.bind_ok, Pl.Res.bind_exc, Pl.Res.bind_stuck, Pl.Res.to_ok, Pl.Res.to_exc, Pl.Res.to_stuck, Pl.Res.calm_ok, Pl.SR.andThen_next, Pl.SR.andThen_ret, Pl.SR.andThen_brk, Pl.SR.andThen_cont, Pl.SR.andThen_exc, Pl.SR.andThen_stuck, Pl.gcE_self, Pl.gcX_self, Pl.optR_some, Pl.optR_none, Pl.EV.val_d, Pl.EV.val_own, Pl.EV.items_own, Pl.EV.items_brw, Pl.EV.items_lst, if_true, if_false, reduceIte, Bool.false_eq_true, Bool.not_true, Bool.not_false, List.set_cons_zero, List.set_cons_succ, Pl.wipeE, List.map_cons, List.map_nil, Pl.setE, Pl.bindT, Pl.bindNames, Nat.zero_lt_succ, Nat.succ_lt_succ_iff, Nat.lt_add_one, Pl.tru_bl, Pl.tru_int, Pl.its_tup, Pl.its_lst, Pl.its_own, Pl.its_brw, Pl.its_str, Pl.enum_tup, Pl.eq_int, Pl.ne_int, Pl.lt_int, Pl.le_int, Pl.gt_int, Pl.ge_int, Pl.add_int, Pl.sub_int, Pl.len_tup, Pl.len_own, Pl.len_brw, Pl.len_lst, Pl.idx_tup, Pl.idx_lst, Pl.idx_own, Pl.idx_brw, Pl.in_dic, Pl.nin_dic, Pl.idx_dic, Pl.is_non, Pl.isn_non, Pl.at_zero, Pl.at_one, sizeLine_eq, Nat.reduceAdd, Nat.reduceLeDiff, e]
end K20
end

section
set_option Elab.async false
set_option linter.all false
set_option maxRecDepth 100000
/-! k20: is_free. -/
namespace K20
open PySem hiding exec execs
open L2 Pl
def ovR : List D := match dOVER with
  | .tup r => r
  | _ => []
def alR : List D := match dALONE with
  | .tup r => r
  | _ => []
theorem look_OVER : gd.consts.lookup ("OVER" : Str) = some (D.tup ovR) := rfl
theorem look_ALONE : gd.consts.lookup ("ALONE" : Str) = some (D.tup alR) := rfl
def rowsB : Bool := (ovR ++ alR).all fun d => match d with
  | .tup [.str k, .str x, .int p, .int n] => PyData.strOk k && PyData.strOk x && decide (1 ≤ n) && match rowOf k x with
    | some ss => decide (ss[(n - 1).toNat]? = some (.str "name"))
    | none => false
  | _ => false
theorem rows_ok : rowsB = true := by decide +kernel
/-- a written node -/
structure Nd (f : D → Str → Bool) (sort w : Str) (ss args : List D) : Prop where
  hs : sort ∈ sK
  row : rowOf sort w = some ss
  len : ss.length = args.length
  sub : ∀ (i : Nat) (z : Str), ss[i]? = some (.str z) → ∃ a, args[i]? = some a ∧ f a z = true
theorem wr_node {n : Nat} {v : D} {sort : Str} (hs : sort ∈ sK) (h : isWr (n + 1) v sort = true) : ∃ w ss args, v = .tup (.str w :: args) ∧ Nd (isWr n) sort w ss args := by
  obtain ⟨ws, rs, e1, e2, _, _⟩ := tab_in hs
  rw [isWr_node e2] at h
  unfold ndWr at h
  split at h
  · rename_i w args
    split at h
    · rename_i ss er
      obtain ⟨h1, h2⟩ := Bool.and_eq_true_iff.mp h
      have h1 := of_decide_eq_true h1
      refine ⟨w, ss, args, rfl, hs, er, h1, fun i z hz => ?_⟩
      have hi : i < args.length := by rw [← h1]; exact (List.getElem?_eq_some_iff.mp hz).1
      have hm : D.tup [.int (i : Nat), .str z] ∈ enumD ss := by
        unfold enumD
        refine List.mem_map.mpr ⟨(.str z, i), ?_, rfl⟩
        exact List.mem_zipIdx_iff_getElem?.mpr (by simpa using hz)
      have q := List.all_eq_true.mp h2 _ hm
      refine ⟨args[i], List.getElem?_eq_getElem hi, ?_⟩
      have q' : isWr n (args.getD ((i : Nat) : Int).toNat .non) z = true := q
      simpa [hi] using q'
    · cases h
  · cases h
theorem wr_name {n : Nat} {v : D} (hv : sm v = true) (h : isWr n v "name" = true) : ∃ y, v = .str y ∧ okZ y := by
  cases n with
  | zero => cases h
  | succ n =>
    rw [isWr_leaf (tab_none (.head _)).2.2, leafWr, if_pos rfl] at h
    cases v with
    | str y => exact ⟨y, rfl, (sm_str hv).1⟩
    | _ => cases h
/-- what the rows tell of a node: a name of it -/
theorem row_at {n : Nat} {sort w : Str} {ss args : List D} (N : Nd (isWr n) sort w ss args) (hv : sms args = true) {d : D} (hd : d ∈ ovR ++ alR) : ∃ k x p j, d = .tup [.str k, .str x, .int p, .int j] ∧ okZ k ∧ okZ x ∧
    (k = sort → x = w → ∃ y, atI (.str w :: args) j = some (.str y) ∧ okZ y) := by
  have q := List.all_eq_true.mp rows_ok d hd
  split at q
  · rename_i k x p j
    simp only [Bool.and_eq_true, decide_eq_true_eq] at q
    obtain ⟨⟨⟨q1, q2⟩, q3⟩, q4⟩ := q
    refine ⟨k, x, p, j, rfl, q1, q2, fun e1 e2 => ?_⟩
    subst e1 e2
    rw [N.row] at q4
    obtain ⟨a, e, hw⟩ := N.sub _ _ (of_decide_eq_true q4)
    obtain ⟨y, rfl, hy⟩ := wr_name (sms_mem hv (List.mem_of_getElem? e)) hw
    refine ⟨y, ?_, hy⟩
    have ej : j = (((j - 1).toNat : Nat) : Int) + 1 := by omega
    rw [ej, at_one]
    simpa using e
  · cases q
theorem told_str {n : Nat} {sort w : Str} {ss args : List D} (N : Nd (isWr n) sort w ss args) (hv : sms args = true) (t : Int) : ∀ rows : List D, (∀ d ∈ rows, d ∈ ovR ++ alR) → toldV sort w t (.str w :: args) rows = .non ∨ ∃ y, toldV sort w t (.str w :: args) rows = .str y ∧ okZ y
  | [], _ => .inl rfl
  | d :: rows, h => by
    obtain ⟨k, x, p, j, rfl, _, _, hy⟩ := row_at N hv (h d List.mem_cons_self)
    rw [toldV]
    by_cases c : k = sort ∧ x = w ∧ p = t
    · rw [if_pos c]
      obtain ⟨y, e, oy⟩ := hy c.1 c.2.1
      exact .inr ⟨y, by rw [e]; rfl, oy⟩
    · rw [if_neg c]
      exact told_str N hv t rows fun d hd => h d (List.mem_cons_of_mem _ hd)
theorem s_name_over (k : Nat) {n : Nat} {sort w : Str} {t : Int} {ss args : List D} (S : Sto) (N : Nd (isWr n) sort w ss args) (hv : sms args = true) (hw : okZ w) : R (k + 2) "name_over" [.tup (.str w :: args), .str sort, .int t] S = .ok (.d (toldV sort w t (.str w :: args) ovR)) S := by
  rw [show k + 2 = (k + 1) + 1 from rfl, R_name_over]
  unfold n_name_over
  simp only [Pl.runFn, List.length_cons, List.length_nil, Pl.startE_cons, Pl.startE_nil, Pl.repl_succ, List.replicate_zero, Nat.zero_add, Pl.execs, Pl.exec, Pl.evalT, Pl.evalE, Pl.evalVs, Pl.evalP, Pl.evalI, Pl.evalJ, List.getElem?_cons_zero, List.getElem?_cons_succ, Pl.Res.bind_ok, Pl.Res.bind_exc, Pl.Res.bind_stuck, Pl.Res.to_ok, Pl.Res.to_exc, Pl.Res.to_stuck, Pl.Res.calm_ok, Pl.SR.andThen_next, Pl.SR.andThen_ret, Pl.SR.andThen_brk, Pl.SR.andThen_cont, Pl.SR.andThen_exc, Pl.SR.andThen_stuck, Pl.gcE_self, Pl.gcX_self, Pl.optR_some, Pl.optR_none, Pl.EV.val_d, Pl.EV.val_own, Pl.EV.items_own, Pl.EV.items_brw, Pl.EV.items_lst, if_true, if_false, reduceIte, Bool.false_eq_true, Bool.not_true, Bool.not_false, List.set_cons_zero, List.set_cons_succ, Pl.wipeE, List.map_cons, List.map_nil, Pl.setE, Pl.bindT, Pl.bindNames, Nat.zero_lt_succ, Nat.succ_lt_succ_iff, Nat.lt_add_one, Pl.tru_bl, Pl.tru_int, Pl.its_tup, Pl.its_lst, Pl.its_own, Pl.its_brw, Pl.its_str, Pl.enum_tup, Pl.eq_int, Pl.ne_int, Pl.lt_int, Pl.le_int, Pl.gt_int, Pl.ge_int, Pl.add_int, Pl.sub_int, Pl.len_tup, Pl.len_own, Pl.len_brw, Pl.len_lst, Pl.idx_tup, Pl.idx_lst, Pl.idx_own, Pl.idx_brw, Pl.in_dic, Pl.nin_dic, Pl.idx_dic, Pl.is_non, Pl.isn_non, Pl.at_zero, Pl.at_one, sizeLine_eq, Nat.reduceAdd, Nat.reduceLeDiff, look_OVER]
  rw [s_told_name k S (okZ_sort (.inl N.hs)) hw fun d hd => ?_]
  · simp only [Pl.runFn, List.length_cons, List.length_nil, Pl.startE_cons, Pl.startE_nil, Pl.repl_succ, List.replicate_zero, Nat.zero_add, Pl.execs, Pl.exec, Pl.evalT, Pl.evalE, Pl.evalVs, Pl.evalP, Pl.evalI, Pl.evalJ, List.getElem?_cons_zero, List.getElem?_cons_succ, Pl.Res.bind_ok, Pl.Res.bind_exc, Pl.Res.bind_stuck, Pl.Res.to_ok, Pl.Res.to_exc, Pl.Res.to_stuck, Pl.Res.calm_ok, Pl.SR.andThen_next, Pl.SR.andThen_ret, Pl.SR.andThen_brk, Pl.SR.andThen_cont, Pl.SR.andThen_exc, Pl.SR.andThen_stuck, Pl.gcE_self, Pl.gcX_self, Pl.optR_some, Pl.optR_none, Pl.EV.val_d, Pl.EV.val_own, Pl.EV.items_own, Pl.EV.items_brw, Pl.EV.items_lst, if_true, if_false, reduceIte, Bool.false_eq_true, Bool.not_true, Bool.not_false, List.set_cons_zero, List.set_cons_succ, Pl.wipeE, List.map_cons, List.map_nil, Pl.setE, Pl.bindT, Pl.bindNames, Nat.zero_lt_succ, Nat.succ_lt_succ_iff, Nat.lt_add_one, Pl.tru_bl, Pl.tru_int, Pl.its_tup, Pl.its_lst, Pl.its_own, Pl.its_brw, Pl.its_str, Pl.enum_tup, Pl.eq_int, Pl.ne_int, Pl.lt_int, Pl.le_int, Pl.gt_int, Pl.ge_int, Pl.add_int, Pl.sub_int, Pl.len_tup, Pl.len_own, Pl.len_brw, Pl.len_lst, Pl.idx_tup, Pl.idx_lst, Pl.idx_own, Pl.idx_brw, Pl.in_dic, Pl.nin_dic, Pl.idx_dic, Pl.is_non, Pl.isn_non, Pl.at_zero, Pl.at_one, sizeLine_eq, Nat.reduceAdd, Nat.reduceLeDiff]
  · obtain ⟨k, x, p, j, e, o1, o2, hy⟩ := row_at N hv (List.mem_append_left _ hd)
    exact ⟨k, x, p, j, e, o1, o2, fun a b => let ⟨y, z, _⟩ := hy a b; ⟨_, z⟩⟩
theorem s_name_alone (k : Nat) {n : Nat} {sort w : Str} {t : Int} {ss args : List D} (S : Sto) (N : Nd (isWr n) sort w ss args) (hv : sms args = true) (hw : okZ w) : R (k + 2) "name_alone" [.tup (.str w :: args), .str sort, .int t] S = .ok (.d (toldV sort w t (.str w :: args) alR)) S := by
  rw [show k + 2 = (k + 1) + 1 from rfl, R_name_alone]
  unfold n_name_alone
  simp only [Pl.runFn, List.length_cons, List.length_nil, Pl.startE_cons, Pl.startE_nil, Pl.repl_succ, List.replicate_zero, Nat.zero_add, Pl.execs, Pl.exec, Pl.evalT, Pl.evalE, Pl.evalVs, Pl.evalP, Pl.evalI, Pl.evalJ, List.getElem?_cons_zero, List.getElem?_cons_succ, Pl.Res.bind_ok, Pl.Res.bind_exc, Pl.Res.bind_stuck, Pl.Res.to_ok, Pl.Res.to_exc, Pl.Res.to_stuck, Pl.Res.calm_ok, Pl.SR.andThen_next, Pl.SR.andThen_ret, Pl.SR.andThen_brk, Pl.SR.andThen_cont, Pl.SR.andThen_exc, Pl.SR.andThen_stuck, Pl.gcE_self, Pl.gcX_self, Pl.optR_some, Pl.optR_none, Pl.EV.val_d, Pl.EV.val_own, Pl.EV.items_own, Pl.EV.items_brw, Pl.EV.items_lst, if_true, if_false, reduceIte, Bool.false_eq_true, Bool.not_true, Bool.not_false, List.set_cons_zero, List.set_cons_succ, Pl.wipeE, List.map_cons, List.map_nil, Pl.setE, Pl.bindT, Pl.bindNames, Nat.zero_lt_succ, Nat.succ_lt_succ_iff, Nat.lt_add_one, Pl.tru_bl, Pl.tru_int, Pl.its_tup, Pl.its_lst, Pl.its_own, Pl.its_brw, Pl.its_str, Pl.enum_tup, Pl.eq_int, Pl.ne_int, Pl.lt_int, Pl.le_int, Pl.gt_int, Pl.ge_int, Pl.add_int, Pl.sub_int, Pl.len_tup, Pl.len_own, Pl.len_brw, Pl.len_lst, Pl.idx_tup, Pl.idx_lst, Pl.idx_own, Pl.idx_brw, Pl.in_dic, Pl.nin_dic, Pl.idx_dic, Pl.is_non, Pl.isn_non, Pl.at_zero, Pl.at_one, sizeLine_eq, Nat.reduceAdd, Nat.reduceLeDiff, look_ALONE]
  rw [s_told_name k S (okZ_sort (.inl N.hs)) hw fun d hd => ?_]
  · simp only [Pl.runFn, List.length_cons, List.length_nil, Pl.startE_cons, Pl.startE_nil, Pl.repl_succ, List.replicate_zero, Nat.zero_add, Pl.execs, Pl.exec, Pl.evalT, Pl.evalE, Pl.evalVs, Pl.evalP, Pl.evalI, Pl.evalJ, List.getElem?_cons_zero, List.getElem?_cons_succ, Pl.Res.bind_ok, Pl.Res.bind_exc, Pl.Res.bind_stuck, Pl.Res.to_ok, Pl.Res.to_exc, Pl.Res.to_stuck, Pl.Res.calm_ok, Pl.SR.andThen_next, Pl.SR.andThen_ret, Pl.SR.andThen_brk, Pl.SR.andThen_cont, Pl.SR.andThen_exc, Pl.SR.andThen_stuck, Pl.gcE_self, Pl.gcX_self, Pl.optR_some, Pl.optR_none, Pl.EV.val_d, Pl.EV.val_own, Pl.EV.items_own, Pl.EV.items_brw, Pl.EV.items_lst, if_true, if_false, reduceIte, Bool.false_eq_true, Bool.not_true, Bool.not_false, List.set_cons_zero, List.set_cons_succ, Pl.wipeE, List.map_cons, List.map_nil, Pl.setE, Pl.bindT, Pl.bindNames, Nat.zero_lt_succ, Nat.succ_lt_succ_iff, Nat.lt_add_one, Pl.tru_bl, Pl.tru_int, Pl.its_tup, Pl.its_lst, Pl.its_own, Pl.its_brw, Pl.its_str, Pl.enum_tup, Pl.eq_int, Pl.ne_int, Pl.lt_int, Pl.le_int, Pl.gt_int, Pl.ge_int, Pl.add_int, Pl.sub_int, Pl.len_tup, Pl.len_own, Pl.len_brw, Pl.len_lst, Pl.idx_tup, Pl.idx_lst, Pl.idx_own, Pl.idx_brw, Pl.in_dic, Pl.nin_dic, Pl.idx_dic, Pl.is_non, Pl.isn_non, Pl.at_zero, Pl.at_one, sizeLine_eq, Nat.reduceAdd, Nat.reduceLeDiff]
  · obtain ⟨k, x, p, j, e, o1, o2, hy⟩ := row_at N hv (List.mem_append_right _ hd)
    exact ⟨k, x, p, j, e, o1, o2, fun a b => let ⟨y, z, _⟩ := hy a b; ⟨_, z⟩⟩
theorem mem_parts {sort w : Str} {ss : List D} (hs : sort ∈ sK) (h : rowOf sort w = some ss) {p : D} (hp : p ∈ partsD sort w) : ∃ (i : Nat) (z : Str), p = .tup [.int ((i : Int) + 1), .str z] ∧ ss[i]? = some (.str z) ∧ z ∈ sK := by
  unfold partsD at hp
  rw [h] at hp
  obtain ⟨q, hq, rfl⟩ := List.mem_map.mp hp
  obtain ⟨hq1, hq2⟩ := List.mem_filter.mp hq
  obtain ⟨i, y, rfl, hy⟩ := mem_enumD hq1
  obtain ⟨z, rfl, _⟩ := (row_sorts hs h).2 y (List.mem_of_getElem? hy)
  exact ⟨i, z, rfl, hy, List.contains_iff_mem.mp hq2⟩
def frP (f : D → Str → Bool) (sort w : Str) (xs : List D) (nm : Str) : D → Bool
  | .tup [.int t, .str part] => decide (toldV sort w t xs alR = .non) && !decide (toldV sort w t xs ovR = .str nm) && f ((atI xs t).getD .non) part
  | _ => false
def ndFr (f : D → Str → Bool) (sort nm : Str) : D → Bool
  | .tup (.str w :: args) => if sort = "term" ∧ w = "name" then decide (args.head? = some (.str nm)) else (partsD sort w).any (frP f sort w (.str w :: args) nm)
  | _ => false
def isFr : Nat → D → Str → Str → Bool
  | 0, _, _, _ => false
  | n + 1, v, sort, nm => if sort = "kind" then false else ndFr (fun d s => isFr n d s nm) sort nm v
theorem at1 {α : Type} (x y : α) (r : List α) : atI (x :: y :: r) 1 = some y := by
  have := at_one (x :: y :: r) 0
  simpa using this
theorem ne_told {d : D} {nm : Str} {S : Sto} (hn : okZ nm) (h : d = .non ∨ ∃ y, d = .str y ∧ okZ y) : cmpV .NotEq S (.d d) (.d (.str nm)) = some (!decide (d = .str nm)) := by
  rcases h with rfl | ⟨y, rfl, oy⟩
  · rw [ne_non_str hn]
    rfl
  · rw [ne_str oy hn]
    by_cases e : y = nm
    · subst e; simp
    · have : ¬ D.str y = D.str nm := fun z => e (D.str.inj z)
      simp [e, this]
theorem s_is_free : ∀ (n : Nat) (v : D) (sort nm : Str) (S : Sto), sm v = true → dep v ≤ n → sort ∈ sK → isWr (n + 1) v sort = true → okZ nm → R (n + 6) "is_free" [v, .str sort, .str nm] S = .ok (.d (.bl (isFr (n + 1) v sort nm))) S := by
  intro n
  induction n using Nat.strongRecOn with
  | ind n ih =>
    intro v sort nm S hsm hd hs hw hn
    obtain ⟨w, ss, args, rfl, N⟩ := wr_node hs hw
    obtain ⟨m1, m2⟩ := sm_tup hsm
    have hw0 : okZ w := (sm_str (sms_mem m2 List.mem_cons_self)).1
    have ms : sms args = true := (Bool.and_eq_true_iff.mp (show (sm (.str w) && sms args) = true from m2)).2
    rw [show n + 6 = (n + 5) + 1 from rfl, R_is_free]
    unfold n_is_free
    simp only [Pl.runFn, List.length_cons, List.length_nil, Pl.startE_cons, Pl.startE_nil, Pl.repl_succ, List.replicate_zero, Nat.zero_add, Pl.execs, Pl.exec, Pl.evalT, Pl.evalE, Pl.evalVs, Pl.evalP, Pl.evalI, Pl.evalJ, List.getElem?_cons_zero, List.getElem?_cons_succ, Pl.Res.bind_ok, Pl.Res.bind_exc, Pl.Res.bind_stuck, Pl.Res.to_ok, Pl.Res.to_exc, Pl.Res.to_stuck, Pl.Res.calm_ok, Pl.SR.andThen_next, Pl.SR.andThen_ret, Pl.SR.andThen_brk, Pl.SR.andThen_cont, Pl.SR.andThen_exc, Pl.SR.andThen_stuck, Pl.gcE_self, Pl.gcX_self, Pl.optR_some, Pl.optR_none, Pl.EV.val_d, Pl.EV.val_own, Pl.EV.items_own, Pl.EV.items_brw, Pl.EV.items_lst, if_true, if_false, reduceIte, Bool.false_eq_true, Bool.not_true, Bool.not_false, List.set_cons_zero, List.set_cons_succ, Pl.wipeE, List.map_cons, List.map_nil, Pl.setE, Pl.bindT, Pl.bindNames, Nat.zero_lt_succ, Nat.succ_lt_succ_iff, Nat.lt_add_one, Pl.tru_bl, Pl.tru_int, Pl.its_tup, Pl.its_lst, Pl.its_own, Pl.its_brw, Pl.its_str, Pl.enum_tup, Pl.eq_int, Pl.ne_int, Pl.lt_int, Pl.le_int, Pl.gt_int, Pl.ge_int, Pl.add_int, Pl.sub_int, Pl.len_tup, Pl.len_own, Pl.len_brw, Pl.len_lst, Pl.idx_tup, Pl.idx_lst, Pl.idx_own, Pl.idx_brw, Pl.in_dic, Pl.nin_dic, Pl.idx_dic, Pl.is_non, Pl.isn_non, Pl.at_zero, Pl.at_one, sizeLine_eq, Nat.reduceAdd, Nat.reduceLeDiff, eq_str (okZ_sort (.inl hs)) (show okZ "kind" from by decide +kernel), eq_str (okZ_sort (.inl hs)) (show okZ "term" from by decide +kernel), eq_str hw0 (show okZ "name" from by decide +kernel)]
    rw [isFr]
    by_cases c1 : sort = "kind"
    · simp only [Pl.runFn, List.length_cons, List.length_nil, Pl.startE_cons, Pl.startE_nil, Pl.repl_succ, List.replicate_zero, Nat.zero_add, Pl.execs, Pl.exec, Pl.evalT, Pl.evalE, Pl.evalVs, Pl.evalP, Pl.evalI, Pl.evalJ, List.getElem?_cons_zero, List.getElem?_cons_succ, Pl.Res.bind_ok, Pl.Res.bind_exc, Pl.Res.bind_stuck, Pl.Res.to_ok, Pl.Res.to_exc, Pl.Res.to_stuck, Pl.Res.calm_ok, Pl.SR.andThen_next, Pl.SR.andThen_ret, Pl.SR.andThen_brk, Pl.SR.andThen_cont, Pl.SR.andThen_exc, Pl.SR.andThen_stuck, Pl.gcE_self, Pl.gcX_self, Pl.optR_some, Pl.optR_none, Pl.EV.val_d, Pl.EV.val_own, Pl.EV.items_own, Pl.EV.items_brw, Pl.EV.items_lst, if_true, if_false, reduceIte, Bool.false_eq_true, Bool.not_true, Bool.not_false, List.set_cons_zero, List.set_cons_succ, Pl.wipeE, List.map_cons, List.map_nil, Pl.setE, Pl.bindT, Pl.bindNames, Nat.zero_lt_succ, Nat.succ_lt_succ_iff, Nat.lt_add_one, Pl.tru_bl, Pl.tru_int, Pl.its_tup, Pl.its_lst, Pl.its_own, Pl.its_brw, Pl.its_str, Pl.enum_tup, Pl.eq_int, Pl.ne_int, Pl.lt_int, Pl.le_int, Pl.gt_int, Pl.ge_int, Pl.add_int, Pl.sub_int, Pl.len_tup, Pl.len_own, Pl.len_brw, Pl.len_lst, Pl.idx_tup, Pl.idx_lst, Pl.idx_own, Pl.idx_brw, Pl.in_dic, Pl.nin_dic, Pl.idx_dic, Pl.is_non, Pl.isn_non, Pl.at_zero, Pl.at_one, sizeLine_eq, Nat.reduceAdd, Nat.reduceLeDiff, c1, decide_true]
    · simp only [Pl.runFn, List.length_cons, List.length_nil, Pl.startE_cons, Pl.startE_nil, Pl.repl_succ, List.replicate_zero, Nat.zero_add, Pl.execs, Pl.exec, Pl.evalT, Pl.evalE, Pl.evalVs, Pl.evalP, Pl.evalI, Pl.evalJ, List.getElem?_cons_zero, List.getElem?_cons_succ, Pl.Res.bind_ok, Pl.Res.bind_exc, Pl.Res.bind_stuck, Pl.Res.to_ok, Pl.Res.to_exc, Pl.Res.to_stuck, Pl.Res.calm_ok, Pl.SR.andThen_next, Pl.SR.andThen_ret, Pl.SR.andThen_brk, Pl.SR.andThen_cont, Pl.SR.andThen_exc, Pl.SR.andThen_stuck, Pl.gcE_self, Pl.gcX_self, Pl.optR_some, Pl.optR_none, Pl.EV.val_d, Pl.EV.val_own, Pl.EV.items_own, Pl.EV.items_brw, Pl.EV.items_lst, if_true, if_false, reduceIte, Bool.false_eq_true, Bool.not_true, Bool.not_false, List.set_cons_zero, List.set_cons_succ, Pl.wipeE, List.map_cons, List.map_nil, Pl.setE, Pl.bindT, Pl.bindNames, Nat.zero_lt_succ, Nat.succ_lt_succ_iff, Nat.lt_add_one, Pl.tru_bl, Pl.tru_int, Pl.its_tup, Pl.its_lst, Pl.its_own, Pl.its_brw, Pl.its_str, Pl.enum_tup, Pl.eq_int, Pl.ne_int, Pl.lt_int, Pl.le_int, Pl.gt_int, Pl.ge_int, Pl.add_int, Pl.sub_int, Pl.len_tup, Pl.len_own, Pl.len_brw, Pl.len_lst, Pl.idx_tup, Pl.idx_lst, Pl.idx_own, Pl.idx_brw, Pl.in_dic, Pl.nin_dic, Pl.idx_dic, Pl.is_non, Pl.isn_non, Pl.at_zero, Pl.at_one, sizeLine_eq, Nat.reduceAdd, Nat.reduceLeDiff, c1, decide_false, eq_str (okZ_sort (.inl hs)) (show okZ "term" from by decide +kernel), eq_str hw0 (show okZ "name" from by decide +kernel)]
      rw [ndFr]
      by_cases c2 : sort = "term" ∧ w = "name"
      · obtain ⟨rfl, rfl⟩ := c2
        have er : rowOf "term" "name" = some [.str "name"] := by decide +kernel
        have e2 := N.row
        rw [er] at e2
        cases e2
        obtain ⟨a, ea, hwa⟩ := N.sub 0 "name" rfl
        have hl := N.len
        cases args with
        | nil => cases ea
        | cons b args =>
          cases args with
          | cons _ _ => simp at hl
          | nil =>
            cases ea
            obtain ⟨y, rfl, oy⟩ := wr_name (sms_mem ms List.mem_cons_self) hwa
            simp only [Pl.runFn, List.length_cons, List.length_nil, Pl.startE_cons, Pl.startE_nil, Pl.repl_succ, List.replicate_zero, Nat.zero_add, Pl.execs, Pl.exec, Pl.evalT, Pl.evalE, Pl.evalVs, Pl.evalP, Pl.evalI, Pl.evalJ, List.getElem?_cons_zero, List.getElem?_cons_succ, Pl.Res.bind_ok, Pl.Res.bind_exc, Pl.Res.bind_stuck, Pl.Res.to_ok, Pl.Res.to_exc, Pl.Res.to_stuck, Pl.Res.calm_ok, Pl.SR.andThen_next, Pl.SR.andThen_ret, Pl.SR.andThen_brk, Pl.SR.andThen_cont, Pl.SR.andThen_exc, Pl.SR.andThen_stuck, Pl.gcE_self, Pl.gcX_self, Pl.optR_some, Pl.optR_none, Pl.EV.val_d, Pl.EV.val_own, Pl.EV.items_own, Pl.EV.items_brw, Pl.EV.items_lst, if_true, if_false, reduceIte, Bool.false_eq_true, Bool.not_true, Bool.not_false, List.set_cons_zero, List.set_cons_succ, Pl.wipeE, List.map_cons, List.map_nil, Pl.setE, Pl.bindT, Pl.bindNames, Nat.zero_lt_succ, Nat.succ_lt_succ_iff, Nat.lt_add_one, Pl.tru_bl, Pl.tru_int, Pl.its_tup, Pl.its_lst, Pl.its_own, Pl.its_brw, Pl.its_str, Pl.enum_tup, Pl.eq_int, Pl.ne_int, Pl.lt_int, Pl.le_int, Pl.gt_int, Pl.ge_int, Pl.add_int, Pl.sub_int, Pl.len_tup, Pl.len_own, Pl.len_brw, Pl.len_lst, Pl.idx_tup, Pl.idx_lst, Pl.idx_own, Pl.idx_brw, Pl.in_dic, Pl.nin_dic, Pl.idx_dic, Pl.is_non, Pl.isn_non, Pl.at_zero, Pl.at_one, sizeLine_eq, Nat.reduceAdd, Nat.reduceLeDiff, decide_true, at1, eq_str oy hn]
            rw [if_pos ⟨trivial, trivial⟩]
            by_cases e : y = nm
            · subst e; simp
            · have : ¬ D.str y = D.str nm := fun z => e (D.str.inj z)
              simp [e, this]
      · rw [if_neg c2]
        have c3 : (if decide (sort = Str.ofString "term") = true then (Res.ok (decide (w = Str.ofString "name")) S : Res Bool) else Res.ok false S) = Res.ok false S := by
          by_cases q : sort = Str.ofString "term"
          · rw [if_pos (decide_eq_true q), decide_eq_false fun z => c2 ⟨q, z⟩]
          · rw [if_neg (by rw [decide_eq_false q]; exact Bool.false_ne_true)]
        simp only [Pl.runFn, List.length_cons, List.length_nil, Pl.startE_cons, Pl.startE_nil, Pl.repl_succ, List.replicate_zero, Nat.zero_add, Pl.execs, Pl.exec, Pl.evalT, Pl.evalE, Pl.evalVs, Pl.evalP, Pl.evalI, Pl.evalJ, List.getElem?_cons_zero, List.getElem?_cons_succ, Pl.Res.bind_ok, Pl.Res.bind_exc, Pl.Res.bind_stuck, Pl.Res.to_ok, Pl.Res.to_exc, Pl.Res.to_stuck, Pl.Res.calm_ok, Pl.SR.andThen_next, Pl.SR.andThen_ret, Pl.SR.andThen_brk, Pl.SR.andThen_cont, Pl.SR.andThen_exc, Pl.SR.andThen_stuck, Pl.gcE_self, Pl.gcX_self, Pl.optR_some, Pl.optR_none, Pl.EV.val_d, Pl.EV.val_own, Pl.EV.items_own, Pl.EV.items_brw, Pl.EV.items_lst, if_true, if_false, reduceIte, Bool.false_eq_true, Bool.not_true, Bool.not_false, List.set_cons_zero, List.set_cons_succ, Pl.wipeE, List.map_cons, List.map_nil, Pl.setE, Pl.bindT, Pl.bindNames, Nat.zero_lt_succ, Nat.succ_lt_succ_iff, Nat.lt_add_one, Pl.tru_bl, Pl.tru_int, Pl.its_tup, Pl.its_lst, Pl.its_own, Pl.its_brw, Pl.its_str, Pl.enum_tup, Pl.eq_int, Pl.ne_int, Pl.lt_int, Pl.le_int, Pl.gt_int, Pl.ge_int, Pl.add_int, Pl.sub_int, Pl.len_tup, Pl.len_own, Pl.len_brw, Pl.len_lst, Pl.idx_tup, Pl.idx_lst, Pl.idx_own, Pl.idx_brw, Pl.in_dic, Pl.nin_dic, Pl.idx_dic, Pl.is_non, Pl.isn_non, Pl.at_zero, Pl.at_one, sizeLine_eq, Nat.reduceAdd, Nat.reduceLeDiff, c3, s_parts_of (n + 4) S hs N.row]
        generalize hf : forLoop _ _ _ _ _ = r
        have hq : (r = .ret (.d (.bl true)) S ∧ (partsD sort w).any (frP (fun d s => isFr n d s nm) sort w (.str w :: args) nm) = true) ∨ ((partsD sort w).any (frP (fun d s => isFr n d s nm) sort w (.str w :: args) nm) = false ∧ ∃ ρ, r = .next ρ S) := by
          rw [← hf]
          refine for_inv (fun xs ρ S' => S = S' ∧ (∀ p ∈ xs, p ∈ partsD sort w) ∧ (partsD sort w).any (frP (fun d s => isFr n d s nm) sort w (.str w :: args) nm) = xs.any (frP (fun d s => isFr n d s nm) sort w (.str w :: args) nm) ∧
            ∃ a b, ρ = [some (.d (.tup (.str w :: args))), some (.d (.str sort)), some (.d (.str nm)), a, b])
            (fun r => (r = .ret (.d (.bl true)) S ∧ (partsD sort w).any (frP (fun d s => isFr n d s nm) sort w (.str w :: args) nm) = true) ∨ ((partsD sort w).any (frP (fun d s => isFr n d s nm) sort w (.str w :: args) nm) = false ∧ ∃ ρ, r = .next ρ S))
            (partsD sort w) _ S ⟨rfl, fun _ h => h, rfl, _, _, rfl⟩ (fun _ _ _ _ => rfl) ?_ ?_
          · rintro ρ S' ⟨rfl, _, e, _⟩
            exact .inr ⟨e, _, rfl⟩
          · rintro x xs ρ S' ⟨rfl, h1, e, a, b, rfl⟩
            obtain ⟨i, z, rfl, hz, hzk⟩ := mem_parts hs N.row (h1 x List.mem_cons_self)
            obtain ⟨y, ey, hy⟩ := N.sub i z hz
            have ex : (D.str w :: args)[i + 1]? = some y := by simpa using ey
            have hov := told_str N ms ((i : Int) + 1) ovR fun d hd => List.mem_append_left _ hd
            have step : (frP (fun d s => isFr n d s nm) sort w (.str w :: args) nm) (.tup [.int ((i : Int) + 1), .str z]) = (decide (toldV sort w ((i : Int) + 1) (.str w :: args) alR = .non) && !decide (toldV sort w ((i : Int) + 1) (.str w :: args) ovR = .str nm) && isFr n y z nm) := by
              rw [frP, at_one, ex]
              rfl
            have on : ∀ d ∈ xs, d ∈ partsD sort w := fun d hd => h1 d (List.mem_cons_of_mem _ hd)
            simp only [Pl.runFn, List.length_cons, List.length_nil, Pl.startE_cons, Pl.startE_nil, Pl.repl_succ, List.replicate_zero, Nat.zero_add, Pl.execs, Pl.exec, Pl.evalT, Pl.evalE, Pl.evalVs, Pl.evalP, Pl.evalI, Pl.evalJ, List.getElem?_cons_zero, List.getElem?_cons_succ, Pl.Res.bind_ok, Pl.Res.bind_exc, Pl.Res.bind_stuck, Pl.Res.to_ok, Pl.Res.to_exc, Pl.Res.to_stuck, Pl.Res.calm_ok, Pl.SR.andThen_next, Pl.SR.andThen_ret, Pl.SR.andThen_brk, Pl.SR.andThen_cont, Pl.SR.andThen_exc, Pl.SR.andThen_stuck, Pl.gcE_self, Pl.gcX_self, Pl.optR_some, Pl.optR_none, Pl.EV.val_d, Pl.EV.val_own, Pl.EV.items_own, Pl.EV.items_brw, Pl.EV.items_lst, if_true, if_false, reduceIte, Bool.false_eq_true, Bool.not_true, Bool.not_false, List.set_cons_zero, List.set_cons_succ, Pl.wipeE, List.map_cons, List.map_nil, Pl.setE, Pl.bindT, Pl.bindNames, Nat.zero_lt_succ, Nat.succ_lt_succ_iff, Nat.lt_add_one, Pl.tru_bl, Pl.tru_int, Pl.its_tup, Pl.its_lst, Pl.its_own, Pl.its_brw, Pl.its_str, Pl.enum_tup, Pl.eq_int, Pl.ne_int, Pl.lt_int, Pl.le_int, Pl.gt_int, Pl.ge_int, Pl.add_int, Pl.sub_int, Pl.len_tup, Pl.len_own, Pl.len_brw, Pl.len_lst, Pl.idx_tup, Pl.idx_lst, Pl.idx_own, Pl.idx_brw, Pl.in_dic, Pl.nin_dic, Pl.idx_dic, Pl.is_non, Pl.isn_non, Pl.at_zero, Pl.at_one, sizeLine_eq, Nat.reduceAdd, Nat.reduceLeDiff, s_name_alone (n + 3) S N ms hw0, s_name_over (n + 3) S N ms hw0, ne_told hn hov, ex, EV.d.injEq]
            by_cases c5 : toldV sort w ((i : Int) + 1) (.str w :: args) alR = .non
            · by_cases c6 : toldV sort w ((i : Int) + 1) (.str w :: args) ovR = .str nm
              · simp only [Pl.runFn, List.length_cons, List.length_nil, Pl.startE_cons, Pl.startE_nil, Pl.repl_succ, List.replicate_zero, Nat.zero_add, Pl.execs, Pl.exec, Pl.evalT, Pl.evalE, Pl.evalVs, Pl.evalP, Pl.evalI, Pl.evalJ, List.getElem?_cons_zero, List.getElem?_cons_succ, Pl.Res.bind_ok, Pl.Res.bind_exc, Pl.Res.bind_stuck, Pl.Res.to_ok, Pl.Res.to_exc, Pl.Res.to_stuck, Pl.Res.calm_ok, Pl.SR.andThen_next, Pl.SR.andThen_ret, Pl.SR.andThen_brk, Pl.SR.andThen_cont, Pl.SR.andThen_exc, Pl.SR.andThen_stuck, Pl.gcE_self, Pl.gcX_self, Pl.optR_some, Pl.optR_none, Pl.EV.val_d, Pl.EV.val_own, Pl.EV.items_own, Pl.EV.items_brw, Pl.EV.items_lst, if_true, if_false, reduceIte, Bool.false_eq_true, Bool.not_true, Bool.not_false, List.set_cons_zero, List.set_cons_succ, Pl.wipeE, List.map_cons, List.map_nil, Pl.setE, Pl.bindT, Pl.bindNames, Nat.zero_lt_succ, Nat.succ_lt_succ_iff, Nat.lt_add_one, Pl.tru_bl, Pl.tru_int, Pl.its_tup, Pl.its_lst, Pl.its_own, Pl.its_brw, Pl.its_str, Pl.enum_tup, Pl.eq_int, Pl.ne_int, Pl.lt_int, Pl.le_int, Pl.gt_int, Pl.ge_int, Pl.add_int, Pl.sub_int, Pl.len_tup, Pl.len_own, Pl.len_brw, Pl.len_lst, Pl.idx_tup, Pl.idx_lst, Pl.idx_own, Pl.idx_brw, Pl.in_dic, Pl.nin_dic, Pl.idx_dic, Pl.is_non, Pl.isn_non, Pl.at_zero, Pl.at_one, sizeLine_eq, Nat.reduceAdd, Nat.reduceLeDiff, c5, c6, decide_true]
                refine .inl ⟨_, _, rfl, rfl, on, ?_, _, _, rfl⟩
                rw [e, List.any_cons, step, c6]
                simp
              · simp only [Pl.runFn, List.length_cons, List.length_nil, Pl.startE_cons, Pl.startE_nil, Pl.repl_succ, List.replicate_zero, Nat.zero_add, Pl.execs, Pl.exec, Pl.evalT, Pl.evalE, Pl.evalVs, Pl.evalP, Pl.evalI, Pl.evalJ, List.getElem?_cons_zero, List.getElem?_cons_succ, Pl.Res.bind_ok, Pl.Res.bind_exc, Pl.Res.bind_stuck, Pl.Res.to_ok, Pl.Res.to_exc, Pl.Res.to_stuck, Pl.Res.calm_ok, Pl.SR.andThen_next, Pl.SR.andThen_ret, Pl.SR.andThen_brk, Pl.SR.andThen_cont, Pl.SR.andThen_exc, Pl.SR.andThen_stuck, Pl.gcE_self, Pl.gcX_self, Pl.optR_some, Pl.optR_none, Pl.EV.val_d, Pl.EV.val_own, Pl.EV.items_own, Pl.EV.items_brw, Pl.EV.items_lst, if_true, if_false, reduceIte, Bool.false_eq_true, Bool.not_true, Bool.not_false, List.set_cons_zero, List.set_cons_succ, Pl.wipeE, List.map_cons, List.map_nil, Pl.setE, Pl.bindT, Pl.bindNames, Nat.zero_lt_succ, Nat.succ_lt_succ_iff, Nat.lt_add_one, Pl.tru_bl, Pl.tru_int, Pl.its_tup, Pl.its_lst, Pl.its_own, Pl.its_brw, Pl.its_str, Pl.enum_tup, Pl.eq_int, Pl.ne_int, Pl.lt_int, Pl.le_int, Pl.gt_int, Pl.ge_int, Pl.add_int, Pl.sub_int, Pl.len_tup, Pl.len_own, Pl.len_brw, Pl.len_lst, Pl.idx_tup, Pl.idx_lst, Pl.idx_own, Pl.idx_brw, Pl.in_dic, Pl.nin_dic, Pl.idx_dic, Pl.is_non, Pl.isn_non, Pl.at_zero, Pl.at_one, sizeLine_eq, Nat.reduceAdd, Nat.reduceLeDiff, c5, c6, decide_true, decide_false]
                have hyl : dep y ≤ n - 1 ∧ 1 ≤ n := by
                  have := dep_in (k := n - 1) (x := y) (xs := .str w :: args) (List.mem_of_getElem? ex)
                  simp only [dep] at hd this ⊢
                  have h0 : 1 ≤ n := by omega
                  exact ⟨this (by omega), h0⟩
                have rc := ih (n - 1) (by omega) y z nm S (sms_mem m2 (List.mem_of_getElem? ex)) hyl.1 hzk (by rw [show n - 1 + 1 = n by omega]; exact hy) hn
                rw [show n - 1 + 6 = n + 5 by omega, show n - 1 + 1 = n by omega] at rc
                simp only [Pl.runFn, List.length_cons, List.length_nil, Pl.startE_cons, Pl.startE_nil, Pl.repl_succ, List.replicate_zero, Nat.zero_add, Pl.execs, Pl.exec, Pl.evalT, Pl.evalE, Pl.evalVs, Pl.evalP, Pl.evalI, Pl.evalJ, List.getElem?_cons_zero, List.getElem?_cons_succ, Pl.Res.bind_ok, Pl.Res.bind_exc, Pl.Res.bind_stuck, Pl.Res.to_ok, Pl.Res.to_exc, Pl.Res.to_stuck, Pl.Res.calm_ok, Pl.SR.andThen_next, Pl.SR.andThen_ret, Pl.SR.andThen_brk, Pl.SR.andThen_cont, Pl.SR.andThen_exc, Pl.SR.andThen_stuck, Pl.gcE_self, Pl.gcX_self, Pl.optR_some, Pl.optR_none, Pl.EV.val_d, Pl.EV.val_own, Pl.EV.items_own, Pl.EV.items_brw, Pl.EV.items_lst, if_true, if_false, reduceIte, Bool.false_eq_true, Bool.not_true, Bool.not_false, List.set_cons_zero, List.set_cons_succ, Pl.wipeE, List.map_cons, List.map_nil, Pl.setE, Pl.bindT, Pl.bindNames, Nat.zero_lt_succ, Nat.succ_lt_succ_iff, Nat.lt_add_one, Pl.tru_bl, Pl.tru_int, Pl.its_tup, Pl.its_lst, Pl.its_own, Pl.its_brw, Pl.its_str, Pl.enum_tup, Pl.eq_int, Pl.ne_int, Pl.lt_int, Pl.le_int, Pl.gt_int, Pl.ge_int, Pl.add_int, Pl.sub_int, Pl.len_tup, Pl.len_own, Pl.len_brw, Pl.len_lst, Pl.idx_tup, Pl.idx_lst, Pl.idx_own, Pl.idx_brw, Pl.in_dic, Pl.nin_dic, Pl.idx_dic, Pl.is_non, Pl.isn_non, Pl.at_zero, Pl.at_one, sizeLine_eq, Nat.reduceAdd, Nat.reduceLeDiff, rc]
                cases q : isFr n y z nm with
                | true =>
                  simp only [Pl.runFn, List.length_cons, List.length_nil, Pl.startE_cons, Pl.startE_nil, Pl.repl_succ, List.replicate_zero, Nat.zero_add, Pl.execs, Pl.exec, Pl.evalT, Pl.evalE, Pl.evalVs, Pl.evalP, Pl.evalI, Pl.evalJ, List.getElem?_cons_zero, List.getElem?_cons_succ, Pl.Res.bind_ok, Pl.Res.bind_exc, Pl.Res.bind_stuck, Pl.Res.to_ok, Pl.Res.to_exc, Pl.Res.to_stuck, Pl.Res.calm_ok, Pl.SR.andThen_next, Pl.SR.andThen_ret, Pl.SR.andThen_brk, Pl.SR.andThen_cont, Pl.SR.andThen_exc, Pl.SR.andThen_stuck, Pl.gcE_self, Pl.gcX_self, Pl.optR_some, Pl.optR_none, Pl.EV.val_d, Pl.EV.val_own, Pl.EV.items_own, Pl.EV.items_brw, Pl.EV.items_lst, if_true, if_false, reduceIte, Bool.false_eq_true, Bool.not_true, Bool.not_false, List.set_cons_zero, List.set_cons_succ, Pl.wipeE, List.map_cons, List.map_nil, Pl.setE, Pl.bindT, Pl.bindNames, Nat.zero_lt_succ, Nat.succ_lt_succ_iff, Nat.lt_add_one, Pl.tru_bl, Pl.tru_int, Pl.its_tup, Pl.its_lst, Pl.its_own, Pl.its_brw, Pl.its_str, Pl.enum_tup, Pl.eq_int, Pl.ne_int, Pl.lt_int, Pl.le_int, Pl.gt_int, Pl.ge_int, Pl.add_int, Pl.sub_int, Pl.len_tup, Pl.len_own, Pl.len_brw, Pl.len_lst, Pl.idx_tup, Pl.idx_lst, Pl.idx_own, Pl.idx_brw, Pl.in_dic, Pl.nin_dic, Pl.idx_dic, Pl.is_non, Pl.isn_non, Pl.at_zero, Pl.at_one, sizeLine_eq, Nat.reduceAdd, Nat.reduceLeDiff]
                  refine .inr (.inl ⟨_, _, rfl, .inl ⟨rfl, ?_⟩⟩)
                  rw [e, List.any_cons, step, c5, q]
                  simp [c6]
                | false =>
                  simp only [Pl.runFn, List.length_cons, List.length_nil, Pl.startE_cons, Pl.startE_nil, Pl.repl_succ, List.replicate_zero, Nat.zero_add, Pl.execs, Pl.exec, Pl.evalT, Pl.evalE, Pl.evalVs, Pl.evalP, Pl.evalI, Pl.evalJ, List.getElem?_cons_zero, List.getElem?_cons_succ, Pl.Res.bind_ok, Pl.Res.bind_exc, Pl.Res.bind_stuck, Pl.Res.to_ok, Pl.Res.to_exc, Pl.Res.to_stuck, Pl.Res.calm_ok, Pl.SR.andThen_next, Pl.SR.andThen_ret, Pl.SR.andThen_brk, Pl.SR.andThen_cont, Pl.SR.andThen_exc, Pl.SR.andThen_stuck, Pl.gcE_self, Pl.gcX_self, Pl.optR_some, Pl.optR_none, Pl.EV.val_d, Pl.EV.val_own, Pl.EV.items_own, Pl.EV.items_brw, Pl.EV.items_lst, if_true, if_false, reduceIte, Bool.false_eq_true, Bool.not_true, Bool.not_false, List.set_cons_zero, List.set_cons_succ, Pl.wipeE, List.map_cons, List.map_nil, Pl.setE, Pl.bindT, Pl.bindNames, Nat.zero_lt_succ, Nat.succ_lt_succ_iff, Nat.lt_add_one, Pl.tru_bl, Pl.tru_int, Pl.its_tup, Pl.its_lst, Pl.its_own, Pl.its_brw, Pl.its_str, Pl.enum_tup, Pl.eq_int, Pl.ne_int, Pl.lt_int, Pl.le_int, Pl.gt_int, Pl.ge_int, Pl.add_int, Pl.sub_int, Pl.len_tup, Pl.len_own, Pl.len_brw, Pl.len_lst, Pl.idx_tup, Pl.idx_lst, Pl.idx_own, Pl.idx_brw, Pl.in_dic, Pl.nin_dic, Pl.idx_dic, Pl.is_non, Pl.isn_non, Pl.at_zero, Pl.at_one, sizeLine_eq, Nat.reduceAdd, Nat.reduceLeDiff]
                  refine .inl ⟨_, _, rfl, rfl, on, ?_, _, _, rfl⟩
                  rw [e, List.any_cons, step, q]
                  simp
            · simp only [Pl.runFn, List.length_cons, List.length_nil, Pl.startE_cons, Pl.startE_nil, Pl.repl_succ, List.replicate_zero, Nat.zero_add, Pl.execs, Pl.exec, Pl.evalT, Pl.evalE, Pl.evalVs, Pl.evalP, Pl.evalI, Pl.evalJ, List.getElem?_cons_zero, List.getElem?_cons_succ, Pl.Res.bind_ok, Pl.Res.bind_exc, Pl.Res.bind_stuck, Pl.Res.to_ok, Pl.Res.to_exc, Pl.Res.to_stuck, Pl.Res.calm_ok, Pl.SR.andThen_next, Pl.SR.andThen_ret, Pl.SR.andThen_brk, Pl.SR.andThen_cont, Pl.SR.andThen_exc, Pl.SR.andThen_stuck, Pl.gcE_self, Pl.gcX_self, Pl.optR_some, Pl.optR_none, Pl.EV.val_d, Pl.EV.val_own, Pl.EV.items_own, Pl.EV.items_brw, Pl.EV.items_lst, if_true, if_false, reduceIte, Bool.false_eq_true, Bool.not_true, Bool.not_false, List.set_cons_zero, List.set_cons_succ, Pl.wipeE, List.map_cons, List.map_nil, Pl.setE, Pl.bindT, Pl.bindNames, Nat.zero_lt_succ, Nat.succ_lt_succ_iff, Nat.lt_add_one, Pl.tru_bl, Pl.tru_int, Pl.its_tup, Pl.its_lst, Pl.its_own, Pl.its_brw, Pl.its_str, Pl.enum_tup, Pl.eq_int, Pl.ne_int, Pl.lt_int, Pl.le_int, Pl.gt_int, Pl.ge_int, Pl.add_int, Pl.sub_int, Pl.len_tup, Pl.len_own, Pl.len_brw, Pl.len_lst, Pl.idx_tup, Pl.idx_lst, Pl.idx_own, Pl.idx_brw, Pl.in_dic, Pl.nin_dic, Pl.idx_dic, Pl.is_non, Pl.isn_non, Pl.at_zero, Pl.at_one, sizeLine_eq, Nat.reduceAdd, Nat.reduceLeDiff, c5, decide_false]
              refine .inl ⟨_, _, rfl, rfl, on, ?_, _, _, rfl⟩
              rw [e, List.any_cons, step, decide_eq_false c5]
              simp
        rcases hq with ⟨rfl, e⟩ | ⟨e, ρ, rfl⟩
        · simp only [Pl.runFn, List.length_cons, List.length_nil, Pl.startE_cons, Pl.startE_nil, Pl.repl_succ, List.replicate_zero, Nat.zero_add, Pl.execs, Pl.exec, Pl.evalT, Pl.evalE, Pl.evalVs, Pl.evalP, Pl.evalI, Pl.evalJ, List.getElem?_cons_zero, List.getElem?_cons_succ, Pl.Res.bind_ok, Pl.Res.bind_exc, Pl.Res.bind_stuck, Pl.Res.to_ok, Pl.Res.to_exc, Pl.Res.to_stuck, Pl.Res.calm_ok, Pl.SR.andThen_next, Pl.SR.andThen_ret, Pl.SR.andThen_brk, Pl.SR.andThen_cont, Pl.SR.andThen_exc, Pl.SR.andThen_stuck, Pl.gcE_self, Pl.gcX_self, Pl.optR_some, Pl.optR_none, Pl.EV.val_d, Pl.EV.val_own, Pl.EV.items_own, Pl.EV.items_brw, Pl.EV.items_lst, if_true, if_false, reduceIte, Bool.false_eq_true, Bool.not_true, Bool.not_false, List.set_cons_zero, List.set_cons_succ, Pl.wipeE, List.map_cons, List.map_nil, Pl.setE, Pl.bindT, Pl.bindNames, Nat.zero_lt_succ, Nat.succ_lt_succ_iff, Nat.lt_add_one, Pl.tru_bl, Pl.tru_int, Pl.its_tup, Pl.its_lst, Pl.its_own, Pl.its_brw, Pl.its_str, Pl.enum_tup, Pl.eq_int, Pl.ne_int, Pl.lt_int, Pl.le_int, Pl.gt_int, Pl.ge_int, Pl.add_int, Pl.sub_int, Pl.len_tup, Pl.len_own, Pl.len_brw, Pl.len_lst, Pl.idx_tup, Pl.idx_lst, Pl.idx_own, Pl.idx_brw, Pl.in_dic, Pl.nin_dic, Pl.idx_dic, Pl.is_non, Pl.isn_non, Pl.at_zero, Pl.at_one, sizeLine_eq, Nat.reduceAdd, Nat.reduceLeDiff, e]
        · simp only [Pl.runFn, List.length_cons, List.length_nil, Pl.startE_cons, Pl.startE_nil, Pl.repl_succ, List.replicate_zero, Nat.zero_add, Pl.execs, Pl.exec, Pl.evalT, Pl.evalE, Pl.evalVs, Pl.evalP, Pl.evalI, Pl.evalJ, List.getElem?_cons_zero, List.getElem?_cons_succ, Pl.Res.bind_ok, Pl.Res.bind_exc, Pl.Res.bind_stuck, Pl.Res.to_ok, Pl.Res.to_exc, Pl.Res.to_stuck, Pl.Res.calm_ok, Pl.SR.andThen_next, Pl.SR.andThen_ret, Pl.SR.andThen_brk, Pl.SR.andThen_cont, Pl.SR.andThen_exc, Pl.SR.andThen_stuck, Pl.gcE_self, Pl.gcX_self, Pl.optR_some, Pl.optR_none, Pl.EV.val_d, Pl.EV.val_own, Pl.EV.items_own, Pl.EV.items_brw, Pl.EV.items_lst, if_true, if_false, reduceIte, Bool.false_eq_true, Bool.not_true, Bool.not_false, List.set_cons_zero, List.set_cons_succ, Pl.wipeE, List.map_cons, List.map_nil, Pl.setE, Pl.bindT, Pl.bindNames, Nat.zero_lt_succ, Nat.succ_lt_succ_iff, Nat.lt_add_one, Pl.tru_bl, Pl.tru_int, Pl.its_tup, Pl.its_lst, Pl.its_own, Pl.its_brw, Pl.its_str, Pl.enum_tup, Pl.eq_int, Pl.ne_int, Pl.lt_int, Pl.le_int, Pl.gt_int, Pl.ge_int, Pl.add_int, Pl.sub_int, Pl.len_tup, Pl.len_own, Pl.len_brw, Pl.len_lst, Pl.idx_tup, Pl.idx_lst, Pl.idx_own, Pl.idx_brw, Pl.in_dic, Pl.nin_dic, Pl.idx_dic, Pl.is_non, Pl.isn_non, Pl.at_zero, Pl.at_one, sizeLine_eq, Nat.reduceAdd, Nat.reduceLeDiff, e]
end K20
end

section
set_option Elab.async false
set_option linter.all false
set_option maxRecDepth 100000
/-! k20: depths, kept parts, put_in. -/
namespace K20
open PySem hiding exec execs
open L2 Pl
theorem all_cg {α : Type} {f g : α → Bool} : ∀ {l : List α}, (∀ x ∈ l, f x = g x) → l.all f = l.all g
  | [], _ => rfl
  | x :: l, h => by
    rw [List.all_cons, List.all_cons, h x List.mem_cons_self, all_cg fun y hy => h y (List.mem_cons_of_mem _ hy)]
theorem any_cg {α : Type} {f g : α → Bool} : ∀ {l : List α}, (∀ x ∈ l, f x = g x) → l.any f = l.any g
  | [], _ => rfl
  | x :: l, h => by
    rw [List.any_cons, List.any_cons, h x List.mem_cons_self, any_cg fun y hy => h y (List.mem_cons_of_mem _ hy)]
theorem atI_mem {α : Type} {xs : List α} {i : Int} {y : α} (h : atI xs i = some y) : y ∈ xs := by
  unfold atI at h
  cases e : ixN xs.length i with
  | none => rw [e] at h; cases h
  | some j => rw [e] at h; exact List.mem_of_getElem? h
theorem dep_atI {xs : List D} {n : Nat} (i : Int) (h : dep (.tup xs) ≤ n + 1) : dep ((atI xs i).getD .non) ≤ n := by
  cases e : atI xs i with
  | none => exact Nat.zero_le _
  | some y => exact dep_in (atI_mem e) h
theorem isWr_st : ∀ (n m : Nat) (v : D) (s : Str), dep v ≤ n → dep v ≤ m → isWr (n + 1) v s = isWr (m + 1) v s := by
  intro n
  induction n with
  | zero =>
    intro m v s h _
    rw [isWr, isWr]
    cases tab s with
    | none => rfl
    | some t =>
      cases v with
      | tup xs => simp [dep] at h
      | _ => rfl
  | succ n ih =>
    intro m v s h h'
    rw [isWr, isWr]
    cases tab s with
    | none => rfl
    | some t =>
      cases v with
      | tup xs =>
        cases m with
        | zero => simp [dep] at h'
        | succ m =>
          cases xs with
          | nil => rfl
          | cons x xs =>
            cases x with
            | str w =>
              show ndWr _ s _ = ndWr _ s _
              simp only [ndWr]
              cases rowOf s w with
              | none => rfl
              | some ss =>
                refine congrArg (decide (ss.length = xs.length) && ·) (all_cg fun p hp => ?_)
                obtain ⟨i, y, rfl, hy⟩ := mem_enumD hp
                cases y with
                | str z =>
                  show isWr (n + 1) (xs.getD ((i : Nat) : Int).toNat .non) z = isWr (m + 1) (xs.getD ((i : Nat) : Int).toNat .non) z
                  have hb : ∀ k, dep (.tup (.str w :: xs)) ≤ k + 1 → dep (xs.getD ((i : Nat) : Int).toNat .non) ≤ k := by
                    intro k hk
                    rw [List.getD_eq_getElem?_getD]
                    cases e : xs[((i : Nat) : Int).toNat]? with
                    | none => exact Nat.zero_le _
                    | some u => exact dep_in (List.mem_cons_of_mem _ (List.mem_of_getElem? e)) hk
                  exact ih m _ z (hb n h) (hb m h')
                | _ => rfl
            | _ => rfl
      | _ => rfl
theorem isFr_st : ∀ (n m : Nat) (v : D) (s nm : Str), dep v ≤ n → dep v ≤ m → isFr (n + 1) v s nm = isFr (m + 1) v s nm := by
  intro n
  induction n with
  | zero =>
    intro m v s nm h _
    rw [isFr, isFr]
    by_cases c : s = "kind"
    · rw [if_pos c, if_pos c]
    · rw [if_neg c, if_neg c]
      cases v with
      | tup xs => simp [dep] at h
      | _ => rfl
  | succ n ih =>
    intro m v s nm h h'
    rw [isFr, isFr]
    by_cases c : s = "kind"
    · rw [if_pos c, if_pos c]
    · rw [if_neg c, if_neg c]
      cases v with
      | tup xs =>
        cases m with
        | zero => simp [dep] at h'
        | succ m =>
          cases xs with
          | nil => rfl
          | cons x xs =>
            cases x with
            | str w =>
              simp only [ndFr]
              by_cases c2 : s = "term" ∧ w = "name"
              · rw [if_pos c2, if_pos c2]
              · rw [if_neg c2, if_neg c2]
                refine any_cg fun p hp => ?_
                unfold frP
                split
                · rename_i t part
                  have := ih m _ part nm (dep_atI t h) (dep_atI t h')
                  simp only [this]
                · rfl
            | _ => rfl
      | _ => rfl
def wr (v : D) (s : Str) : Bool := isWr (dep v + 1) v s
def fr (v : D) (s nm : Str) : Bool := isFr (dep v + 1) v s nm
theorem wr_eq {n : Nat} {v : D} (s : Str) (h : dep v ≤ n) : isWr (n + 1) v s = wr v s := isWr_st n (dep v) v s h (Nat.le_refl _)
theorem fr_eq {n : Nat} {v : D} (s nm : Str) (h : dep v ≤ n) : isFr (n + 1) v s nm = fr v s nm := isFr_st n (dep v) v s nm h (Nat.le_refl _)
theorem fr_kind (v : D) (nm : Str) : fr v "kind" nm = false := by unfold fr; rw [isFr, if_pos rfl]
theorem wr_name' {v : D} (hv : sm v = true) (h : wr v "name" = true) : ∃ y, v = .str y ∧ okZ y := wr_name hv h
/-- a written node, whatever the fuel -/
theorem wr_nd {v : D} {sort : Str} (hs : sort ∈ sK) (h : wr v sort = true) : ∃ w ss args, v = .tup (.str w :: args) ∧ Nd wr sort w ss args ∧ Nd (isWr (dep v)) sort w ss args := by
  obtain ⟨w, ss, args, e, N⟩ := wr_node hs h
  refine ⟨w, ss, args, e, ⟨N.hs, N.row, N.len, fun i z hz => ?_⟩, N⟩
  obtain ⟨a, ea, hw⟩ := N.sub i z hz
  refine ⟨a, ea, ?_⟩
  have hd : dep v = deps (.str w :: args) + 1 := by rw [e, dep]
  have ha : dep a ≤ deps (.str w :: args) := deps_mem (List.mem_cons_of_mem _ (List.mem_of_getElem? ea))
  rw [hd] at hw
  rwa [wr_eq z ha] at hw
/-! ### kept parts -/
abbrev Kp := Int × Str × Option Int
def bndV (xs : List D) : Option Int → D
  | some j => (atI xs j).getD .non
  | none => .non
def rowIx (sort w : Str) (t : Int) : List D → Option Int
  | [] => none
  | .tup [.str k, .str x, .int p, .int j] :: r => if k = sort ∧ x = w ∧ p = t then some j else rowIx sort w t r
  | _ :: r => rowIx sort w t r
theorem row_shape {d : D} (hd : d ∈ ovR ++ alR) : ∃ k x p j, d = .tup [.str k, .str x, .int p, .int j] := by
  have q := List.all_eq_true.mp rows_ok d hd
  split at q
  · exact ⟨_, _, _, _, rfl⟩
  · cases q
theorem toldV_ix (sort w : Str) (t : Int) (xs : List D) : ∀ rows : List D, (∀ d ∈ rows, d ∈ ovR ++ alR) → toldV sort w t xs rows = bndV xs (rowIx sort w t rows)
  | [], _ => rfl
  | d :: rows, h => by
    obtain ⟨k, x, p, j, rfl⟩ := row_shape (h d List.mem_cons_self)
    rw [toldV, rowIx]
    by_cases c : k = sort ∧ x = w ∧ p = t
    · rw [if_pos c, if_pos c]; rfl
    · rw [if_neg c, if_neg c]
      exact toldV_ix sort w t xs rows fun d hd => h d (List.mem_cons_of_mem _ hd)
theorem told_ix_str {n : Nat} {sort w : Str} {ss args : List D} (N : Nd (isWr n) sort w ss args) (hv : sms args = true) (t : Int) : ∀ rows : List D, (∀ d ∈ rows, d ∈ ovR ++ alR) → ∀ j, rowIx sort w t rows = some j → ∃ y, atI (.str w :: args) j = some (.str y) ∧ okZ y
  | [], _, j, e => by cases e
  | d :: rows, h, j, e => by
    obtain ⟨k, x, p, j', rfl, _, _, hy⟩ := row_at N hv (h d List.mem_cons_self)
    rw [rowIx] at e
    by_cases c : k = sort ∧ x = w ∧ p = t
    · rw [if_pos c] at e
      cases e
      exact hy c.1 c.2.1
    · rw [if_neg c] at e
      exact told_ix_str N hv t rows (fun d hd => h d (List.mem_cons_of_mem _ hd)) j e
theorem al_iff {n : Nat} {sort w : Str} {ss args : List D} (N : Nd (isWr n) sort w ss args) (hv : sms args = true) (t : Int) : (toldV sort w t (.str w :: args) alR = .non) ↔ rowIx sort w t alR = none := by
  rw [toldV_ix sort w t (.str w :: args) alR fun d hd => List.mem_append_right _ hd]
  cases e : rowIx sort w t alR with
  | none => simp [bndV]
  | some j =>
    obtain ⟨y, hy, _⟩ := told_ix_str N hv t alR (fun d hd => List.mem_append_right _ hd) j e
    simp [bndV, hy]
theorem ov_ix (sort w : Str) (t : Int) (xs : List D) : toldV sort w t xs ovR = bndV xs (rowIx sort w t ovR) := toldV_ix sort w t xs ovR fun d hd => List.mem_append_left _ hd
def keep (sort w : Str) : D → Option Kp
  | .tup [.int t, .str part] => if part = "kind" then none else if rowIx sort w t alR = none then some (t, part, rowIx sort w t ovR) else none
  | _ => none
def kps (sort w : Str) : List Kp := (partsD sort w).filterMap (keep sort w)
def frK (xs : List D) (nm : Str) (q : Kp) : Bool := !decide (bndV xs q.2.2 = .str nm) && fr ((atI xs q.1).getD .non) q.2.1 nm
theorem any_filterMap {α β : Type} (f : α → Option β) (p : β → Bool) : ∀ l : List α, (l.filterMap f).any p = l.any fun x => match f x with
    | some y => p y
    | none => false
  | [] => rfl
  | x :: l => by
    rw [List.filterMap_cons]
    cases e : f x with
    | none => rw [List.any_cons]; simp only [e, Bool.false_or]; exact any_filterMap f p l
    | some y => rw [List.any_cons, List.any_cons]; simp only [e]; rw [any_filterMap f p l]
theorem fr_nd {n : Nat} {sort w nm : Str} {ss args : List D} (N : Nd (isWr n) sort w ss args) (hv : sms args = true) (hk : sort ≠ "kind") (hn : ¬ (sort = "term" ∧ w = "name")) : fr (.tup (.str w :: args)) sort nm = (kps sort w).any (frK (.str w :: args) nm) := by
  unfold fr
  rw [isFr, if_neg hk, ndFr, if_neg hn]
  rw [kps, any_filterMap]
  refine any_cg fun p hp => ?_
  obtain ⟨i, z, rfl, hz, hzk⟩ := mem_parts N.hs N.row hp
  rw [frP]
  have hd : isFr (dep (.tup (.str w :: args))) ((atI (.str w :: args) ((i : Int) + 1)).getD .non) z nm = fr ((atI (.str w :: args) ((i : Int) + 1)).getD .non) z nm := by
    rw [dep]
    exact fr_eq z nm (dep_atI _ (Nat.le_refl _))
  rw [hd, ov_ix]
  unfold keep
  by_cases c1 : z = "kind"
  · subst c1
    simp only [if_pos, fr_kind, Bool.and_false]
  · simp only [if_neg c1]
    by_cases c2 : rowIx sort w ((i : Int) + 1) alR = none
    · rw [if_pos c2, decide_eq_true ((al_iff N hv _).mpr c2)]
      rfl
    · rw [if_neg c2, decide_eq_false fun q => c2 ((al_iff N hv _).mp q)]
      rfl
theorem fr_name {args : List D} {nm : Str} : fr (.tup (.str "name" :: args)) "term" nm = decide (args.head? = some (.str nm)) := by
  unfold fr
  rw [isFr, if_neg (by decide +kernel), ndFr, if_pos ⟨rfl, rfl⟩]
/-! ### the law's table of parts -/
def lps (w : Str) : List (Int × Option Int) :=
  if w = "cases" then [(1, none), (3, some 2), (5, some 4)] else if w ∈ (["fun", "set", "the", "all", "some"] : List Str) then [(3, some 1)]
  else if w ∈ (["pair", "app", "equal", "in", "and", "or", "if"] : List Str) then [(1, none), (2, none)] else if w ∈ (["call", "into"] : List Str) then [(4, none)]
  else if w ∈ (["first", "second", "out", "when", "so", "not", "near", "left"] : List Str) then [(1, none)] else if w = "right" then [(2, none)] else []
def tf : List Str := ["term", "formula"]
def lawB : Bool := tf.all fun s => match tab s with
  | some (ws, _) => ws.all fun w => decide ((kps s w).map (fun q => (q.1, q.2.2)) = lps w) && ((kps s w).all fun q => tf.contains q.2.1) && (decide (w = "name") → s = "term") && (match rowOf s w with
    | some ss => (kps s w).all fun q => decide (0 < q.1) && decide (q.1 ≤ ss.length) && decide (ss[(q.1 - 1).toNat]? = some (.str q.2.1)) && (match q.2.2 with
      | some j => decide (0 < j) && decide (ss[(j - 1).toNat]? = some (.str "name"))
      | none => true)
    | none => false)
  | none => false
theorem law_b : lawB = true := by decide +kernel
theorem tf_sK {s : Str} (h : s ∈ tf) : s ∈ sK ∧ s ≠ "kind" := by
  simp only [tf, List.mem_cons, List.not_mem_nil, or_false] at h
  rcases h with rfl | rfl <;> decide +kernel
structure KOk (s w : Str) (ss : List D) : Prop where
  lp : (kps s w).map (fun q => (q.1, q.2.2)) = lps w
  nmT : w = "name" → s = "term"
  kp : ∀ q ∈ kps s w, q.2.1 ∈ tf ∧ ∃ i : Nat, q.1 = (i : Int) + 1 ∧ ss[i]? = some (.str q.2.1) ∧ ∀ j, q.2.2 = some j → ∃ m : Nat, j = (m : Int) + 1 ∧ ss[m]? = some (.str "name")
theorem k_ok {s w : Str} {ss : List D} (hs : s ∈ tf) (h : rowOf s w = some ss) : KOk s w ss := by
  have q := List.all_eq_true.mp law_b s hs
  split at q
  · rename_i ws rs e
    obtain ⟨ws', rs', _, t2, t3, _⟩ := tab_in (tf_sK hs).1
    rw [e] at t2
    cases t2
    have hw : w ∈ ws := by
      have h2 := h
      unfold rowOf at h2
      rw [e] at h2
      simp only at h2
      split at h2
      · rename_i e5
        have := lookS ws rs w t3
        rw [e5] at this
        exact List.contains_iff_mem.mp this.symm
      · cases h2
    have q2 := List.all_eq_true.mp q w hw
    rw [h] at q2
    simp only [Bool.and_eq_true, decide_eq_true_eq, List.all_eq_true] at q2
    obtain ⟨⟨⟨q3, q4⟩, q5⟩, q6⟩ := q2
    refine ⟨q3, fun e => q5 e, fun x hx => ⟨List.contains_iff_mem.mp (q4 x hx), ?_⟩⟩
    obtain ⟨⟨⟨a1, a2⟩, a3⟩, a4⟩ := q6 x hx
    refine ⟨(x.1 - 1).toNat, by omega, a3, fun j ej => ?_⟩
    rw [ej] at a4
    simp only [Bool.and_eq_true, decide_eq_true_eq] at a4
    exact ⟨(j - 1).toNat, by omega, a4.2⟩
  · cases q
end K20
end

section
set_option Elab.async false
set_option linter.all false
set_option maxRecDepth 100000
/-! k20: put_in, put. -/
namespace K20
open PySem hiding exec execs
open L2 Pl
def tfD (t : D) : D → Bool
  | .str y => fr t "term" y
  | _ => false
def stepP (nm : Str) (t : D) (pt : D → Str → Option D) (xs : List D) : List Kp → List D → Option (List D)
  | [], m => some m
  | q :: r, m => if frK xs nm q = true then (if tfD t (bndV xs q.2.2) = true then none else match pt ((atI xs q.1).getD .non) q.2.1 with
    | some y => stepP nm t pt xs r (m.set q.1.toNat y)
    | none => none) else stepP nm t pt xs r m
def ndPt (nm : Str) (t : D) (pt : D → Str → Option D) (sort : Str) : D → Option D
  | .tup (.str w :: args) => if sort = "term" ∧ w = "name" then some t else (stepP nm t pt (.str w :: args) (kps sort w) (.str w :: args)).map .tup
  | _ => none
def ptn (nm : Str) (t : D) : Nat → D → Str → Option D
  | 0, _, _ => none
  | n + 1, v, sort => if fr v sort nm = true then ndPt nm t (fun d s => ptn nm t n d s) sort v else some v
def ptR (S : Sto) : Option D → Res EV
  | some y => .ok (.d y) S
  | none => .exc "BadDerivation" S
theorem stepP_nil (nm : Str) (t : D) (pt : D → Str → Option D) (xs m : List D) : stepP nm t pt xs [] m = some m := rfl
theorem stepP_skip {nm : Str} {t : D} {pt : D → Str → Option D} {xs : List D} {q : Kp} {r : List Kp} {m : List D} (h : frK xs nm q = false) : stepP nm t pt xs (q :: r) m = stepP nm t pt xs r m := by
  rw [stepP, h]; rfl
theorem kps_skip {sort w : Str} {p : D} {ps : List D} (h : keep sort w p = none) : (p :: ps).filterMap (keep sort w) = ps.filterMap (keep sort w) := by rw [List.filterMap_cons, h]
theorem kps_take {sort w : Str} {p : D} {q : Kp} {ps : List D} (h : keep sort w p = some q) : (p :: ps).filterMap (keep sort w) = q :: ps.filterMap (keep sort w) := by rw [List.filterMap_cons, h]
theorem ixN_in {n i : Nat} (h : i < n) : ixN n (i : Int) = some i := by
  unfold ixN
  simp [h]
  try omega
theorem s_free {n : Nat} {v : D} {sort nm : Str} (S : Sto) (hsm : sm v = true) (hd : dep v ≤ n) (hs : sort ∈ sK) (hw : wr v sort = true) (hn : okZ nm) : R (n + 6) "is_free" [v, .str sort, .str nm] S = .ok (.d (.bl (fr v sort nm))) S := by
  rw [s_is_free n v sort nm S hsm hd hs (by rw [wr_eq sort hd]; exact hw) hn, fr_eq sort nm hd]
theorem putL_own {i : Nat} {f : List D → Option (List D)} {ρ : Pl.Env} {S : Sto} {xs ys : List D} (h : ρ[i]? = some (some (.own xs))) (e : f xs = some ys) : putL i f ρ S = .next (ρ.set i (some (.own ys))) S := by
  unfold putL
  rw [h]
  simp only [e]
theorem s_put_in (m : Nat) {nm : Str} {t : D} (hn : okZ nm) (ht : sm t = true) (hdt : dep t ≤ m) (hwt : wr t "term" = true) : ∀ (n : Nat) (v : D) (sort : Str) (S : Sto), sm v = true → dep v ≤ n → sort ∈ tf → wr v sort = true →
    R (n + m + 7) "put_in" [v, .str sort, .str nm, t] S = ptR S (ptn nm t (n + 1) v sort) := by
  intro n
  induction n with
  | zero =>
    intro v sort S hsm hd hs hw
    obtain ⟨w, ss, args, rfl, _, _⟩ := wr_nd (tf_sK hs).1 hw
    simp [dep] at hd
  | succ n ih =>
    intro v sort S hsm hd hs hw
    obtain ⟨hs1, hs2⟩ := tf_sK hs
    obtain ⟨w, ss, args, rfl, N', N⟩ := wr_nd hs1 hw
    obtain ⟨m1, m2⟩ := sm_tup hsm
    have hw0 : okZ w := (sm_str (sms_mem m2 List.mem_cons_self)).1
    have ms : sms args = true := (Bool.and_eq_true_iff.mp (show (sm (.str w) && sms args) = true from m2)).2
    rw [show n + 1 + m + 7 = (n + m + 7) + 1 by omega, R_put_in]
    unfold n_put_in
    have hfr := s_free (n := n + m + 1) (v := .tup (.str w :: args)) (sort := sort) (nm := nm) S hsm (by omega) hs1 hw hn
    rw [show n + m + 1 + 6 = n + m + 7 by omega] at hfr
    simp only [Pl.runFn, List.length_cons, List.length_nil, Pl.startE_cons, Pl.startE_nil, Pl.repl_succ, List.replicate_zero, Nat.zero_add, Pl.execs, Pl.exec, Pl.evalT, Pl.evalE, Pl.evalVs, Pl.evalP, Pl.evalI, Pl.evalJ, List.getElem?_cons_zero, List.getElem?_cons_succ, Pl.Res.bind_ok, Pl.Res.bind_exc, Pl.Res.bind_stuck, Pl.Res.to_ok, Pl.Res.to_exc, Pl.Res.to_stuck, Pl.Res.calm_ok, Pl.SR.andThen_next, Pl.SR.andThen_ret, Pl.SR.andThen_brk, Pl.SR.andThen_cont, Pl.SR.andThen_exc, Pl.SR.andThen_stuck, Pl.gcE_self, Pl.gcX_self, Pl.optR_some, Pl.optR_none, Pl.EV.val_d, Pl.EV.val_own, Pl.EV.items_own, Pl.EV.items_brw, Pl.EV.items_lst, if_true, if_false, reduceIte, Bool.false_eq_true, Bool.not_true, Bool.not_false, List.set_cons_zero, List.set_cons_succ, Pl.wipeE, List.map_cons, List.map_nil, Pl.setE, Pl.bindT, Pl.bindNames, Nat.zero_lt_succ, Nat.succ_lt_succ_iff, Nat.lt_add_one, Pl.tru_bl, Pl.tru_int, Pl.its_tup, Pl.its_lst, Pl.its_own, Pl.its_brw, Pl.its_str, Pl.enum_tup, Pl.eq_int, Pl.ne_int, Pl.lt_int, Pl.le_int, Pl.gt_int, Pl.ge_int, Pl.add_int, Pl.sub_int, Pl.len_tup, Pl.len_own, Pl.len_brw, Pl.len_lst, Pl.idx_tup, Pl.idx_lst, Pl.idx_own, Pl.idx_brw, Pl.in_dic, Pl.nin_dic, Pl.idx_dic, Pl.is_non, Pl.isn_non, Pl.at_zero, Pl.at_one, sizeLine_eq, Nat.reduceAdd, Nat.reduceLeDiff, eq_str (okZ_sort (.inl hs1)) (show okZ "kind" from by decide +kernel), eq_str (okZ_sort (.inl hs1)) (show okZ "term" from by decide +kernel), eq_str hw0 (show okZ "name" from by decide +kernel), hs2, decide_false, hfr]
    rw [ptn]
    cases hf : fr (.tup (.str w :: args)) sort nm with
    | false => simp only [Pl.runFn, List.length_cons, List.length_nil, Pl.startE_cons, Pl.startE_nil, Pl.repl_succ, List.replicate_zero, Nat.zero_add, Pl.execs, Pl.exec, Pl.evalT, Pl.evalE, Pl.evalVs, Pl.evalP, Pl.evalI, Pl.evalJ, List.getElem?_cons_zero, List.getElem?_cons_succ, Pl.Res.bind_ok, Pl.Res.bind_exc, Pl.Res.bind_stuck, Pl.Res.to_ok, Pl.Res.to_exc, Pl.Res.to_stuck, Pl.Res.calm_ok, Pl.SR.andThen_next, Pl.SR.andThen_ret, Pl.SR.andThen_brk, Pl.SR.andThen_cont, Pl.SR.andThen_exc, Pl.SR.andThen_stuck, Pl.gcE_self, Pl.gcX_self, Pl.optR_some, Pl.optR_none, Pl.EV.val_d, Pl.EV.val_own, Pl.EV.items_own, Pl.EV.items_brw, Pl.EV.items_lst, if_true, if_false, reduceIte, Bool.false_eq_true, Bool.not_true, Bool.not_false, List.set_cons_zero, List.set_cons_succ, Pl.wipeE, List.map_cons, List.map_nil, Pl.setE, Pl.bindT, Pl.bindNames, Nat.zero_lt_succ, Nat.succ_lt_succ_iff, Nat.lt_add_one, Pl.tru_bl, Pl.tru_int, Pl.its_tup, Pl.its_lst, Pl.its_own, Pl.its_brw, Pl.its_str, Pl.enum_tup, Pl.eq_int, Pl.ne_int, Pl.lt_int, Pl.le_int, Pl.gt_int, Pl.ge_int, Pl.add_int, Pl.sub_int, Pl.len_tup, Pl.len_own, Pl.len_brw, Pl.len_lst, Pl.idx_tup, Pl.idx_lst, Pl.idx_own, Pl.idx_brw, Pl.in_dic, Pl.nin_dic, Pl.idx_dic, Pl.is_non, Pl.isn_non, Pl.at_zero, Pl.at_one, sizeLine_eq, Nat.reduceAdd, Nat.reduceLeDiff, ptR]
    | true =>
      simp only [Pl.runFn, List.length_cons, List.length_nil, Pl.startE_cons, Pl.startE_nil, Pl.repl_succ, List.replicate_zero, Nat.zero_add, Pl.execs, Pl.exec, Pl.evalT, Pl.evalE, Pl.evalVs, Pl.evalP, Pl.evalI, Pl.evalJ, List.getElem?_cons_zero, List.getElem?_cons_succ, Pl.Res.bind_ok, Pl.Res.bind_exc, Pl.Res.bind_stuck, Pl.Res.to_ok, Pl.Res.to_exc, Pl.Res.to_stuck, Pl.Res.calm_ok, Pl.SR.andThen_next, Pl.SR.andThen_ret, Pl.SR.andThen_brk, Pl.SR.andThen_cont, Pl.SR.andThen_exc, Pl.SR.andThen_stuck, Pl.gcE_self, Pl.gcX_self, Pl.optR_some, Pl.optR_none, Pl.EV.val_d, Pl.EV.val_own, Pl.EV.items_own, Pl.EV.items_brw, Pl.EV.items_lst, if_true, if_false, reduceIte, Bool.false_eq_true, Bool.not_true, Bool.not_false, List.set_cons_zero, List.set_cons_succ, Pl.wipeE, List.map_cons, List.map_nil, Pl.setE, Pl.bindT, Pl.bindNames, Nat.zero_lt_succ, Nat.succ_lt_succ_iff, Nat.lt_add_one, Pl.tru_bl, Pl.tru_int, Pl.its_tup, Pl.its_lst, Pl.its_own, Pl.its_brw, Pl.its_str, Pl.enum_tup, Pl.eq_int, Pl.ne_int, Pl.lt_int, Pl.le_int, Pl.gt_int, Pl.ge_int, Pl.add_int, Pl.sub_int, Pl.len_tup, Pl.len_own, Pl.len_brw, Pl.len_lst, Pl.idx_tup, Pl.idx_lst, Pl.idx_own, Pl.idx_brw, Pl.in_dic, Pl.nin_dic, Pl.idx_dic, Pl.is_non, Pl.isn_non, Pl.at_zero, Pl.at_one, sizeLine_eq, Nat.reduceAdd, Nat.reduceLeDiff, ndPt, eq_str (okZ_sort (.inl hs1)) (show okZ "term" from by decide +kernel), eq_str hw0 (show okZ "name" from by decide +kernel)]
      by_cases c2 : sort = "term" ∧ w = "name"
      · obtain ⟨rfl, rfl⟩ := c2
        simp only [Pl.runFn, List.length_cons, List.length_nil, Pl.startE_cons, Pl.startE_nil, Pl.repl_succ, List.replicate_zero, Nat.zero_add, Pl.execs, Pl.exec, Pl.evalT, Pl.evalE, Pl.evalVs, Pl.evalP, Pl.evalI, Pl.evalJ, List.getElem?_cons_zero, List.getElem?_cons_succ, Pl.Res.bind_ok, Pl.Res.bind_exc, Pl.Res.bind_stuck, Pl.Res.to_ok, Pl.Res.to_exc, Pl.Res.to_stuck, Pl.Res.calm_ok, Pl.SR.andThen_next, Pl.SR.andThen_ret, Pl.SR.andThen_brk, Pl.SR.andThen_cont, Pl.SR.andThen_exc, Pl.SR.andThen_stuck, Pl.gcE_self, Pl.gcX_self, Pl.optR_some, Pl.optR_none, Pl.EV.val_d, Pl.EV.val_own, Pl.EV.items_own, Pl.EV.items_brw, Pl.EV.items_lst, if_true, if_false, reduceIte, Bool.false_eq_true, Bool.not_true, Bool.not_false, List.set_cons_zero, List.set_cons_succ, Pl.wipeE, List.map_cons, List.map_nil, Pl.setE, Pl.bindT, Pl.bindNames, Nat.zero_lt_succ, Nat.succ_lt_succ_iff, Nat.lt_add_one, Pl.tru_bl, Pl.tru_int, Pl.its_tup, Pl.its_lst, Pl.its_own, Pl.its_brw, Pl.its_str, Pl.enum_tup, Pl.eq_int, Pl.ne_int, Pl.lt_int, Pl.le_int, Pl.gt_int, Pl.ge_int, Pl.add_int, Pl.sub_int, Pl.len_tup, Pl.len_own, Pl.len_brw, Pl.len_lst, Pl.idx_tup, Pl.idx_lst, Pl.idx_own, Pl.idx_brw, Pl.in_dic, Pl.nin_dic, Pl.idx_dic, Pl.is_non, Pl.isn_non, Pl.at_zero, Pl.at_one, sizeLine_eq, Nat.reduceAdd, Nat.reduceLeDiff, decide_true, and_self, ptR]
      · rw [if_neg c2]
        have c3 : (if decide (sort = Str.ofString "term") = true then (Res.ok (decide (w = Str.ofString "name")) S : Res Bool) else Res.ok false S) = Res.ok false S := by
          by_cases q : sort = Str.ofString "term"
          · rw [if_pos (decide_eq_true q), decide_eq_false fun z => c2 ⟨q, z⟩]
          · rw [if_neg (by rw [decide_eq_false q]; exact Bool.false_ne_true)]
        have hp := s_parts_of (n + m + 6) (args := args) S hs1 N.row
        rw [show n + m + 6 + 1 = n + m + 7 by omega] at hp
        simp only [Pl.runFn, List.length_cons, List.length_nil, Pl.startE_cons, Pl.startE_nil, Pl.repl_succ, List.replicate_zero, Nat.zero_add, Pl.execs, Pl.exec, Pl.evalT, Pl.evalE, Pl.evalVs, Pl.evalP, Pl.evalI, Pl.evalJ, List.getElem?_cons_zero, List.getElem?_cons_succ, Pl.Res.bind_ok, Pl.Res.bind_exc, Pl.Res.bind_stuck, Pl.Res.to_ok, Pl.Res.to_exc, Pl.Res.to_stuck, Pl.Res.calm_ok, Pl.SR.andThen_next, Pl.SR.andThen_ret, Pl.SR.andThen_brk, Pl.SR.andThen_cont, Pl.SR.andThen_exc, Pl.SR.andThen_stuck, Pl.gcE_self, Pl.gcX_self, Pl.optR_some, Pl.optR_none, Pl.EV.val_d, Pl.EV.val_own, Pl.EV.items_own, Pl.EV.items_brw, Pl.EV.items_lst, if_true, if_false, reduceIte, Bool.false_eq_true, Bool.not_true, Bool.not_false, List.set_cons_zero, List.set_cons_succ, Pl.wipeE, List.map_cons, List.map_nil, Pl.setE, Pl.bindT, Pl.bindNames, Nat.zero_lt_succ, Nat.succ_lt_succ_iff, Nat.lt_add_one, Pl.tru_bl, Pl.tru_int, Pl.its_tup, Pl.its_lst, Pl.its_own, Pl.its_brw, Pl.its_str, Pl.enum_tup, Pl.eq_int, Pl.ne_int, Pl.lt_int, Pl.le_int, Pl.gt_int, Pl.ge_int, Pl.add_int, Pl.sub_int, Pl.len_tup, Pl.len_own, Pl.len_brw, Pl.len_lst, Pl.idx_tup, Pl.idx_lst, Pl.idx_own, Pl.idx_brw, Pl.in_dic, Pl.nin_dic, Pl.idx_dic, Pl.is_non, Pl.isn_non, Pl.at_zero, Pl.at_one, sizeLine_eq, Nat.reduceAdd, Nat.reduceLeDiff, c3, list_tup, hp]
        generalize hfl : forLoop _ _ _ _ _ = r
        let tot := stepP nm t (fun d s => ptn nm t (n + 1) d s) (.str w :: args) (kps sort w) (.str w :: args)
        have hq : (∃ l ρ, r = .next ρ S ∧ ρ[4]? = some (some (.own l)) ∧ tot = some l) ∨ (tot = none ∧ ∃ ρ, r = .exc "BadDerivation" ρ S) := by
          rw [← hfl]
          refine for_inv (fun ps ρ S' => S = S' ∧ (∀ p ∈ ps, p ∈ partsD sort w) ∧ ∃ l a b c, l.length = args.length + 1 ∧ tot = stepP nm t (fun d s => ptn nm t (n + 1) d s) (.str w :: args) (ps.filterMap (keep sort w)) l ∧
              ρ = [some (.d (.tup (.str w :: args))), some (.d (.str sort)), some (.d (.str nm)), some (.d t), some (.own l), a, b, c])
            (fun r => (∃ l ρ, r = .next ρ S ∧ ρ[4]? = some (some (.own l)) ∧ tot = some l) ∨ (tot = none ∧ ∃ ρ, r = .exc "BadDerivation" ρ S))
            (partsD sort w) _ S ⟨rfl, fun _ h => h, .str w :: args, _, _, _, rfl, rfl, rfl⟩ (fun _ _ _ _ => rfl) ?_ ?_
          · rintro ρ S' ⟨rfl, _, l, a, b, c, hl, e, rfl⟩
            exact .inl ⟨l, _, rfl, rfl, by rw [e]; rfl⟩
          · rintro x xs ρ S' ⟨rfl, h1, l, a, b, c, hl, e, rfl⟩
            obtain ⟨i, z, rfl, hz, hzk⟩ := mem_parts hs1 N.row (h1 x List.mem_cons_self)
            obtain ⟨y, ey, hy⟩ := N'.sub i z hz
            have hi : i < args.length := (List.getElem?_eq_some_iff.mp ey).1
            have ex : (D.str w :: args)[i + 1]? = some y := by simpa using ey
            have hym : y ∈ D.str w :: args := List.mem_of_getElem? ex
            have hyd : dep y ≤ n := dep_in hym hd
            have hysm := sms_mem m2 hym
            have hov := told_str N ms ((i : Int) + 1) ovR fun d hd => List.mem_append_left _ hd
            have on : ∀ d ∈ xs, d ∈ partsD sort w := fun d hd => h1 d (List.mem_cons_of_mem _ hd)
            have hov7 : setE (.name 7) (.d (toldV sort w ((i : Int) + 1) (.str w :: args) ovR)) [some (.d (.tup (.str w :: args))), some (.d (.str sort)), some (.d (.str nm)), some (.d t), some (.own l), some (.d (.int ((i : Int) + 1))), some (.d (.str z)), c] = some [some (.d (.tup (.str w :: args))), some (.d (.str sort)), some (.d (.str nm)), some (.d t), some (.own l), some (.d (.int ((i : Int) + 1))), some (.d (.str z)), some (.d (toldV sort w ((i : Int) + 1) (.str w :: args) ovR))] := rfl
            have hal := s_name_alone (n + m + 5) (sort := sort) (w := w) (t := (i : Int) + 1) S N ms hw0
            have hovr := s_name_over (n + m + 5) (sort := sort) (w := w) (t := (i : Int) + 1) S N ms hw0
            rw [show n + m + 5 + 2 = n + m + 7 by omega] at hal hovr
            have hfy := s_free (n := n + m + 1) (v := y) (sort := z) (nm := nm) S hysm (by omega) hzk hy hn
            rw [show n + m + 1 + 6 = n + m + 7 by omega] at hfy
            have gy : (atI (D.str w :: args) ((i : Int) + 1)).getD .non = y := by rw [at_one, ex]; rfl
            -- where nothing is put
            have skip : ¬ (toldV sort w ((i : Int) + 1) (.str w :: args) alR = .non ∧ ¬ toldV sort w ((i : Int) + 1) (.str w :: args) ovR = .str nm ∧ fr y z nm = true) → tot = stepP nm t (fun d s => ptn nm t (n + 1) d s) (.str w :: args) (xs.filterMap (keep sort w)) l := by
              intro hno
              rw [e]
              cases hk : keep sort w (.tup [.int ((i : Int) + 1), .str z]) with
              | none => rw [kps_skip hk]
              | some q =>
                rw [kps_take hk]
                unfold keep at hk
                simp only at hk
                by_cases k1 : z = "kind"
                · rw [if_pos k1] at hk; cases hk
                · rw [if_neg k1] at hk
                  by_cases k2 : rowIx sort w ((i : Int) + 1) alR = none
                  · rw [if_pos k2] at hk
                    cases hk
                    refine stepP_skip ?_
                    unfold frK
                    simp only [gy]
                    rw [← ov_ix]
                    by_cases k3 : toldV sort w ((i : Int) + 1) (.str w :: args) ovR = .str nm
                    · simp [k3]
                    · cases k4 : fr y z nm with
                      | false => simp
                      | true => exact (hno ⟨(al_iff N ms _).mpr k2, k3, k4⟩).elim
                  · rw [if_neg k2] at hk; cases hk
            simp only [Pl.runFn, List.length_cons, List.length_nil, Pl.startE_cons, Pl.startE_nil, Pl.repl_succ, List.replicate_zero, Nat.zero_add, Pl.execs, Pl.exec, Pl.evalT, Pl.evalE, Pl.evalVs, Pl.evalP, Pl.evalI, Pl.evalJ, List.getElem?_cons_zero, List.getElem?_cons_succ, Pl.Res.bind_ok, Pl.Res.bind_exc, Pl.Res.bind_stuck, Pl.Res.to_ok, Pl.Res.to_exc, Pl.Res.to_stuck, Pl.Res.calm_ok, Pl.SR.andThen_next, Pl.SR.andThen_ret, Pl.SR.andThen_brk, Pl.SR.andThen_cont, Pl.SR.andThen_exc, Pl.SR.andThen_stuck, Pl.gcE_self, Pl.gcX_self, Pl.optR_some, Pl.optR_none, Pl.EV.val_d, Pl.EV.val_own, Pl.EV.items_own, Pl.EV.items_brw, Pl.EV.items_lst, if_true, if_false, reduceIte, Bool.false_eq_true, Bool.not_true, Bool.not_false, List.set_cons_zero, List.set_cons_succ, Pl.wipeE, List.map_cons, List.map_nil, Pl.setE, Pl.bindT, Pl.bindNames, Nat.zero_lt_succ, Nat.succ_lt_succ_iff, Nat.lt_add_one, Pl.tru_bl, Pl.tru_int, Pl.its_tup, Pl.its_lst, Pl.its_own, Pl.its_brw, Pl.its_str, Pl.enum_tup, Pl.eq_int, Pl.ne_int, Pl.lt_int, Pl.le_int, Pl.gt_int, Pl.ge_int, Pl.add_int, Pl.sub_int, Pl.len_tup, Pl.len_own, Pl.len_brw, Pl.len_lst, Pl.idx_tup, Pl.idx_lst, Pl.idx_own, Pl.idx_brw, Pl.in_dic, Pl.nin_dic, Pl.idx_dic, Pl.is_non, Pl.isn_non, Pl.at_zero, Pl.at_one, sizeLine_eq, Nat.reduceAdd, Nat.reduceLeDiff, hovr, hal, ne_told hn hov, EV.d.injEq]
            by_cases c5 : toldV sort w ((i : Int) + 1) (.str w :: args) alR = .non
            · by_cases c6 : toldV sort w ((i : Int) + 1) (.str w :: args) ovR = .str nm
              · simp only [Pl.runFn, List.length_cons, List.length_nil, Pl.startE_cons, Pl.startE_nil, Pl.repl_succ, List.replicate_zero, Nat.zero_add, Pl.execs, Pl.exec, Pl.evalT, Pl.evalE, Pl.evalVs, Pl.evalP, Pl.evalI, Pl.evalJ, List.getElem?_cons_zero, List.getElem?_cons_succ, Pl.Res.bind_ok, Pl.Res.bind_exc, Pl.Res.bind_stuck, Pl.Res.to_ok, Pl.Res.to_exc, Pl.Res.to_stuck, Pl.Res.calm_ok, Pl.SR.andThen_next, Pl.SR.andThen_ret, Pl.SR.andThen_brk, Pl.SR.andThen_cont, Pl.SR.andThen_exc, Pl.SR.andThen_stuck, Pl.gcE_self, Pl.gcX_self, Pl.optR_some, Pl.optR_none, Pl.EV.val_d, Pl.EV.val_own, Pl.EV.items_own, Pl.EV.items_brw, Pl.EV.items_lst, if_true, if_false, reduceIte, Bool.false_eq_true, Bool.not_true, Bool.not_false, List.set_cons_zero, List.set_cons_succ, Pl.wipeE, List.map_cons, List.map_nil, Pl.setE, Pl.bindT, Pl.bindNames, Nat.zero_lt_succ, Nat.succ_lt_succ_iff, Nat.lt_add_one, Pl.tru_bl, Pl.tru_int, Pl.its_tup, Pl.its_lst, Pl.its_own, Pl.its_brw, Pl.its_str, Pl.enum_tup, Pl.eq_int, Pl.ne_int, Pl.lt_int, Pl.le_int, Pl.gt_int, Pl.ge_int, Pl.add_int, Pl.sub_int, Pl.len_tup, Pl.len_own, Pl.len_brw, Pl.len_lst, Pl.idx_tup, Pl.idx_lst, Pl.idx_own, Pl.idx_brw, Pl.in_dic, Pl.nin_dic, Pl.idx_dic, Pl.is_non, Pl.isn_non, Pl.at_zero, Pl.at_one, sizeLine_eq, Nat.reduceAdd, Nat.reduceLeDiff, c5, c6, decide_true, ne_told hn hov]
                refine .inl ⟨_, _, rfl, rfl, on, l, _, _, _, hl, skip (fun q => q.2.1 c6), rfl⟩
              · simp only [Pl.runFn, List.length_cons, List.length_nil, Pl.startE_cons, Pl.startE_nil, Pl.repl_succ, List.replicate_zero, Nat.zero_add, Pl.execs, Pl.exec, Pl.evalT, Pl.evalE, Pl.evalVs, Pl.evalP, Pl.evalI, Pl.evalJ, List.getElem?_cons_zero, List.getElem?_cons_succ, Pl.Res.bind_ok, Pl.Res.bind_exc, Pl.Res.bind_stuck, Pl.Res.to_ok, Pl.Res.to_exc, Pl.Res.to_stuck, Pl.Res.calm_ok, Pl.SR.andThen_next, Pl.SR.andThen_ret, Pl.SR.andThen_brk, Pl.SR.andThen_cont, Pl.SR.andThen_exc, Pl.SR.andThen_stuck, Pl.gcE_self, Pl.gcX_self, Pl.optR_some, Pl.optR_none, Pl.EV.val_d, Pl.EV.val_own, Pl.EV.items_own, Pl.EV.items_brw, Pl.EV.items_lst, if_true, if_false, reduceIte, Bool.false_eq_true, Bool.not_true, Bool.not_false, List.set_cons_zero, List.set_cons_succ, Pl.wipeE, List.map_cons, List.map_nil, Pl.setE, Pl.bindT, Pl.bindNames, Nat.zero_lt_succ, Nat.succ_lt_succ_iff, Nat.lt_add_one, Pl.tru_bl, Pl.tru_int, Pl.its_tup, Pl.its_lst, Pl.its_own, Pl.its_brw, Pl.its_str, Pl.enum_tup, Pl.eq_int, Pl.ne_int, Pl.lt_int, Pl.le_int, Pl.gt_int, Pl.ge_int, Pl.add_int, Pl.sub_int, Pl.len_tup, Pl.len_own, Pl.len_brw, Pl.len_lst, Pl.idx_tup, Pl.idx_lst, Pl.idx_own, Pl.idx_brw, Pl.in_dic, Pl.nin_dic, Pl.idx_dic, Pl.is_non, Pl.isn_non, Pl.at_zero, Pl.at_one, sizeLine_eq, Nat.reduceAdd, Nat.reduceLeDiff, c5, c6, decide_true, decide_false, ex, ey, hfy, ne_told hn hov]
                cases c7 : fr y z nm with
                | false =>
                  simp only [Pl.runFn, List.length_cons, List.length_nil, Pl.startE_cons, Pl.startE_nil, Pl.repl_succ, List.replicate_zero, Nat.zero_add, Pl.execs, Pl.exec, Pl.evalT, Pl.evalE, Pl.evalVs, Pl.evalP, Pl.evalI, Pl.evalJ, List.getElem?_cons_zero, List.getElem?_cons_succ, Pl.Res.bind_ok, Pl.Res.bind_exc, Pl.Res.bind_stuck, Pl.Res.to_ok, Pl.Res.to_exc, Pl.Res.to_stuck, Pl.Res.calm_ok, Pl.SR.andThen_next, Pl.SR.andThen_ret, Pl.SR.andThen_brk, Pl.SR.andThen_cont, Pl.SR.andThen_exc, Pl.SR.andThen_stuck, Pl.gcE_self, Pl.gcX_self, Pl.optR_some, Pl.optR_none, Pl.EV.val_d, Pl.EV.val_own, Pl.EV.items_own, Pl.EV.items_brw, Pl.EV.items_lst, if_true, if_false, reduceIte, Bool.false_eq_true, Bool.not_true, Bool.not_false, List.set_cons_zero, List.set_cons_succ, Pl.wipeE, List.map_cons, List.map_nil, Pl.setE, Pl.bindT, Pl.bindNames, Nat.zero_lt_succ, Nat.succ_lt_succ_iff, Nat.lt_add_one, Pl.tru_bl, Pl.tru_int, Pl.its_tup, Pl.its_lst, Pl.its_own, Pl.its_brw, Pl.its_str, Pl.enum_tup, Pl.eq_int, Pl.ne_int, Pl.lt_int, Pl.le_int, Pl.gt_int, Pl.ge_int, Pl.add_int, Pl.sub_int, Pl.len_tup, Pl.len_own, Pl.len_brw, Pl.len_lst, Pl.idx_tup, Pl.idx_lst, Pl.idx_own, Pl.idx_brw, Pl.in_dic, Pl.nin_dic, Pl.idx_dic, Pl.is_non, Pl.isn_non, Pl.at_zero, Pl.at_one, sizeLine_eq, Nat.reduceAdd, Nat.reduceLeDiff]
                  refine .inl ⟨_, _, rfl, rfl, on, l, _, _, _, hl, skip (fun q => by rw [c7] at q; exact Bool.false_ne_true q.2.2), rfl⟩
                | true =>
                  have k1 : ¬ z = "kind" := fun q => by rw [q, fr_kind] at c7; cases c7
                  have k2 : rowIx sort w ((i : Int) + 1) alR = none := (al_iff N ms _).mp c5
                  have hk : keep sort w (.tup [.int ((i : Int) + 1), .str z]) = some ((i : Int) + 1, z, rowIx sort w ((i : Int) + 1) ovR) := by
                    unfold keep
                    simp only
                    rw [if_neg k1, if_pos k2]
                  have hfk : frK (.str w :: args) nm ((i : Int) + 1, z, rowIx sort w ((i : Int) + 1) ovR) = true := by
                    unfold frK
                    simp only [gy, ← ov_ix, c7]
                    simp [c6]
                  rw [kps_take hk, stepP, if_pos hfk] at e
                  simp only [gy, ← ov_ix] at e
                  have hztf : z ∈ tf := ((k_ok hs N.row).kp ((i : Int) + 1, z, rowIx sort w ((i : Int) + 1) ovR) (by
                    unfold kps
                    exact List.mem_filterMap.mpr ⟨_, h1 _ List.mem_cons_self, hk⟩)).1
                  have hput := ih y z S hysm hyd hztf hy
                  have hix : ixN l.length ((i : Int) + 1) = some (i + 1) := by
                    rw [show ((i : Int) + 1) = ((i + 1 : Nat) : Int) by omega, ixN_in (by omega)]
                  have htn : ((i : Int) + 1).toNat = i + 1 := by omega
                  rw [htn] at e
                  rcases hov with h0 | ⟨yo, h0, oyo⟩
                  · rw [h0] at e ⊢
                    rw [if_neg (show ¬ tfD t .non = true from Bool.false_ne_true)] at e
                    simp only [Pl.runFn, List.length_cons, List.length_nil, Pl.startE_cons, Pl.startE_nil, Pl.repl_succ, List.replicate_zero, Nat.zero_add, Pl.execs, Pl.exec, Pl.evalT, Pl.evalE, Pl.evalVs, Pl.evalP, Pl.evalI, Pl.evalJ, List.getElem?_cons_zero, List.getElem?_cons_succ, Pl.Res.bind_ok, Pl.Res.bind_exc, Pl.Res.bind_stuck, Pl.Res.to_ok, Pl.Res.to_exc, Pl.Res.to_stuck, Pl.Res.calm_ok, Pl.SR.andThen_next, Pl.SR.andThen_ret, Pl.SR.andThen_brk, Pl.SR.andThen_cont, Pl.SR.andThen_exc, Pl.SR.andThen_stuck, Pl.gcE_self, Pl.gcX_self, Pl.optR_some, Pl.optR_none, Pl.EV.val_d, Pl.EV.val_own, Pl.EV.items_own, Pl.EV.items_brw, Pl.EV.items_lst, if_true, if_false, reduceIte, Bool.false_eq_true, Bool.not_true, Bool.not_false, List.set_cons_zero, List.set_cons_succ, Pl.wipeE, List.map_cons, List.map_nil, Pl.setE, Pl.bindT, Pl.bindNames, Nat.zero_lt_succ, Nat.succ_lt_succ_iff, Nat.lt_add_one, Pl.tru_bl, Pl.tru_int, Pl.its_tup, Pl.its_lst, Pl.its_own, Pl.its_brw, Pl.its_str, Pl.enum_tup, Pl.eq_int, Pl.ne_int, Pl.lt_int, Pl.le_int, Pl.gt_int, Pl.ge_int, Pl.add_int, Pl.sub_int, Pl.len_tup, Pl.len_own, Pl.len_brw, Pl.len_lst, Pl.idx_tup, Pl.idx_lst, Pl.idx_own, Pl.idx_brw, Pl.in_dic, Pl.nin_dic, Pl.idx_dic, Pl.is_non, Pl.isn_non, Pl.at_zero, Pl.at_one, sizeLine_eq, Nat.reduceAdd, Nat.reduceLeDiff, decide_true, ey, ex, hput, slotL]
                    cases hpt : ptn nm t (n + 1) y z with
                    | none =>
                      rw [hpt] at e
                      simp only [Pl.runFn, List.length_cons, List.length_nil, Pl.startE_cons, Pl.startE_nil, Pl.repl_succ, List.replicate_zero, Nat.zero_add, Pl.execs, Pl.exec, Pl.evalT, Pl.evalE, Pl.evalVs, Pl.evalP, Pl.evalI, Pl.evalJ, List.getElem?_cons_zero, List.getElem?_cons_succ, Pl.Res.bind_ok, Pl.Res.bind_exc, Pl.Res.bind_stuck, Pl.Res.to_ok, Pl.Res.to_exc, Pl.Res.to_stuck, Pl.Res.calm_ok, Pl.SR.andThen_next, Pl.SR.andThen_ret, Pl.SR.andThen_brk, Pl.SR.andThen_cont, Pl.SR.andThen_exc, Pl.SR.andThen_stuck, Pl.gcE_self, Pl.gcX_self, Pl.optR_some, Pl.optR_none, Pl.EV.val_d, Pl.EV.val_own, Pl.EV.items_own, Pl.EV.items_brw, Pl.EV.items_lst, if_true, if_false, reduceIte, Bool.false_eq_true, Bool.not_true, Bool.not_false, List.set_cons_zero, List.set_cons_succ, Pl.wipeE, List.map_cons, List.map_nil, Pl.setE, Pl.bindT, Pl.bindNames, Nat.zero_lt_succ, Nat.succ_lt_succ_iff, Nat.lt_add_one, Pl.tru_bl, Pl.tru_int, Pl.its_tup, Pl.its_lst, Pl.its_own, Pl.its_brw, Pl.its_str, Pl.enum_tup, Pl.eq_int, Pl.ne_int, Pl.lt_int, Pl.le_int, Pl.gt_int, Pl.ge_int, Pl.add_int, Pl.sub_int, Pl.len_tup, Pl.len_own, Pl.len_brw, Pl.len_lst, Pl.idx_tup, Pl.idx_lst, Pl.idx_own, Pl.idx_brw, Pl.in_dic, Pl.nin_dic, Pl.idx_dic, Pl.is_non, Pl.isn_non, Pl.at_zero, Pl.at_one, sizeLine_eq, Nat.reduceAdd, Nat.reduceLeDiff, ptR]
                      exact .inr (.inr ⟨_, _, _, rfl, .inr ⟨e, _, rfl⟩⟩)
                    | some y' =>
                      rw [hpt] at e
                      simp only [Pl.runFn, List.length_cons, List.length_nil, Pl.startE_cons, Pl.startE_nil, Pl.repl_succ, List.replicate_zero, Nat.zero_add, Pl.execs, Pl.exec, Pl.evalT, Pl.evalE, Pl.evalVs, Pl.evalP, Pl.evalI, Pl.evalJ, List.getElem?_cons_zero, List.getElem?_cons_succ, Pl.Res.bind_ok, Pl.Res.bind_exc, Pl.Res.bind_stuck, Pl.Res.to_ok, Pl.Res.to_exc, Pl.Res.to_stuck, Pl.Res.calm_ok, Pl.SR.andThen_next, Pl.SR.andThen_ret, Pl.SR.andThen_brk, Pl.SR.andThen_cont, Pl.SR.andThen_exc, Pl.SR.andThen_stuck, Pl.gcE_self, Pl.gcX_self, Pl.optR_some, Pl.optR_none, Pl.EV.val_d, Pl.EV.val_own, Pl.EV.items_own, Pl.EV.items_brw, Pl.EV.items_lst, if_true, if_false, reduceIte, Bool.false_eq_true, Bool.not_true, Bool.not_false, List.set_cons_zero, List.set_cons_succ, Pl.wipeE, List.map_cons, List.map_nil, Pl.setE, Pl.bindT, Pl.bindNames, Nat.zero_lt_succ, Nat.succ_lt_succ_iff, Nat.lt_add_one, Pl.tru_bl, Pl.tru_int, Pl.its_tup, Pl.its_lst, Pl.its_own, Pl.its_brw, Pl.its_str, Pl.enum_tup, Pl.eq_int, Pl.ne_int, Pl.lt_int, Pl.le_int, Pl.gt_int, Pl.ge_int, Pl.add_int, Pl.sub_int, Pl.len_tup, Pl.len_own, Pl.len_brw, Pl.len_lst, Pl.idx_tup, Pl.idx_lst, Pl.idx_own, Pl.idx_brw, Pl.in_dic, Pl.nin_dic, Pl.idx_dic, Pl.is_non, Pl.isn_non, Pl.at_zero, Pl.at_one, sizeLine_eq, Nat.reduceAdd, Nat.reduceLeDiff, ptR, slotL, putL, hix, Option.map_some]
                      exact .inl ⟨_, _, rfl, rfl, on, l.set (i + 1) y', _, _, _, by rw [List.length_set]; exact hl, e, rfl⟩
                  · rw [h0] at e ⊢
                    have hft := s_free (n := n + m + 1) (v := t) (sort := "term") (nm := yo) S ht (by omega) (by decide +kernel) hwt oyo
                    rw [show n + m + 1 + 6 = n + m + 7 by omega] at hft
                    rw [show tfD t (.str yo) = fr t "term" yo from rfl] at e
                    simp only [Pl.runFn, List.length_cons, List.length_nil, Pl.startE_cons, Pl.startE_nil, Pl.repl_succ, List.replicate_zero, Nat.zero_add, Pl.execs, Pl.exec, Pl.evalT, Pl.evalE, Pl.evalVs, Pl.evalP, Pl.evalI, Pl.evalJ, List.getElem?_cons_zero, List.getElem?_cons_succ, Pl.Res.bind_ok, Pl.Res.bind_exc, Pl.Res.bind_stuck, Pl.Res.to_ok, Pl.Res.to_exc, Pl.Res.to_stuck, Pl.Res.calm_ok, Pl.SR.andThen_next, Pl.SR.andThen_ret, Pl.SR.andThen_brk, Pl.SR.andThen_cont, Pl.SR.andThen_exc, Pl.SR.andThen_stuck, Pl.gcE_self, Pl.gcX_self, Pl.optR_some, Pl.optR_none, Pl.EV.val_d, Pl.EV.val_own, Pl.EV.items_own, Pl.EV.items_brw, Pl.EV.items_lst, if_true, if_false, reduceIte, Bool.false_eq_true, Bool.not_true, Bool.not_false, List.set_cons_zero, List.set_cons_succ, Pl.wipeE, List.map_cons, List.map_nil, Pl.setE, Pl.bindT, Pl.bindNames, Nat.zero_lt_succ, Nat.succ_lt_succ_iff, Nat.lt_add_one, Pl.tru_bl, Pl.tru_int, Pl.its_tup, Pl.its_lst, Pl.its_own, Pl.its_brw, Pl.its_str, Pl.enum_tup, Pl.eq_int, Pl.ne_int, Pl.lt_int, Pl.le_int, Pl.gt_int, Pl.ge_int, Pl.add_int, Pl.sub_int, Pl.len_tup, Pl.len_own, Pl.len_brw, Pl.len_lst, Pl.idx_tup, Pl.idx_lst, Pl.idx_own, Pl.idx_brw, Pl.in_dic, Pl.nin_dic, Pl.idx_dic, Pl.is_non, Pl.isn_non, Pl.at_zero, Pl.at_one, sizeLine_eq, Nat.reduceAdd, Nat.reduceLeDiff, hft, reduceCtorEq, decide_false]
                    cases hfr2 : fr t "term" yo with
                    | true =>
                      rw [hfr2, if_pos rfl] at e
                      simp only [Pl.runFn, List.length_cons, List.length_nil, Pl.startE_cons, Pl.startE_nil, Pl.repl_succ, List.replicate_zero, Nat.zero_add, Pl.execs, Pl.exec, Pl.evalT, Pl.evalE, Pl.evalVs, Pl.evalP, Pl.evalI, Pl.evalJ, List.getElem?_cons_zero, List.getElem?_cons_succ, Pl.Res.bind_ok, Pl.Res.bind_exc, Pl.Res.bind_stuck, Pl.Res.to_ok, Pl.Res.to_exc, Pl.Res.to_stuck, Pl.Res.calm_ok, Pl.SR.andThen_next, Pl.SR.andThen_ret, Pl.SR.andThen_brk, Pl.SR.andThen_cont, Pl.SR.andThen_exc, Pl.SR.andThen_stuck, Pl.gcE_self, Pl.gcX_self, Pl.optR_some, Pl.optR_none, Pl.EV.val_d, Pl.EV.val_own, Pl.EV.items_own, Pl.EV.items_brw, Pl.EV.items_lst, if_true, if_false, reduceIte, Bool.false_eq_true, Bool.not_true, Bool.not_false, List.set_cons_zero, List.set_cons_succ, Pl.wipeE, List.map_cons, List.map_nil, Pl.setE, Pl.bindT, Pl.bindNames, Nat.zero_lt_succ, Nat.succ_lt_succ_iff, Nat.lt_add_one, Pl.tru_bl, Pl.tru_int, Pl.its_tup, Pl.its_lst, Pl.its_own, Pl.its_brw, Pl.its_str, Pl.enum_tup, Pl.eq_int, Pl.ne_int, Pl.lt_int, Pl.le_int, Pl.gt_int, Pl.ge_int, Pl.add_int, Pl.sub_int, Pl.len_tup, Pl.len_own, Pl.len_brw, Pl.len_lst, Pl.idx_tup, Pl.idx_lst, Pl.idx_own, Pl.idx_brw, Pl.in_dic, Pl.nin_dic, Pl.idx_dic, Pl.is_non, Pl.isn_non, Pl.at_zero, Pl.at_one, sizeLine_eq, Nat.reduceAdd, Nat.reduceLeDiff, excs_deriv]
                      exact .inr (.inr ⟨_, _, _, rfl, .inr ⟨e, _, rfl⟩⟩)
                    | false =>
                      rw [hfr2, if_neg Bool.false_ne_true] at e
                      simp only [Pl.runFn, List.length_cons, List.length_nil, Pl.startE_cons, Pl.startE_nil, Pl.repl_succ, List.replicate_zero, Nat.zero_add, Pl.execs, Pl.exec, Pl.evalT, Pl.evalE, Pl.evalVs, Pl.evalP, Pl.evalI, Pl.evalJ, List.getElem?_cons_zero, List.getElem?_cons_succ, Pl.Res.bind_ok, Pl.Res.bind_exc, Pl.Res.bind_stuck, Pl.Res.to_ok, Pl.Res.to_exc, Pl.Res.to_stuck, Pl.Res.calm_ok, Pl.SR.andThen_next, Pl.SR.andThen_ret, Pl.SR.andThen_brk, Pl.SR.andThen_cont, Pl.SR.andThen_exc, Pl.SR.andThen_stuck, Pl.gcE_self, Pl.gcX_self, Pl.optR_some, Pl.optR_none, Pl.EV.val_d, Pl.EV.val_own, Pl.EV.items_own, Pl.EV.items_brw, Pl.EV.items_lst, if_true, if_false, reduceIte, Bool.false_eq_true, Bool.not_true, Bool.not_false, List.set_cons_zero, List.set_cons_succ, Pl.wipeE, List.map_cons, List.map_nil, Pl.setE, Pl.bindT, Pl.bindNames, Nat.zero_lt_succ, Nat.succ_lt_succ_iff, Nat.lt_add_one, Pl.tru_bl, Pl.tru_int, Pl.its_tup, Pl.its_lst, Pl.its_own, Pl.its_brw, Pl.its_str, Pl.enum_tup, Pl.eq_int, Pl.ne_int, Pl.lt_int, Pl.le_int, Pl.gt_int, Pl.ge_int, Pl.add_int, Pl.sub_int, Pl.len_tup, Pl.len_own, Pl.len_brw, Pl.len_lst, Pl.idx_tup, Pl.idx_lst, Pl.idx_own, Pl.idx_brw, Pl.in_dic, Pl.nin_dic, Pl.idx_dic, Pl.is_non, Pl.isn_non, Pl.at_zero, Pl.at_one, sizeLine_eq, Nat.reduceAdd, Nat.reduceLeDiff, ey, ex, hput, slotL]
                      cases hpt : ptn nm t (n + 1) y z with
                      | none =>
                        rw [hpt] at e
                        simp only [Pl.runFn, List.length_cons, List.length_nil, Pl.startE_cons, Pl.startE_nil, Pl.repl_succ, List.replicate_zero, Nat.zero_add, Pl.execs, Pl.exec, Pl.evalT, Pl.evalE, Pl.evalVs, Pl.evalP, Pl.evalI, Pl.evalJ, List.getElem?_cons_zero, List.getElem?_cons_succ, Pl.Res.bind_ok, Pl.Res.bind_exc, Pl.Res.bind_stuck, Pl.Res.to_ok, Pl.Res.to_exc, Pl.Res.to_stuck, Pl.Res.calm_ok, Pl.SR.andThen_next, Pl.SR.andThen_ret, Pl.SR.andThen_brk, Pl.SR.andThen_cont, Pl.SR.andThen_exc, Pl.SR.andThen_stuck, Pl.gcE_self, Pl.gcX_self, Pl.optR_some, Pl.optR_none, Pl.EV.val_d, Pl.EV.val_own, Pl.EV.items_own, Pl.EV.items_brw, Pl.EV.items_lst, if_true, if_false, reduceIte, Bool.false_eq_true, Bool.not_true, Bool.not_false, List.set_cons_zero, List.set_cons_succ, Pl.wipeE, List.map_cons, List.map_nil, Pl.setE, Pl.bindT, Pl.bindNames, Nat.zero_lt_succ, Nat.succ_lt_succ_iff, Nat.lt_add_one, Pl.tru_bl, Pl.tru_int, Pl.its_tup, Pl.its_lst, Pl.its_own, Pl.its_brw, Pl.its_str, Pl.enum_tup, Pl.eq_int, Pl.ne_int, Pl.lt_int, Pl.le_int, Pl.gt_int, Pl.ge_int, Pl.add_int, Pl.sub_int, Pl.len_tup, Pl.len_own, Pl.len_brw, Pl.len_lst, Pl.idx_tup, Pl.idx_lst, Pl.idx_own, Pl.idx_brw, Pl.in_dic, Pl.nin_dic, Pl.idx_dic, Pl.is_non, Pl.isn_non, Pl.at_zero, Pl.at_one, sizeLine_eq, Nat.reduceAdd, Nat.reduceLeDiff, ptR]
                        exact .inr (.inr ⟨_, _, _, rfl, .inr ⟨e, _, rfl⟩⟩)
                      | some y' =>
                        rw [hpt] at e
                        simp only [Pl.runFn, List.length_cons, List.length_nil, Pl.startE_cons, Pl.startE_nil, Pl.repl_succ, List.replicate_zero, Nat.zero_add, Pl.execs, Pl.exec, Pl.evalT, Pl.evalE, Pl.evalVs, Pl.evalP, Pl.evalI, Pl.evalJ, List.getElem?_cons_zero, List.getElem?_cons_succ, Pl.Res.bind_ok, Pl.Res.bind_exc, Pl.Res.bind_stuck, Pl.Res.to_ok, Pl.Res.to_exc, Pl.Res.to_stuck, Pl.Res.calm_ok, Pl.SR.andThen_next, Pl.SR.andThen_ret, Pl.SR.andThen_brk, Pl.SR.andThen_cont, Pl.SR.andThen_exc, Pl.SR.andThen_stuck, Pl.gcE_self, Pl.gcX_self, Pl.optR_some, Pl.optR_none, Pl.EV.val_d, Pl.EV.val_own, Pl.EV.items_own, Pl.EV.items_brw, Pl.EV.items_lst, if_true, if_false, reduceIte, Bool.false_eq_true, Bool.not_true, Bool.not_false, List.set_cons_zero, List.set_cons_succ, Pl.wipeE, List.map_cons, List.map_nil, Pl.setE, Pl.bindT, Pl.bindNames, Nat.zero_lt_succ, Nat.succ_lt_succ_iff, Nat.lt_add_one, Pl.tru_bl, Pl.tru_int, Pl.its_tup, Pl.its_lst, Pl.its_own, Pl.its_brw, Pl.its_str, Pl.enum_tup, Pl.eq_int, Pl.ne_int, Pl.lt_int, Pl.le_int, Pl.gt_int, Pl.ge_int, Pl.add_int, Pl.sub_int, Pl.len_tup, Pl.len_own, Pl.len_brw, Pl.len_lst, Pl.idx_tup, Pl.idx_lst, Pl.idx_own, Pl.idx_brw, Pl.in_dic, Pl.nin_dic, Pl.idx_dic, Pl.is_non, Pl.isn_non, Pl.at_zero, Pl.at_one, sizeLine_eq, Nat.reduceAdd, Nat.reduceLeDiff, ptR, slotL, putL, hix, Option.map_some]
                        exact .inl ⟨_, _, rfl, rfl, on, l.set (i + 1) y', _, _, _, by rw [List.length_set]; exact hl, e, rfl⟩
            · simp only [Pl.runFn, List.length_cons, List.length_nil, Pl.startE_cons, Pl.startE_nil, Pl.repl_succ, List.replicate_zero, Nat.zero_add, Pl.execs, Pl.exec, Pl.evalT, Pl.evalE, Pl.evalVs, Pl.evalP, Pl.evalI, Pl.evalJ, List.getElem?_cons_zero, List.getElem?_cons_succ, Pl.Res.bind_ok, Pl.Res.bind_exc, Pl.Res.bind_stuck, Pl.Res.to_ok, Pl.Res.to_exc, Pl.Res.to_stuck, Pl.Res.calm_ok, Pl.SR.andThen_next, Pl.SR.andThen_ret, Pl.SR.andThen_brk, Pl.SR.andThen_cont, Pl.SR.andThen_exc, Pl.SR.andThen_stuck, Pl.gcE_self, Pl.gcX_self, Pl.optR_some, Pl.optR_none, Pl.EV.val_d, Pl.EV.val_own, Pl.EV.items_own, Pl.EV.items_brw, Pl.EV.items_lst, if_true, if_false, reduceIte, Bool.false_eq_true, Bool.not_true, Bool.not_false, List.set_cons_zero, List.set_cons_succ, Pl.wipeE, List.map_cons, List.map_nil, Pl.setE, Pl.bindT, Pl.bindNames, Nat.zero_lt_succ, Nat.succ_lt_succ_iff, Nat.lt_add_one, Pl.tru_bl, Pl.tru_int, Pl.its_tup, Pl.its_lst, Pl.its_own, Pl.its_brw, Pl.its_str, Pl.enum_tup, Pl.eq_int, Pl.ne_int, Pl.lt_int, Pl.le_int, Pl.gt_int, Pl.ge_int, Pl.add_int, Pl.sub_int, Pl.len_tup, Pl.len_own, Pl.len_brw, Pl.len_lst, Pl.idx_tup, Pl.idx_lst, Pl.idx_own, Pl.idx_brw, Pl.in_dic, Pl.nin_dic, Pl.idx_dic, Pl.is_non, Pl.isn_non, Pl.at_zero, Pl.at_one, sizeLine_eq, Nat.reduceAdd, Nat.reduceLeDiff, c5, decide_false]
              refine .inl ⟨_, _, rfl, rfl, on, l, _, _, _, hl, skip (fun q => c5 q.1), rfl⟩
        rcases hq with ⟨l, ρ, rfl, h4, e⟩ | ⟨e, ρ, rfl⟩
        · simp only [Pl.runFn, List.length_cons, List.length_nil, Pl.startE_cons, Pl.startE_nil, Pl.repl_succ, List.replicate_zero, Nat.zero_add, Pl.execs, Pl.exec, Pl.evalT, Pl.evalE, Pl.evalVs, Pl.evalP, Pl.evalI, Pl.evalJ, List.getElem?_cons_zero, List.getElem?_cons_succ, Pl.Res.bind_ok, Pl.Res.bind_exc, Pl.Res.bind_stuck, Pl.Res.to_ok, Pl.Res.to_exc, Pl.Res.to_stuck, Pl.Res.calm_ok, Pl.SR.andThen_next, Pl.SR.andThen_ret, Pl.SR.andThen_brk, Pl.SR.andThen_cont, Pl.SR.andThen_exc, Pl.SR.andThen_stuck, Pl.gcE_self, Pl.gcX_self, Pl.optR_some, Pl.optR_none, Pl.EV.val_d, Pl.EV.val_own, Pl.EV.items_own, Pl.EV.items_brw, Pl.EV.items_lst, if_true, if_false, reduceIte, Bool.false_eq_true, Bool.not_true, Bool.not_false, List.set_cons_zero, List.set_cons_succ, Pl.wipeE, List.map_cons, List.map_nil, Pl.setE, Pl.bindT, Pl.bindNames, Nat.zero_lt_succ, Nat.succ_lt_succ_iff, Nat.lt_add_one, Pl.tru_bl, Pl.tru_int, Pl.its_tup, Pl.its_lst, Pl.its_own, Pl.its_brw, Pl.its_str, Pl.enum_tup, Pl.eq_int, Pl.ne_int, Pl.lt_int, Pl.le_int, Pl.gt_int, Pl.ge_int, Pl.add_int, Pl.sub_int, Pl.len_tup, Pl.len_own, Pl.len_brw, Pl.len_lst, Pl.idx_tup, Pl.idx_lst, Pl.idx_own, Pl.idx_brw, Pl.in_dic, Pl.nin_dic, Pl.idx_dic, Pl.is_non, Pl.isn_non, Pl.at_zero, Pl.at_one, sizeLine_eq, Nat.reduceAdd, Nat.reduceLeDiff, h4, tuple_brw]
          rw [show stepP nm t (fun d s => ptn nm t (n + 1) d s) (.str w :: args) (kps sort w) (.str w :: args) = some l from e]
          simp only [Pl.runFn, List.length_cons, List.length_nil, Pl.startE_cons, Pl.startE_nil, Pl.repl_succ, List.replicate_zero, Nat.zero_add, Pl.execs, Pl.exec, Pl.evalT, Pl.evalE, Pl.evalVs, Pl.evalP, Pl.evalI, Pl.evalJ, List.getElem?_cons_zero, List.getElem?_cons_succ, Pl.Res.bind_ok, Pl.Res.bind_exc, Pl.Res.bind_stuck, Pl.Res.to_ok, Pl.Res.to_exc, Pl.Res.to_stuck, Pl.Res.calm_ok, Pl.SR.andThen_next, Pl.SR.andThen_ret, Pl.SR.andThen_brk, Pl.SR.andThen_cont, Pl.SR.andThen_exc, Pl.SR.andThen_stuck, Pl.gcE_self, Pl.gcX_self, Pl.optR_some, Pl.optR_none, Pl.EV.val_d, Pl.EV.val_own, Pl.EV.items_own, Pl.EV.items_brw, Pl.EV.items_lst, if_true, if_false, reduceIte, Bool.false_eq_true, Bool.not_true, Bool.not_false, List.set_cons_zero, List.set_cons_succ, Pl.wipeE, List.map_cons, List.map_nil, Pl.setE, Pl.bindT, Pl.bindNames, Nat.zero_lt_succ, Nat.succ_lt_succ_iff, Nat.lt_add_one, Pl.tru_bl, Pl.tru_int, Pl.its_tup, Pl.its_lst, Pl.its_own, Pl.its_brw, Pl.its_str, Pl.enum_tup, Pl.eq_int, Pl.ne_int, Pl.lt_int, Pl.le_int, Pl.gt_int, Pl.ge_int, Pl.add_int, Pl.sub_int, Pl.len_tup, Pl.len_own, Pl.len_brw, Pl.len_lst, Pl.idx_tup, Pl.idx_lst, Pl.idx_own, Pl.idx_brw, Pl.in_dic, Pl.nin_dic, Pl.idx_dic, Pl.is_non, Pl.isn_non, Pl.at_zero, Pl.at_one, sizeLine_eq, Nat.reduceAdd, Nat.reduceLeDiff, Option.map_some, ptR]
        · simp only [Pl.runFn, List.length_cons, List.length_nil, Pl.startE_cons, Pl.startE_nil, Pl.repl_succ, List.replicate_zero, Nat.zero_add, Pl.execs, Pl.exec, Pl.evalT, Pl.evalE, Pl.evalVs, Pl.evalP, Pl.evalI, Pl.evalJ, List.getElem?_cons_zero, List.getElem?_cons_succ, Pl.Res.bind_ok, Pl.Res.bind_exc, Pl.Res.bind_stuck, Pl.Res.to_ok, Pl.Res.to_exc, Pl.Res.to_stuck, Pl.Res.calm_ok, Pl.SR.andThen_next, Pl.SR.andThen_ret, Pl.SR.andThen_brk, Pl.SR.andThen_cont, Pl.SR.andThen_exc, Pl.SR.andThen_stuck, Pl.gcE_self, Pl.gcX_self, Pl.optR_some, Pl.optR_none, Pl.EV.val_d, Pl.EV.val_own, Pl.EV.items_own, Pl.EV.items_brw, Pl.EV.items_lst, if_true, if_false, reduceIte, Bool.false_eq_true, Bool.not_true, Bool.not_false, List.set_cons_zero, List.set_cons_succ, Pl.wipeE, List.map_cons, List.map_nil, Pl.setE, Pl.bindT, Pl.bindNames, Nat.zero_lt_succ, Nat.succ_lt_succ_iff, Nat.lt_add_one, Pl.tru_bl, Pl.tru_int, Pl.its_tup, Pl.its_lst, Pl.its_own, Pl.its_brw, Pl.its_str, Pl.enum_tup, Pl.eq_int, Pl.ne_int, Pl.lt_int, Pl.le_int, Pl.gt_int, Pl.ge_int, Pl.add_int, Pl.sub_int, Pl.len_tup, Pl.len_own, Pl.len_brw, Pl.len_lst, Pl.idx_tup, Pl.idx_lst, Pl.idx_own, Pl.idx_brw, Pl.in_dic, Pl.nin_dic, Pl.idx_dic, Pl.is_non, Pl.isn_non, Pl.at_zero, Pl.at_one, sizeLine_eq, Nat.reduceAdd, Nat.reduceLeDiff]
          rw [show stepP nm t (fun d s => ptn nm t (n + 1) d s) (.str w :: args) (kps sort w) (.str w :: args) = none from e]
          rfl
end K20
end

section
set_option Elab.async false
set_option linter.all false
set_option maxRecDepth 100000
/-! k20: put, _law_read. -/
namespace K20
open PySem hiding exec execs
open L2 Pl
theorem s_check (k : Nat) (b : Bool) (S : Sto) : R (k + 1) "check_form" [.bl b] S = if b = true then .ok (.d .non) S else .exc "BadForm" S := by
  cases b with
  | true => rw [s_check_t]; rfl
  | false => rw [s_check_f]; rfl
theorem s_wr (n : Nat) {v : D} {sort : Str} (S : Sto) (h : sm v = true) (hd : dep v ≤ n) (hs : sort ∈ sK) : R (n + 6) "is_written" [v, .str sort] S = .ok (.d (.bl (wr v sort))) S := by
  rw [s_is_written n v sort S h hd (.inl hs), wr_eq sort hd]
def srt (v : D) : Str := if wr v "term" = true then "term" else "formula"
def okP (v t : D) : Bool := (wr v "term" || wr v "formula") && wr t "term"
theorem srt_tf (v : D) : srt v ∈ tf := by
  unfold srt
  split <;> decide +kernel
theorem okP_srt {v t : D} (h : okP v t = true) : wr v (srt v) = true ∧ wr t "term" = true := by
  obtain ⟨h1, h2⟩ := Bool.and_eq_true_iff.mp h
  refine ⟨?_, h2⟩
  unfold srt
  cases q : wr v "term" with
  | true => rw [if_pos rfl]; exact q
  | false => rw [if_neg Bool.false_ne_true]; rw [q] at h1; exact h1
theorem s_put (n m : Nat) {v t : D} {nm : Str} (S : Sto) (hv : sm v = true) (hdv : dep v ≤ n) (ht : sm t = true) (hdt : dep t ≤ m) (hn : sm (.str nm) = true) (hi : isNm (.str nm) = true) :
    R (n + m + 8) "put" [v, .str nm, t] S = if okP v t = true then ptR S (ptn nm t (n + 1) v (srt v)) else .exc "BadForm" S := by
  rw [show n + m + 8 = (n + m + 7) + 1 from rfl, R_put]
  unfold n_put
  have a1 := s_wr (n + m + 1) (v := v) (sort := "term") S hv (by omega) (by decide +kernel)
  have a2 := s_wr (n + m + 1) (v := v) (sort := "formula") S hv (by omega) (by decide +kernel)
  have a3 := s_wr (n + m + 1) (v := t) (sort := "term") S ht (by omega) (by decide +kernel)
  have a4 := s_is_name (n + m + 6) S hn
  rw [hi] at a4
  have c : ∀ b, R (n + m + 7) "check_form" [.bl b] S = if b = true then .ok (.d .non) S else .exc "BadForm" S := fun b => s_check (n + m + 6) b S
  rw [show n + m + 1 + 6 = n + m + 7 by omega] at a1 a2 a3
  rw [show n + m + 6 + 1 = n + m + 7 by omega] at a4
  have p := fun (h : okP v t = true) => s_put_in m (nm := nm) (t := t) (sm_str hn).1 ht hdt (okP_srt h).2 n v (srt v) S hv hdv (srt_tf v) (okP_srt h).1
  unfold okP srt at p
  unfold okP srt
  simp only [Pl.runFn, List.length_cons, List.length_nil, Pl.startE_cons, Pl.startE_nil, Pl.repl_succ, List.replicate_zero, Nat.zero_add, Pl.execs, Pl.exec, Pl.evalT, Pl.evalE, Pl.evalVs, Pl.evalP, Pl.evalI, Pl.evalJ, List.getElem?_cons_zero, List.getElem?_cons_succ, Pl.Res.bind_ok, Pl.Res.bind_exc, Pl.Res.bind_stuck, Pl.Res.to_ok, Pl.Res.to_exc, Pl.Res.to_stuck, Pl.Res.calm_ok, Pl.SR.andThen_next, Pl.SR.andThen_ret, Pl.SR.andThen_brk, Pl.SR.andThen_cont, Pl.SR.andThen_exc, Pl.SR.andThen_stuck, Pl.gcE_self, Pl.gcX_self, Pl.optR_some, Pl.optR_none, Pl.EV.val_d, Pl.EV.val_own, Pl.EV.items_own, Pl.EV.items_brw, Pl.EV.items_lst, if_true, if_false, reduceIte, Bool.false_eq_true, Bool.not_true, Bool.not_false, List.set_cons_zero, List.set_cons_succ, Pl.wipeE, List.map_cons, List.map_nil, Pl.setE, Pl.bindT, Pl.bindNames, Nat.zero_lt_succ, Nat.succ_lt_succ_iff, Nat.lt_add_one, Pl.tru_bl, Pl.tru_int, Pl.its_tup, Pl.its_lst, Pl.its_own, Pl.its_brw, Pl.its_str, Pl.enum_tup, Pl.eq_int, Pl.ne_int, Pl.lt_int, Pl.le_int, Pl.gt_int, Pl.ge_int, Pl.add_int, Pl.sub_int, Pl.len_tup, Pl.len_own, Pl.len_brw, Pl.len_lst, Pl.idx_tup, Pl.idx_lst, Pl.idx_own, Pl.idx_brw, Pl.in_dic, Pl.nin_dic, Pl.idx_dic, Pl.is_non, Pl.isn_non, Pl.at_zero, Pl.at_one, sizeLine_eq, Nat.reduceAdd, Nat.reduceLeDiff, a1]
  cases q1 : wr v "term" with
  | true =>
    rw [q1] at p a1
    simp only [Pl.runFn, List.length_cons, List.length_nil, Pl.startE_cons, Pl.startE_nil, Pl.repl_succ, List.replicate_zero, Nat.zero_add, Pl.execs, Pl.exec, Pl.evalT, Pl.evalE, Pl.evalVs, Pl.evalP, Pl.evalI, Pl.evalJ, List.getElem?_cons_zero, List.getElem?_cons_succ, Pl.Res.bind_ok, Pl.Res.bind_exc, Pl.Res.bind_stuck, Pl.Res.to_ok, Pl.Res.to_exc, Pl.Res.to_stuck, Pl.Res.calm_ok, Pl.SR.andThen_next, Pl.SR.andThen_ret, Pl.SR.andThen_brk, Pl.SR.andThen_cont, Pl.SR.andThen_exc, Pl.SR.andThen_stuck, Pl.gcE_self, Pl.gcX_self, Pl.optR_some, Pl.optR_none, Pl.EV.val_d, Pl.EV.val_own, Pl.EV.items_own, Pl.EV.items_brw, Pl.EV.items_lst, if_true, if_false, reduceIte, Bool.false_eq_true, Bool.not_true, Bool.not_false, List.set_cons_zero, List.set_cons_succ, Pl.wipeE, List.map_cons, List.map_nil, Pl.setE, Pl.bindT, Pl.bindNames, Nat.zero_lt_succ, Nat.succ_lt_succ_iff, Nat.lt_add_one, Pl.tru_bl, Pl.tru_int, Pl.its_tup, Pl.its_lst, Pl.its_own, Pl.its_brw, Pl.its_str, Pl.enum_tup, Pl.eq_int, Pl.ne_int, Pl.lt_int, Pl.le_int, Pl.gt_int, Pl.ge_int, Pl.add_int, Pl.sub_int, Pl.len_tup, Pl.len_own, Pl.len_brw, Pl.len_lst, Pl.idx_tup, Pl.idx_lst, Pl.idx_own, Pl.idx_brw, Pl.in_dic, Pl.nin_dic, Pl.idx_dic, Pl.is_non, Pl.isn_non, Pl.at_zero, Pl.at_one, sizeLine_eq, Nat.reduceAdd, Nat.reduceLeDiff, a1, c, a4, a3]
    cases q2 : wr t "term" with
    | false =>
      simp only [Pl.runFn, List.length_cons, List.length_nil, Pl.startE_cons, Pl.startE_nil, Pl.repl_succ, List.replicate_zero, Nat.zero_add, Pl.execs, Pl.exec, Pl.evalT, Pl.evalE, Pl.evalVs, Pl.evalP, Pl.evalI, Pl.evalJ, List.getElem?_cons_zero, List.getElem?_cons_succ, Pl.Res.bind_ok, Pl.Res.bind_exc, Pl.Res.bind_stuck, Pl.Res.to_ok, Pl.Res.to_exc, Pl.Res.to_stuck, Pl.Res.calm_ok, Pl.SR.andThen_next, Pl.SR.andThen_ret, Pl.SR.andThen_brk, Pl.SR.andThen_cont, Pl.SR.andThen_exc, Pl.SR.andThen_stuck, Pl.gcE_self, Pl.gcX_self, Pl.optR_some, Pl.optR_none, Pl.EV.val_d, Pl.EV.val_own, Pl.EV.items_own, Pl.EV.items_brw, Pl.EV.items_lst, if_true, if_false, reduceIte, Bool.false_eq_true, Bool.not_true, Bool.not_false, List.set_cons_zero, List.set_cons_succ, Pl.wipeE, List.map_cons, List.map_nil, Pl.setE, Pl.bindT, Pl.bindNames, Nat.zero_lt_succ, Nat.succ_lt_succ_iff, Nat.lt_add_one, Pl.tru_bl, Pl.tru_int, Pl.its_tup, Pl.its_lst, Pl.its_own, Pl.its_brw, Pl.its_str, Pl.enum_tup, Pl.eq_int, Pl.ne_int, Pl.lt_int, Pl.le_int, Pl.gt_int, Pl.ge_int, Pl.add_int, Pl.sub_int, Pl.len_tup, Pl.len_own, Pl.len_brw, Pl.len_lst, Pl.idx_tup, Pl.idx_lst, Pl.idx_own, Pl.idx_brw, Pl.in_dic, Pl.nin_dic, Pl.idx_dic, Pl.is_non, Pl.isn_non, Pl.at_zero, Pl.at_one, sizeLine_eq, Nat.reduceAdd, Nat.reduceLeDiff, Bool.and_false, Bool.or_true, Bool.true_or]
    | true =>
      rw [q2] at p
      have p := p rfl
      rw [if_pos rfl] at p
      simp only [Pl.runFn, List.length_cons, List.length_nil, Pl.startE_cons, Pl.startE_nil, Pl.repl_succ, List.replicate_zero, Nat.zero_add, Pl.execs, Pl.exec, Pl.evalT, Pl.evalE, Pl.evalVs, Pl.evalP, Pl.evalI, Pl.evalJ, List.getElem?_cons_zero, List.getElem?_cons_succ, Pl.Res.bind_ok, Pl.Res.bind_exc, Pl.Res.bind_stuck, Pl.Res.to_ok, Pl.Res.to_exc, Pl.Res.to_stuck, Pl.Res.calm_ok, Pl.SR.andThen_next, Pl.SR.andThen_ret, Pl.SR.andThen_brk, Pl.SR.andThen_cont, Pl.SR.andThen_exc, Pl.SR.andThen_stuck, Pl.gcE_self, Pl.gcX_self, Pl.optR_some, Pl.optR_none, Pl.EV.val_d, Pl.EV.val_own, Pl.EV.items_own, Pl.EV.items_brw, Pl.EV.items_lst, if_true, if_false, reduceIte, Bool.false_eq_true, Bool.not_true, Bool.not_false, List.set_cons_zero, List.set_cons_succ, Pl.wipeE, List.map_cons, List.map_nil, Pl.setE, Pl.bindT, Pl.bindNames, Nat.zero_lt_succ, Nat.succ_lt_succ_iff, Nat.lt_add_one, Pl.tru_bl, Pl.tru_int, Pl.its_tup, Pl.its_lst, Pl.its_own, Pl.its_brw, Pl.its_str, Pl.enum_tup, Pl.eq_int, Pl.ne_int, Pl.lt_int, Pl.le_int, Pl.gt_int, Pl.ge_int, Pl.add_int, Pl.sub_int, Pl.len_tup, Pl.len_own, Pl.len_brw, Pl.len_lst, Pl.idx_tup, Pl.idx_lst, Pl.idx_own, Pl.idx_brw, Pl.in_dic, Pl.nin_dic, Pl.idx_dic, Pl.is_non, Pl.isn_non, Pl.at_zero, Pl.at_one, sizeLine_eq, Nat.reduceAdd, Nat.reduceLeDiff, Bool.true_or, Bool.and_self, p]
      cases ptn nm t (n + 1) v "term" <;> simp only [Pl.runFn, List.length_cons, List.length_nil, Pl.startE_cons, Pl.startE_nil, Pl.repl_succ, List.replicate_zero, Nat.zero_add, Pl.execs, Pl.exec, Pl.evalT, Pl.evalE, Pl.evalVs, Pl.evalP, Pl.evalI, Pl.evalJ, List.getElem?_cons_zero, List.getElem?_cons_succ, Pl.Res.bind_ok, Pl.Res.bind_exc, Pl.Res.bind_stuck, Pl.Res.to_ok, Pl.Res.to_exc, Pl.Res.to_stuck, Pl.Res.calm_ok, Pl.SR.andThen_next, Pl.SR.andThen_ret, Pl.SR.andThen_brk, Pl.SR.andThen_cont, Pl.SR.andThen_exc, Pl.SR.andThen_stuck, Pl.gcE_self, Pl.gcX_self, Pl.optR_some, Pl.optR_none, Pl.EV.val_d, Pl.EV.val_own, Pl.EV.items_own, Pl.EV.items_brw, Pl.EV.items_lst, if_true, if_false, reduceIte, Bool.false_eq_true, Bool.not_true, Bool.not_false, List.set_cons_zero, List.set_cons_succ, Pl.wipeE, List.map_cons, List.map_nil, Pl.setE, Pl.bindT, Pl.bindNames, Nat.zero_lt_succ, Nat.succ_lt_succ_iff, Nat.lt_add_one, Pl.tru_bl, Pl.tru_int, Pl.its_tup, Pl.its_lst, Pl.its_own, Pl.its_brw, Pl.its_str, Pl.enum_tup, Pl.eq_int, Pl.ne_int, Pl.lt_int, Pl.le_int, Pl.gt_int, Pl.ge_int, Pl.add_int, Pl.sub_int, Pl.len_tup, Pl.len_own, Pl.len_brw, Pl.len_lst, Pl.idx_tup, Pl.idx_lst, Pl.idx_own, Pl.idx_brw, Pl.in_dic, Pl.nin_dic, Pl.idx_dic, Pl.is_non, Pl.isn_non, Pl.at_zero, Pl.at_one, sizeLine_eq, Nat.reduceAdd, Nat.reduceLeDiff, ptR]
  | false =>
    rw [q1] at p
    simp only [Pl.runFn, List.length_cons, List.length_nil, Pl.startE_cons, Pl.startE_nil, Pl.repl_succ, List.replicate_zero, Nat.zero_add, Pl.execs, Pl.exec, Pl.evalT, Pl.evalE, Pl.evalVs, Pl.evalP, Pl.evalI, Pl.evalJ, List.getElem?_cons_zero, List.getElem?_cons_succ, Pl.Res.bind_ok, Pl.Res.bind_exc, Pl.Res.bind_stuck, Pl.Res.to_ok, Pl.Res.to_exc, Pl.Res.to_stuck, Pl.Res.calm_ok, Pl.SR.andThen_next, Pl.SR.andThen_ret, Pl.SR.andThen_brk, Pl.SR.andThen_cont, Pl.SR.andThen_exc, Pl.SR.andThen_stuck, Pl.gcE_self, Pl.gcX_self, Pl.optR_some, Pl.optR_none, Pl.EV.val_d, Pl.EV.val_own, Pl.EV.items_own, Pl.EV.items_brw, Pl.EV.items_lst, if_true, if_false, reduceIte, Bool.false_eq_true, Bool.not_true, Bool.not_false, List.set_cons_zero, List.set_cons_succ, Pl.wipeE, List.map_cons, List.map_nil, Pl.setE, Pl.bindT, Pl.bindNames, Nat.zero_lt_succ, Nat.succ_lt_succ_iff, Nat.lt_add_one, Pl.tru_bl, Pl.tru_int, Pl.its_tup, Pl.its_lst, Pl.its_own, Pl.its_brw, Pl.its_str, Pl.enum_tup, Pl.eq_int, Pl.ne_int, Pl.lt_int, Pl.le_int, Pl.gt_int, Pl.ge_int, Pl.add_int, Pl.sub_int, Pl.len_tup, Pl.len_own, Pl.len_brw, Pl.len_lst, Pl.idx_tup, Pl.idx_lst, Pl.idx_own, Pl.idx_brw, Pl.in_dic, Pl.nin_dic, Pl.idx_dic, Pl.is_non, Pl.isn_non, Pl.at_zero, Pl.at_one, sizeLine_eq, Nat.reduceAdd, Nat.reduceLeDiff, a2, c, Bool.false_or]
    cases q3 : wr v "formula" with
    | false => simp only [Pl.runFn, List.length_cons, List.length_nil, Pl.startE_cons, Pl.startE_nil, Pl.repl_succ, List.replicate_zero, Nat.zero_add, Pl.execs, Pl.exec, Pl.evalT, Pl.evalE, Pl.evalVs, Pl.evalP, Pl.evalI, Pl.evalJ, List.getElem?_cons_zero, List.getElem?_cons_succ, Pl.Res.bind_ok, Pl.Res.bind_exc, Pl.Res.bind_stuck, Pl.Res.to_ok, Pl.Res.to_exc, Pl.Res.to_stuck, Pl.Res.calm_ok, Pl.SR.andThen_next, Pl.SR.andThen_ret, Pl.SR.andThen_brk, Pl.SR.andThen_cont, Pl.SR.andThen_exc, Pl.SR.andThen_stuck, Pl.gcE_self, Pl.gcX_self, Pl.optR_some, Pl.optR_none, Pl.EV.val_d, Pl.EV.val_own, Pl.EV.items_own, Pl.EV.items_brw, Pl.EV.items_lst, if_true, if_false, reduceIte, Bool.false_eq_true, Bool.not_true, Bool.not_false, List.set_cons_zero, List.set_cons_succ, Pl.wipeE, List.map_cons, List.map_nil, Pl.setE, Pl.bindT, Pl.bindNames, Nat.zero_lt_succ, Nat.succ_lt_succ_iff, Nat.lt_add_one, Pl.tru_bl, Pl.tru_int, Pl.its_tup, Pl.its_lst, Pl.its_own, Pl.its_brw, Pl.its_str, Pl.enum_tup, Pl.eq_int, Pl.ne_int, Pl.lt_int, Pl.le_int, Pl.gt_int, Pl.ge_int, Pl.add_int, Pl.sub_int, Pl.len_tup, Pl.len_own, Pl.len_brw, Pl.len_lst, Pl.idx_tup, Pl.idx_lst, Pl.idx_own, Pl.idx_brw, Pl.in_dic, Pl.nin_dic, Pl.idx_dic, Pl.is_non, Pl.isn_non, Pl.at_zero, Pl.at_one, sizeLine_eq, Nat.reduceAdd, Nat.reduceLeDiff, Bool.false_and]
    | true =>
      rw [q3] at p
      simp only [Pl.runFn, List.length_cons, List.length_nil, Pl.startE_cons, Pl.startE_nil, Pl.repl_succ, List.replicate_zero, Nat.zero_add, Pl.execs, Pl.exec, Pl.evalT, Pl.evalE, Pl.evalVs, Pl.evalP, Pl.evalI, Pl.evalJ, List.getElem?_cons_zero, List.getElem?_cons_succ, Pl.Res.bind_ok, Pl.Res.bind_exc, Pl.Res.bind_stuck, Pl.Res.to_ok, Pl.Res.to_exc, Pl.Res.to_stuck, Pl.Res.calm_ok, Pl.SR.andThen_next, Pl.SR.andThen_ret, Pl.SR.andThen_brk, Pl.SR.andThen_cont, Pl.SR.andThen_exc, Pl.SR.andThen_stuck, Pl.gcE_self, Pl.gcX_self, Pl.optR_some, Pl.optR_none, Pl.EV.val_d, Pl.EV.val_own, Pl.EV.items_own, Pl.EV.items_brw, Pl.EV.items_lst, if_true, if_false, reduceIte, Bool.false_eq_true, Bool.not_true, Bool.not_false, List.set_cons_zero, List.set_cons_succ, Pl.wipeE, List.map_cons, List.map_nil, Pl.setE, Pl.bindT, Pl.bindNames, Nat.zero_lt_succ, Nat.succ_lt_succ_iff, Nat.lt_add_one, Pl.tru_bl, Pl.tru_int, Pl.its_tup, Pl.its_lst, Pl.its_own, Pl.its_brw, Pl.its_str, Pl.enum_tup, Pl.eq_int, Pl.ne_int, Pl.lt_int, Pl.le_int, Pl.gt_int, Pl.ge_int, Pl.add_int, Pl.sub_int, Pl.len_tup, Pl.len_own, Pl.len_brw, Pl.len_lst, Pl.idx_tup, Pl.idx_lst, Pl.idx_own, Pl.idx_brw, Pl.in_dic, Pl.nin_dic, Pl.idx_dic, Pl.is_non, Pl.isn_non, Pl.at_zero, Pl.at_one, sizeLine_eq, Nat.reduceAdd, Nat.reduceLeDiff, a4, a3, c]
      cases q2 : wr t "term" with
      | false => simp only [Pl.runFn, List.length_cons, List.length_nil, Pl.startE_cons, Pl.startE_nil, Pl.repl_succ, List.replicate_zero, Nat.zero_add, Pl.execs, Pl.exec, Pl.evalT, Pl.evalE, Pl.evalVs, Pl.evalP, Pl.evalI, Pl.evalJ, List.getElem?_cons_zero, List.getElem?_cons_succ, Pl.Res.bind_ok, Pl.Res.bind_exc, Pl.Res.bind_stuck, Pl.Res.to_ok, Pl.Res.to_exc, Pl.Res.to_stuck, Pl.Res.calm_ok, Pl.SR.andThen_next, Pl.SR.andThen_ret, Pl.SR.andThen_brk, Pl.SR.andThen_cont, Pl.SR.andThen_exc, Pl.SR.andThen_stuck, Pl.gcE_self, Pl.gcX_self, Pl.optR_some, Pl.optR_none, Pl.EV.val_d, Pl.EV.val_own, Pl.EV.items_own, Pl.EV.items_brw, Pl.EV.items_lst, if_true, if_false, reduceIte, Bool.false_eq_true, Bool.not_true, Bool.not_false, List.set_cons_zero, List.set_cons_succ, Pl.wipeE, List.map_cons, List.map_nil, Pl.setE, Pl.bindT, Pl.bindNames, Nat.zero_lt_succ, Nat.succ_lt_succ_iff, Nat.lt_add_one, Pl.tru_bl, Pl.tru_int, Pl.its_tup, Pl.its_lst, Pl.its_own, Pl.its_brw, Pl.its_str, Pl.enum_tup, Pl.eq_int, Pl.ne_int, Pl.lt_int, Pl.le_int, Pl.gt_int, Pl.ge_int, Pl.add_int, Pl.sub_int, Pl.len_tup, Pl.len_own, Pl.len_brw, Pl.len_lst, Pl.idx_tup, Pl.idx_lst, Pl.idx_own, Pl.idx_brw, Pl.in_dic, Pl.nin_dic, Pl.idx_dic, Pl.is_non, Pl.isn_non, Pl.at_zero, Pl.at_one, sizeLine_eq, Nat.reduceAdd, Nat.reduceLeDiff, Bool.and_false]
      | true =>
        rw [q2] at p
        have p := p rfl
        rw [if_neg Bool.false_ne_true] at p
        simp only [Pl.runFn, List.length_cons, List.length_nil, Pl.startE_cons, Pl.startE_nil, Pl.repl_succ, List.replicate_zero, Nat.zero_add, Pl.execs, Pl.exec, Pl.evalT, Pl.evalE, Pl.evalVs, Pl.evalP, Pl.evalI, Pl.evalJ, List.getElem?_cons_zero, List.getElem?_cons_succ, Pl.Res.bind_ok, Pl.Res.bind_exc, Pl.Res.bind_stuck, Pl.Res.to_ok, Pl.Res.to_exc, Pl.Res.to_stuck, Pl.Res.calm_ok, Pl.SR.andThen_next, Pl.SR.andThen_ret, Pl.SR.andThen_brk, Pl.SR.andThen_cont, Pl.SR.andThen_exc, Pl.SR.andThen_stuck, Pl.gcE_self, Pl.gcX_self, Pl.optR_some, Pl.optR_none, Pl.EV.val_d, Pl.EV.val_own, Pl.EV.items_own, Pl.EV.items_brw, Pl.EV.items_lst, if_true, if_false, reduceIte, Bool.false_eq_true, Bool.not_true, Bool.not_false, List.set_cons_zero, List.set_cons_succ, Pl.wipeE, List.map_cons, List.map_nil, Pl.setE, Pl.bindT, Pl.bindNames, Nat.zero_lt_succ, Nat.succ_lt_succ_iff, Nat.lt_add_one, Pl.tru_bl, Pl.tru_int, Pl.its_tup, Pl.its_lst, Pl.its_own, Pl.its_brw, Pl.its_str, Pl.enum_tup, Pl.eq_int, Pl.ne_int, Pl.lt_int, Pl.le_int, Pl.gt_int, Pl.ge_int, Pl.add_int, Pl.sub_int, Pl.len_tup, Pl.len_own, Pl.len_brw, Pl.len_lst, Pl.idx_tup, Pl.idx_lst, Pl.idx_own, Pl.idx_brw, Pl.in_dic, Pl.nin_dic, Pl.idx_dic, Pl.is_non, Pl.isn_non, Pl.at_zero, Pl.at_one, sizeLine_eq, Nat.reduceAdd, Nat.reduceLeDiff, Bool.and_self, p]
        cases ptn nm t (n + 1) v "formula" <;> simp only [Pl.runFn, List.length_cons, List.length_nil, Pl.startE_cons, Pl.startE_nil, Pl.repl_succ, List.replicate_zero, Nat.zero_add, Pl.execs, Pl.exec, Pl.evalT, Pl.evalE, Pl.evalVs, Pl.evalP, Pl.evalI, Pl.evalJ, List.getElem?_cons_zero, List.getElem?_cons_succ, Pl.Res.bind_ok, Pl.Res.bind_exc, Pl.Res.bind_stuck, Pl.Res.to_ok, Pl.Res.to_exc, Pl.Res.to_stuck, Pl.Res.calm_ok, Pl.SR.andThen_next, Pl.SR.andThen_ret, Pl.SR.andThen_brk, Pl.SR.andThen_cont, Pl.SR.andThen_exc, Pl.SR.andThen_stuck, Pl.gcE_self, Pl.gcX_self, Pl.optR_some, Pl.optR_none, Pl.EV.val_d, Pl.EV.val_own, Pl.EV.items_own, Pl.EV.items_brw, Pl.EV.items_lst, if_true, if_false, reduceIte, Bool.false_eq_true, Bool.not_true, Bool.not_false, List.set_cons_zero, List.set_cons_succ, Pl.wipeE, List.map_cons, List.map_nil, Pl.setE, Pl.bindT, Pl.bindNames, Nat.zero_lt_succ, Nat.succ_lt_succ_iff, Nat.lt_add_one, Pl.tru_bl, Pl.tru_int, Pl.its_tup, Pl.its_lst, Pl.its_own, Pl.its_brw, Pl.its_str, Pl.enum_tup, Pl.eq_int, Pl.ne_int, Pl.lt_int, Pl.le_int, Pl.gt_int, Pl.ge_int, Pl.add_int, Pl.sub_int, Pl.len_tup, Pl.len_own, Pl.len_brw, Pl.len_lst, Pl.idx_tup, Pl.idx_lst, Pl.idx_own, Pl.idx_brw, Pl.in_dic, Pl.nin_dic, Pl.idx_dic, Pl.is_non, Pl.isn_non, Pl.at_zero, Pl.at_one, sizeLine_eq, Nat.reduceAdd, Nat.reduceLeDiff, ptR]
end K20
end

section
set_option Elab.async false
set_option linter.all false
set_option maxRecDepth 100000
/-! k20: _law_read, _law_cell, _law_stream, _law_draw, _law_name. -/
namespace K20
open PySem hiding exec execs
open L2 Pl
theorem join_singles : ∀ l : List Nat, (PySem.Str.join (Str.ofString "") (l.map fun c => (⟨#[c]⟩ : Str))).cps.toList = l
  | [] => rfl
  | [c] => rfl
  | c :: d :: l => by
    show ((⟨#[c]⟩ : Str) ++ Str.ofString "" ++ PySem.Str.join (Str.ofString "") ((d :: l).map fun c => (⟨#[c]⟩ : Str))).cps.toList = _
    rw [PySem.Str.cps_append, Array.toList_append, join_singles (d :: l), PySem.Str.cps_append, Array.toList_append]
    rfl
theorem join_self (z : Str) : Txt.join (Str.ofString "") (z.cps.toList.map fun c => (⟨#[c]⟩ : Str)) = z := by
  show Builtin.Str.glued _ _ = z
  rw [StrLaws.glued_eq_join]
  have := join_singles z.cps.toList
  exact congrArg PySem.Str.mk (Array.toList_inj.mp this)
theorem strsOf_map {α : Type} (g : α → Str) : ∀ l : List α, strsOf (l.map fun c => D.str (g c)) = some (l.map g)
  | [] => rfl
  | c :: l => by show (strsOf (l.map fun c => D.str (g c))).map _ = _; rw [strsOf_map g l]; rfl
theorem sum_ones (l : List Nat) : ((l.map fun c => (⟨#[c]⟩ : Str)).map (·.length)).sum = l.length := by
  induction l with
  | nil => rfl
  | cons c l ih =>
    rw [List.map_cons, List.map_cons, List.sum_cons, ih, List.length_cons]
    show 1 + l.length = _
    omega
theorem join_own (z : Str) (S : Sto) (h : z.length ≤ 100) : joinV S (.d (.str (Str.ofString ""))) (.own (z.cps.toList.map fun c => D.str ⟨#[c]⟩)) = some (.d (.str z)) := by
  show ((strsOf (z.cps.toList.map fun c => D.str ⟨#[c]⟩)).bind fun ys => _) = _
  rw [strsOf_map (fun c => (⟨#[c]⟩ : Str)), Option.bind_some, sum_ones, join_self, if_pos]
  have e : (Str.ofString "").length = 0 := by decide +kernel
  have e2 : z.cps.toList.length = z.length := Array.length_toList
  rw [e, e2]
  omega
theorem comp_id {elt : Pl.Env → Sto → Res EV} {tst : Pl.Env → Sto → Res Bool} {tg : LT} {ρ : Pl.Env} {src : Sto → Bool} {S : Sto} (hs : src S = true) (xs : List D) (hl : xs.length ≤ sizeLine)
    (h : ∀ x ∈ xs, ∃ ρ1 v, bindT tg x ρ = some ρ1 ∧ tst ρ1 S = .ok true S ∧ elt ρ1 S = .ok v S ∧ v.val = some x) : compLoop elt tst tg ρ src xs S [] = .ok (.own xs) S := by
  have := comp_map hs id xs [] (by simpa using hl) h
  simpa using this
theorem s_law_read : ∀ (k : Nat) (v : D) (S : Sto), sm v = true → dep v ≤ k → ∃ e, R (k + 1) "_law_read" [v] S = .ok e S ∧ e.val = some v := by
  intro k
  induction k with
  | zero =>
    intro v S h hd
    rw [R_law_read]
    unfold n_law_read
    cases v with
    | tup xs => simp [dep] at hd
    | lst xs => simp [dep] at hd
    | dic _ _ => cases h
    | ref _ => cases h
    | glo _ => cases h
    | non => exact ⟨.d .non, by simp only [Pl.runFn, List.length_cons, List.length_nil, Pl.startE_cons, Pl.startE_nil, Pl.repl_succ, List.replicate_zero, Nat.zero_add, Pl.execs, Pl.exec, Pl.evalT, Pl.evalE, Pl.evalVs, Pl.evalP, Pl.evalI, Pl.evalJ, List.getElem?_cons_zero, List.getElem?_cons_succ, Pl.Res.bind_ok, Pl.Res.bind_exc, Pl.Res.bind_stuck, Pl.Res.to_ok, Pl.Res.to_exc, Pl.Res.to_stuck, Pl.Res.calm_ok, Pl.SR.andThen_next, Pl.SR.andThen_ret, Pl.SR.andThen_brk, Pl.SR.andThen_cont, Pl.SR.andThen_exc, Pl.SR.andThen_stuck, Pl.gcE_self, Pl.gcX_self, Pl.optR_some, Pl.optR_none, Pl.EV.val_d, Pl.EV.val_own, Pl.EV.items_own, Pl.EV.items_brw, Pl.EV.items_lst, if_true, if_false, reduceIte, Bool.false_eq_true, Bool.not_true, Bool.not_false, List.set_cons_zero, List.set_cons_succ, Pl.wipeE, List.map_cons, List.map_nil, Pl.setE, Pl.bindT, Pl.bindNames, Nat.zero_lt_succ, Nat.succ_lt_succ_iff, Nat.lt_add_one, Pl.tru_bl, Pl.tru_int, Pl.its_tup, Pl.its_lst, Pl.its_own, Pl.its_brw, Pl.its_str, Pl.enum_tup, Pl.eq_int, Pl.ne_int, Pl.lt_int, Pl.le_int, Pl.gt_int, Pl.ge_int, Pl.add_int, Pl.sub_int, Pl.len_tup, Pl.len_own, Pl.len_brw, Pl.len_lst, Pl.idx_tup, Pl.idx_lst, Pl.idx_own, Pl.idx_brw, Pl.in_dic, Pl.nin_dic, Pl.idx_dic, Pl.is_non, Pl.isn_non, Pl.at_zero, Pl.at_one, sizeLine_eq, Nat.reduceAdd, Nat.reduceLeDiff, decide_true], rfl⟩
    | bl b => refine ⟨.d (.bl b), ?_, rfl⟩; cases b <;> simp only [Pl.runFn, List.length_cons, List.length_nil, Pl.startE_cons, Pl.startE_nil, Pl.repl_succ, List.replicate_zero, Nat.zero_add, Pl.execs, Pl.exec, Pl.evalT, Pl.evalE, Pl.evalVs, Pl.evalP, Pl.evalI, Pl.evalJ, List.getElem?_cons_zero, List.getElem?_cons_succ, Pl.Res.bind_ok, Pl.Res.bind_exc, Pl.Res.bind_stuck, Pl.Res.to_ok, Pl.Res.to_exc, Pl.Res.to_stuck, Pl.Res.calm_ok, Pl.SR.andThen_next, Pl.SR.andThen_ret, Pl.SR.andThen_brk, Pl.SR.andThen_cont, Pl.SR.andThen_exc, Pl.SR.andThen_stuck, Pl.gcE_self, Pl.gcX_self, Pl.optR_some, Pl.optR_none, Pl.EV.val_d, Pl.EV.val_own, Pl.EV.items_own, Pl.EV.items_brw, Pl.EV.items_lst, if_true, if_false, reduceIte, Bool.false_eq_true, Bool.not_true, Bool.not_false, List.set_cons_zero, List.set_cons_succ, Pl.wipeE, List.map_cons, List.map_nil, Pl.setE, Pl.bindT, Pl.bindNames, Nat.zero_lt_succ, Nat.succ_lt_succ_iff, Nat.lt_add_one, Pl.tru_bl, Pl.tru_int, Pl.its_tup, Pl.its_lst, Pl.its_own, Pl.its_brw, Pl.its_str, Pl.enum_tup, Pl.eq_int, Pl.ne_int, Pl.lt_int, Pl.le_int, Pl.gt_int, Pl.ge_int, Pl.add_int, Pl.sub_int, Pl.len_tup, Pl.len_own, Pl.len_brw, Pl.len_lst, Pl.idx_tup, Pl.idx_lst, Pl.idx_own, Pl.idx_brw, Pl.in_dic, Pl.nin_dic, Pl.idx_dic, Pl.is_non, Pl.isn_non, Pl.at_zero, Pl.at_one, sizeLine_eq, Nat.reduceAdd, Nat.reduceLeDiff, is_bl, reduceCtorEq, decide_false, EV.d.injEq, beq_self_eq_true, beq_iff_eq]
    | int i =>
      refine ⟨.d (.int i), ?_, rfl⟩
      simp only [Pl.runFn, List.length_cons, List.length_nil, Pl.startE_cons, Pl.startE_nil, Pl.repl_succ, List.replicate_zero, Nat.zero_add, Pl.execs, Pl.exec, Pl.evalT, Pl.evalE, Pl.evalVs, Pl.evalP, Pl.evalI, Pl.evalJ, List.getElem?_cons_zero, List.getElem?_cons_succ, Pl.Res.bind_ok, Pl.Res.bind_exc, Pl.Res.bind_stuck, Pl.Res.to_ok, Pl.Res.to_exc, Pl.Res.to_stuck, Pl.Res.calm_ok, Pl.SR.andThen_next, Pl.SR.andThen_ret, Pl.SR.andThen_brk, Pl.SR.andThen_cont, Pl.SR.andThen_exc, Pl.SR.andThen_stuck, Pl.gcE_self, Pl.gcX_self, Pl.optR_some, Pl.optR_none, Pl.EV.val_d, Pl.EV.val_own, Pl.EV.items_own, Pl.EV.items_brw, Pl.EV.items_lst, if_true, if_false, reduceIte, Bool.false_eq_true, Bool.not_true, Bool.not_false, List.set_cons_zero, List.set_cons_succ, Pl.wipeE, List.map_cons, List.map_nil, Pl.setE, Pl.bindT, Pl.bindNames, Nat.zero_lt_succ, Nat.succ_lt_succ_iff, Nat.lt_add_one, Pl.tru_bl, Pl.tru_int, Pl.its_tup, Pl.its_lst, Pl.its_own, Pl.its_brw, Pl.its_str, Pl.enum_tup, Pl.eq_int, Pl.ne_int, Pl.lt_int, Pl.le_int, Pl.gt_int, Pl.ge_int, Pl.add_int, Pl.sub_int, Pl.len_tup, Pl.len_own, Pl.len_brw, Pl.len_lst, Pl.idx_tup, Pl.idx_lst, Pl.idx_own, Pl.idx_brw, Pl.in_dic, Pl.nin_dic, Pl.idx_dic, Pl.is_non, Pl.isn_non, Pl.at_zero, Pl.at_one, sizeLine_eq, Nat.reduceAdd, Nat.reduceLeDiff, is_bl_no (v := .d (.int i)) true (fun c e => by cases e), is_bl_no (v := .d (.int i)) false (fun c e => by cases e), EV.d.injEq, reduceCtorEq, decide_false, isi_int (sm_ty h), isInt, int_int]
    | str z =>
      refine ⟨.d (.str z), ?_, rfl⟩
      simp only [Pl.runFn, List.length_cons, List.length_nil, Pl.startE_cons, Pl.startE_nil, Pl.repl_succ, List.replicate_zero, Nat.zero_add, Pl.execs, Pl.exec, Pl.evalT, Pl.evalE, Pl.evalVs, Pl.evalP, Pl.evalI, Pl.evalJ, List.getElem?_cons_zero, List.getElem?_cons_succ, Pl.Res.bind_ok, Pl.Res.bind_exc, Pl.Res.bind_stuck, Pl.Res.to_ok, Pl.Res.to_exc, Pl.Res.to_stuck, Pl.Res.calm_ok, Pl.SR.andThen_next, Pl.SR.andThen_ret, Pl.SR.andThen_brk, Pl.SR.andThen_cont, Pl.SR.andThen_exc, Pl.SR.andThen_stuck, Pl.gcE_self, Pl.gcX_self, Pl.optR_some, Pl.optR_none, Pl.EV.val_d, Pl.EV.val_own, Pl.EV.items_own, Pl.EV.items_brw, Pl.EV.items_lst, if_true, if_false, reduceIte, Bool.false_eq_true, Bool.not_true, Bool.not_false, List.set_cons_zero, List.set_cons_succ, Pl.wipeE, List.map_cons, List.map_nil, Pl.setE, Pl.bindT, Pl.bindNames, Nat.zero_lt_succ, Nat.succ_lt_succ_iff, Nat.lt_add_one, Pl.tru_bl, Pl.tru_int, Pl.its_tup, Pl.its_lst, Pl.its_own, Pl.its_brw, Pl.its_str, Pl.enum_tup, Pl.eq_int, Pl.ne_int, Pl.lt_int, Pl.le_int, Pl.gt_int, Pl.ge_int, Pl.add_int, Pl.sub_int, Pl.len_tup, Pl.len_own, Pl.len_brw, Pl.len_lst, Pl.idx_tup, Pl.idx_lst, Pl.idx_own, Pl.idx_brw, Pl.in_dic, Pl.nin_dic, Pl.idx_dic, Pl.is_non, Pl.isn_non, Pl.at_zero, Pl.at_one, sizeLine_eq, Nat.reduceAdd, Nat.reduceLeDiff, is_bl_no (v := .d (.str z)) true (fun c e => by cases e), is_bl_no (v := .d (.str z)) false (fun c e => by cases e), EV.d.injEq, reduceCtorEq, decide_false, isi_int (sm_ty h), isInt, isi_str (sm_ty h), isStr]
      rw [comp_id rfl _ (by simp; exact line100 (sm_str h).2) fun x hx => ⟨_, .d x, rfl, rfl, rfl, rfl⟩]
      simp only [Pl.runFn, List.length_cons, List.length_nil, Pl.startE_cons, Pl.startE_nil, Pl.repl_succ, List.replicate_zero, Nat.zero_add, Pl.execs, Pl.exec, Pl.evalT, Pl.evalE, Pl.evalVs, Pl.evalP, Pl.evalI, Pl.evalJ, List.getElem?_cons_zero, List.getElem?_cons_succ, Pl.Res.bind_ok, Pl.Res.bind_exc, Pl.Res.bind_stuck, Pl.Res.to_ok, Pl.Res.to_exc, Pl.Res.to_stuck, Pl.Res.calm_ok, Pl.SR.andThen_next, Pl.SR.andThen_ret, Pl.SR.andThen_brk, Pl.SR.andThen_cont, Pl.SR.andThen_exc, Pl.SR.andThen_stuck, Pl.gcE_self, Pl.gcX_self, Pl.optR_some, Pl.optR_none, Pl.EV.val_d, Pl.EV.val_own, Pl.EV.items_own, Pl.EV.items_brw, Pl.EV.items_lst, if_true, if_false, reduceIte, Bool.false_eq_true, Bool.not_true, Bool.not_false, List.set_cons_zero, List.set_cons_succ, Pl.wipeE, List.map_cons, List.map_nil, Pl.setE, Pl.bindT, Pl.bindNames, Nat.zero_lt_succ, Nat.succ_lt_succ_iff, Nat.lt_add_one, Pl.tru_bl, Pl.tru_int, Pl.its_tup, Pl.its_lst, Pl.its_own, Pl.its_brw, Pl.its_str, Pl.enum_tup, Pl.eq_int, Pl.ne_int, Pl.lt_int, Pl.le_int, Pl.gt_int, Pl.ge_int, Pl.add_int, Pl.sub_int, Pl.len_tup, Pl.len_own, Pl.len_brw, Pl.len_lst, Pl.idx_tup, Pl.idx_lst, Pl.idx_own, Pl.idx_brw, Pl.in_dic, Pl.nin_dic, Pl.idx_dic, Pl.is_non, Pl.isn_non, Pl.at_zero, Pl.at_one, sizeLine_eq, Nat.reduceAdd, Nat.reduceLeDiff, join_own z S (sm_str h).2]
  | succ k ih =>
    intro v S h hd
    cases v with
    | tup xs =>
      obtain ⟨h1, h2⟩ := sm_tup h
      refine ⟨.d (.tup xs), ?_, rfl⟩
      rw [R_law_read]
      unfold n_law_read
      simp only [Pl.runFn, List.length_cons, List.length_nil, Pl.startE_cons, Pl.startE_nil, Pl.repl_succ, List.replicate_zero, Nat.zero_add, Pl.execs, Pl.exec, Pl.evalT, Pl.evalE, Pl.evalVs, Pl.evalP, Pl.evalI, Pl.evalJ, List.getElem?_cons_zero, List.getElem?_cons_succ, Pl.Res.bind_ok, Pl.Res.bind_exc, Pl.Res.bind_stuck, Pl.Res.to_ok, Pl.Res.to_exc, Pl.Res.to_stuck, Pl.Res.calm_ok, Pl.SR.andThen_next, Pl.SR.andThen_ret, Pl.SR.andThen_brk, Pl.SR.andThen_cont, Pl.SR.andThen_exc, Pl.SR.andThen_stuck, Pl.gcE_self, Pl.gcX_self, Pl.optR_some, Pl.optR_none, Pl.EV.val_d, Pl.EV.val_own, Pl.EV.items_own, Pl.EV.items_brw, Pl.EV.items_lst, if_true, if_false, reduceIte, Bool.false_eq_true, Bool.not_true, Bool.not_false, List.set_cons_zero, List.set_cons_succ, Pl.wipeE, List.map_cons, List.map_nil, Pl.setE, Pl.bindT, Pl.bindNames, Nat.zero_lt_succ, Nat.succ_lt_succ_iff, Nat.lt_add_one, Pl.tru_bl, Pl.tru_int, Pl.its_tup, Pl.its_lst, Pl.its_own, Pl.its_brw, Pl.its_str, Pl.enum_tup, Pl.eq_int, Pl.ne_int, Pl.lt_int, Pl.le_int, Pl.gt_int, Pl.ge_int, Pl.add_int, Pl.sub_int, Pl.len_tup, Pl.len_own, Pl.len_brw, Pl.len_lst, Pl.idx_tup, Pl.idx_lst, Pl.idx_own, Pl.idx_brw, Pl.in_dic, Pl.nin_dic, Pl.idx_dic, Pl.is_non, Pl.isn_non, Pl.at_zero, Pl.at_one, sizeLine_eq, Nat.reduceAdd, Nat.reduceLeDiff, is_bl_no (v := .d (.tup xs)) true (fun c e => by cases e), is_bl_no (v := .d (.tup xs)) false (fun c e => by cases e), EV.d.injEq, reduceCtorEq, decide_false, isi_int (sm_ty h), isInt, isi_str (sm_ty h), isStr, isi_tuple (sm_ty h), isTup]
      rw [comp_id rfl _ (line100 h1) fun x hx => ?_]
      · simp only [Pl.runFn, List.length_cons, List.length_nil, Pl.startE_cons, Pl.startE_nil, Pl.repl_succ, List.replicate_zero, Nat.zero_add, Pl.execs, Pl.exec, Pl.evalT, Pl.evalE, Pl.evalVs, Pl.evalP, Pl.evalI, Pl.evalJ, List.getElem?_cons_zero, List.getElem?_cons_succ, Pl.Res.bind_ok, Pl.Res.bind_exc, Pl.Res.bind_stuck, Pl.Res.to_ok, Pl.Res.to_exc, Pl.Res.to_stuck, Pl.Res.calm_ok, Pl.SR.andThen_next, Pl.SR.andThen_ret, Pl.SR.andThen_brk, Pl.SR.andThen_cont, Pl.SR.andThen_exc, Pl.SR.andThen_stuck, Pl.gcE_self, Pl.gcX_self, Pl.optR_some, Pl.optR_none, Pl.EV.val_d, Pl.EV.val_own, Pl.EV.items_own, Pl.EV.items_brw, Pl.EV.items_lst, if_true, if_false, reduceIte, Bool.false_eq_true, Bool.not_true, Bool.not_false, List.set_cons_zero, List.set_cons_succ, Pl.wipeE, List.map_cons, List.map_nil, Pl.setE, Pl.bindT, Pl.bindNames, Nat.zero_lt_succ, Nat.succ_lt_succ_iff, Nat.lt_add_one, Pl.tru_bl, Pl.tru_int, Pl.its_tup, Pl.its_lst, Pl.its_own, Pl.its_brw, Pl.its_str, Pl.enum_tup, Pl.eq_int, Pl.ne_int, Pl.lt_int, Pl.le_int, Pl.gt_int, Pl.ge_int, Pl.add_int, Pl.sub_int, Pl.len_tup, Pl.len_own, Pl.len_brw, Pl.len_lst, Pl.idx_tup, Pl.idx_lst, Pl.idx_own, Pl.idx_brw, Pl.in_dic, Pl.nin_dic, Pl.idx_dic, Pl.is_non, Pl.isn_non, Pl.at_zero, Pl.at_one, sizeLine_eq, Nat.reduceAdd, Nat.reduceLeDiff, tuple_own]
      · obtain ⟨e, e1, e2⟩ := ih x S (sms_mem h2 hx) (dep_in hx hd)
        exact ⟨_, e, rfl, rfl, by simp only [Pl.runFn, List.length_cons, List.length_nil, Pl.startE_cons, Pl.startE_nil, Pl.repl_succ, List.replicate_zero, Nat.zero_add, Pl.execs, Pl.exec, Pl.evalT, Pl.evalE, Pl.evalVs, Pl.evalP, Pl.evalI, Pl.evalJ, List.getElem?_cons_zero, List.getElem?_cons_succ, Pl.Res.bind_ok, Pl.Res.bind_exc, Pl.Res.bind_stuck, Pl.Res.to_ok, Pl.Res.to_exc, Pl.Res.to_stuck, Pl.Res.calm_ok, Pl.SR.andThen_next, Pl.SR.andThen_ret, Pl.SR.andThen_brk, Pl.SR.andThen_cont, Pl.SR.andThen_exc, Pl.SR.andThen_stuck, Pl.gcE_self, Pl.gcX_self, Pl.optR_some, Pl.optR_none, Pl.EV.val_d, Pl.EV.val_own, Pl.EV.items_own, Pl.EV.items_brw, Pl.EV.items_lst, if_true, if_false, reduceIte, Bool.false_eq_true, Bool.not_true, Bool.not_false, List.set_cons_zero, List.set_cons_succ, Pl.wipeE, List.map_cons, List.map_nil, Pl.setE, Pl.bindT, Pl.bindNames, Nat.zero_lt_succ, Nat.succ_lt_succ_iff, Nat.lt_add_one, Pl.tru_bl, Pl.tru_int, Pl.its_tup, Pl.its_lst, Pl.its_own, Pl.its_brw, Pl.its_str, Pl.enum_tup, Pl.eq_int, Pl.ne_int, Pl.lt_int, Pl.le_int, Pl.gt_int, Pl.ge_int, Pl.add_int, Pl.sub_int, Pl.len_tup, Pl.len_own, Pl.len_brw, Pl.len_lst, Pl.idx_tup, Pl.idx_lst, Pl.idx_own, Pl.idx_brw, Pl.in_dic, Pl.nin_dic, Pl.idx_dic, Pl.is_non, Pl.isn_non, Pl.at_zero, Pl.at_one, sizeLine_eq, Nat.reduceAdd, Nat.reduceLeDiff, e1], e2⟩
    | lst xs =>
      obtain ⟨h1, h2⟩ := Bool.and_eq_true_iff.mp (show (decide (xs.length ≤ 100) && sms xs) = true from h)
      have h1 := of_decide_eq_true h1
      refine ⟨.own xs, ?_, rfl⟩
      rw [R_law_read]
      unfold n_law_read
      simp only [Pl.runFn, List.length_cons, List.length_nil, Pl.startE_cons, Pl.startE_nil, Pl.repl_succ, List.replicate_zero, Nat.zero_add, Pl.execs, Pl.exec, Pl.evalT, Pl.evalE, Pl.evalVs, Pl.evalP, Pl.evalI, Pl.evalJ, List.getElem?_cons_zero, List.getElem?_cons_succ, Pl.Res.bind_ok, Pl.Res.bind_exc, Pl.Res.bind_stuck, Pl.Res.to_ok, Pl.Res.to_exc, Pl.Res.to_stuck, Pl.Res.calm_ok, Pl.SR.andThen_next, Pl.SR.andThen_ret, Pl.SR.andThen_brk, Pl.SR.andThen_cont, Pl.SR.andThen_exc, Pl.SR.andThen_stuck, Pl.gcE_self, Pl.gcX_self, Pl.optR_some, Pl.optR_none, Pl.EV.val_d, Pl.EV.val_own, Pl.EV.items_own, Pl.EV.items_brw, Pl.EV.items_lst, if_true, if_false, reduceIte, Bool.false_eq_true, Bool.not_true, Bool.not_false, List.set_cons_zero, List.set_cons_succ, Pl.wipeE, List.map_cons, List.map_nil, Pl.setE, Pl.bindT, Pl.bindNames, Nat.zero_lt_succ, Nat.succ_lt_succ_iff, Nat.lt_add_one, Pl.tru_bl, Pl.tru_int, Pl.its_tup, Pl.its_lst, Pl.its_own, Pl.its_brw, Pl.its_str, Pl.enum_tup, Pl.eq_int, Pl.ne_int, Pl.lt_int, Pl.le_int, Pl.gt_int, Pl.ge_int, Pl.add_int, Pl.sub_int, Pl.len_tup, Pl.len_own, Pl.len_brw, Pl.len_lst, Pl.idx_tup, Pl.idx_lst, Pl.idx_own, Pl.idx_brw, Pl.in_dic, Pl.nin_dic, Pl.idx_dic, Pl.is_non, Pl.isn_non, Pl.at_zero, Pl.at_one, sizeLine_eq, Nat.reduceAdd, Nat.reduceLeDiff, is_bl_no (v := .d (.lst xs)) true (fun c e => by cases e), is_bl_no (v := .d (.lst xs)) false (fun c e => by cases e), EV.d.injEq, reduceCtorEq, decide_false, isi_int (sm_ty h), isInt, isi_str (sm_ty h), isStr, isi_tuple (sm_ty h), isTup, isi_list (sm_ty h), isLst]
      rw [comp_id rfl _ (line100 h1) fun x hx => ?_]
      · simp only [Pl.runFn, List.length_cons, List.length_nil, Pl.startE_cons, Pl.startE_nil, Pl.repl_succ, List.replicate_zero, Nat.zero_add, Pl.execs, Pl.exec, Pl.evalT, Pl.evalE, Pl.evalVs, Pl.evalP, Pl.evalI, Pl.evalJ, List.getElem?_cons_zero, List.getElem?_cons_succ, Pl.Res.bind_ok, Pl.Res.bind_exc, Pl.Res.bind_stuck, Pl.Res.to_ok, Pl.Res.to_exc, Pl.Res.to_stuck, Pl.Res.calm_ok, Pl.SR.andThen_next, Pl.SR.andThen_ret, Pl.SR.andThen_brk, Pl.SR.andThen_cont, Pl.SR.andThen_exc, Pl.SR.andThen_stuck, Pl.gcE_self, Pl.gcX_self, Pl.optR_some, Pl.optR_none, Pl.EV.val_d, Pl.EV.val_own, Pl.EV.items_own, Pl.EV.items_brw, Pl.EV.items_lst, if_true, if_false, reduceIte, Bool.false_eq_true, Bool.not_true, Bool.not_false, List.set_cons_zero, List.set_cons_succ, Pl.wipeE, List.map_cons, List.map_nil, Pl.setE, Pl.bindT, Pl.bindNames, Nat.zero_lt_succ, Nat.succ_lt_succ_iff, Nat.lt_add_one, Pl.tru_bl, Pl.tru_int, Pl.its_tup, Pl.its_lst, Pl.its_own, Pl.its_brw, Pl.its_str, Pl.enum_tup, Pl.eq_int, Pl.ne_int, Pl.lt_int, Pl.le_int, Pl.gt_int, Pl.ge_int, Pl.add_int, Pl.sub_int, Pl.len_tup, Pl.len_own, Pl.len_brw, Pl.len_lst, Pl.idx_tup, Pl.idx_lst, Pl.idx_own, Pl.idx_brw, Pl.in_dic, Pl.nin_dic, Pl.idx_dic, Pl.is_non, Pl.isn_non, Pl.at_zero, Pl.at_one, sizeLine_eq, Nat.reduceAdd, Nat.reduceLeDiff]
      · obtain ⟨e, e1, e2⟩ := ih x S (sms_mem h2 hx) (by have := deps_mem hx; simp only [dep] at hd; omega)
        exact ⟨_, e, rfl, rfl, by simp only [Pl.runFn, List.length_cons, List.length_nil, Pl.startE_cons, Pl.startE_nil, Pl.repl_succ, List.replicate_zero, Nat.zero_add, Pl.execs, Pl.exec, Pl.evalT, Pl.evalE, Pl.evalVs, Pl.evalP, Pl.evalI, Pl.evalJ, List.getElem?_cons_zero, List.getElem?_cons_succ, Pl.Res.bind_ok, Pl.Res.bind_exc, Pl.Res.bind_stuck, Pl.Res.to_ok, Pl.Res.to_exc, Pl.Res.to_stuck, Pl.Res.calm_ok, Pl.SR.andThen_next, Pl.SR.andThen_ret, Pl.SR.andThen_brk, Pl.SR.andThen_cont, Pl.SR.andThen_exc, Pl.SR.andThen_stuck, Pl.gcE_self, Pl.gcX_self, Pl.optR_some, Pl.optR_none, Pl.EV.val_d, Pl.EV.val_own, Pl.EV.items_own, Pl.EV.items_brw, Pl.EV.items_lst, if_true, if_false, reduceIte, Bool.false_eq_true, Bool.not_true, Bool.not_false, List.set_cons_zero, List.set_cons_succ, Pl.wipeE, List.map_cons, List.map_nil, Pl.setE, Pl.bindT, Pl.bindNames, Nat.zero_lt_succ, Nat.succ_lt_succ_iff, Nat.lt_add_one, Pl.tru_bl, Pl.tru_int, Pl.its_tup, Pl.its_lst, Pl.its_own, Pl.its_brw, Pl.its_str, Pl.enum_tup, Pl.eq_int, Pl.ne_int, Pl.lt_int, Pl.le_int, Pl.gt_int, Pl.ge_int, Pl.add_int, Pl.sub_int, Pl.len_tup, Pl.len_own, Pl.len_brw, Pl.len_lst, Pl.idx_tup, Pl.idx_lst, Pl.idx_own, Pl.idx_brw, Pl.in_dic, Pl.nin_dic, Pl.idx_dic, Pl.is_non, Pl.isn_non, Pl.at_zero, Pl.at_one, sizeLine_eq, Nat.reduceAdd, Nat.reduceLeDiff, e1], e2⟩
    | dic _ _ => cases h
    | ref _ => cases h
    | glo _ => cases h
    | non => exact ⟨.d .non, by rw [R_law_read]; unfold n_law_read; simp only [Pl.runFn, List.length_cons, List.length_nil, Pl.startE_cons, Pl.startE_nil, Pl.repl_succ, List.replicate_zero, Nat.zero_add, Pl.execs, Pl.exec, Pl.evalT, Pl.evalE, Pl.evalVs, Pl.evalP, Pl.evalI, Pl.evalJ, List.getElem?_cons_zero, List.getElem?_cons_succ, Pl.Res.bind_ok, Pl.Res.bind_exc, Pl.Res.bind_stuck, Pl.Res.to_ok, Pl.Res.to_exc, Pl.Res.to_stuck, Pl.Res.calm_ok, Pl.SR.andThen_next, Pl.SR.andThen_ret, Pl.SR.andThen_brk, Pl.SR.andThen_cont, Pl.SR.andThen_exc, Pl.SR.andThen_stuck, Pl.gcE_self, Pl.gcX_self, Pl.optR_some, Pl.optR_none, Pl.EV.val_d, Pl.EV.val_own, Pl.EV.items_own, Pl.EV.items_brw, Pl.EV.items_lst, if_true, if_false, reduceIte, Bool.false_eq_true, Bool.not_true, Bool.not_false, List.set_cons_zero, List.set_cons_succ, Pl.wipeE, List.map_cons, List.map_nil, Pl.setE, Pl.bindT, Pl.bindNames, Nat.zero_lt_succ, Nat.succ_lt_succ_iff, Nat.lt_add_one, Pl.tru_bl, Pl.tru_int, Pl.its_tup, Pl.its_lst, Pl.its_own, Pl.its_brw, Pl.its_str, Pl.enum_tup, Pl.eq_int, Pl.ne_int, Pl.lt_int, Pl.le_int, Pl.gt_int, Pl.ge_int, Pl.add_int, Pl.sub_int, Pl.len_tup, Pl.len_own, Pl.len_brw, Pl.len_lst, Pl.idx_tup, Pl.idx_lst, Pl.idx_own, Pl.idx_brw, Pl.in_dic, Pl.nin_dic, Pl.idx_dic, Pl.is_non, Pl.isn_non, Pl.at_zero, Pl.at_one, sizeLine_eq, Nat.reduceAdd, Nat.reduceLeDiff, decide_true], rfl⟩
    | bl b => refine ⟨.d (.bl b), ?_, rfl⟩; rw [R_law_read]; unfold n_law_read; cases b <;> simp only [Pl.runFn, List.length_cons, List.length_nil, Pl.startE_cons, Pl.startE_nil, Pl.repl_succ, List.replicate_zero, Nat.zero_add, Pl.execs, Pl.exec, Pl.evalT, Pl.evalE, Pl.evalVs, Pl.evalP, Pl.evalI, Pl.evalJ, List.getElem?_cons_zero, List.getElem?_cons_succ, Pl.Res.bind_ok, Pl.Res.bind_exc, Pl.Res.bind_stuck, Pl.Res.to_ok, Pl.Res.to_exc, Pl.Res.to_stuck, Pl.Res.calm_ok, Pl.SR.andThen_next, Pl.SR.andThen_ret, Pl.SR.andThen_brk, Pl.SR.andThen_cont, Pl.SR.andThen_exc, Pl.SR.andThen_stuck, Pl.gcE_self, Pl.gcX_self, Pl.optR_some, Pl.optR_none, Pl.EV.val_d, Pl.EV.val_own, Pl.EV.items_own, Pl.EV.items_brw, Pl.EV.items_lst, if_true, if_false, reduceIte, Bool.false_eq_true, Bool.not_true, Bool.not_false, List.set_cons_zero, List.set_cons_succ, Pl.wipeE, List.map_cons, List.map_nil, Pl.setE, Pl.bindT, Pl.bindNames, Nat.zero_lt_succ, Nat.succ_lt_succ_iff, Nat.lt_add_one, Pl.tru_bl, Pl.tru_int, Pl.its_tup, Pl.its_lst, Pl.its_own, Pl.its_brw, Pl.its_str, Pl.enum_tup, Pl.eq_int, Pl.ne_int, Pl.lt_int, Pl.le_int, Pl.gt_int, Pl.ge_int, Pl.add_int, Pl.sub_int, Pl.len_tup, Pl.len_own, Pl.len_brw, Pl.len_lst, Pl.idx_tup, Pl.idx_lst, Pl.idx_own, Pl.idx_brw, Pl.in_dic, Pl.nin_dic, Pl.idx_dic, Pl.is_non, Pl.isn_non, Pl.at_zero, Pl.at_one, sizeLine_eq, Nat.reduceAdd, Nat.reduceLeDiff, is_bl, reduceCtorEq, decide_false, EV.d.injEq, beq_self_eq_true, beq_iff_eq]
    | int i =>
      refine ⟨.d (.int i), ?_, rfl⟩
      rw [R_law_read]
      unfold n_law_read
      simp only [Pl.runFn, List.length_cons, List.length_nil, Pl.startE_cons, Pl.startE_nil, Pl.repl_succ, List.replicate_zero, Nat.zero_add, Pl.execs, Pl.exec, Pl.evalT, Pl.evalE, Pl.evalVs, Pl.evalP, Pl.evalI, Pl.evalJ, List.getElem?_cons_zero, List.getElem?_cons_succ, Pl.Res.bind_ok, Pl.Res.bind_exc, Pl.Res.bind_stuck, Pl.Res.to_ok, Pl.Res.to_exc, Pl.Res.to_stuck, Pl.Res.calm_ok, Pl.SR.andThen_next, Pl.SR.andThen_ret, Pl.SR.andThen_brk, Pl.SR.andThen_cont, Pl.SR.andThen_exc, Pl.SR.andThen_stuck, Pl.gcE_self, Pl.gcX_self, Pl.optR_some, Pl.optR_none, Pl.EV.val_d, Pl.EV.val_own, Pl.EV.items_own, Pl.EV.items_brw, Pl.EV.items_lst, if_true, if_false, reduceIte, Bool.false_eq_true, Bool.not_true, Bool.not_false, List.set_cons_zero, List.set_cons_succ, Pl.wipeE, List.map_cons, List.map_nil, Pl.setE, Pl.bindT, Pl.bindNames, Nat.zero_lt_succ, Nat.succ_lt_succ_iff, Nat.lt_add_one, Pl.tru_bl, Pl.tru_int, Pl.its_tup, Pl.its_lst, Pl.its_own, Pl.its_brw, Pl.its_str, Pl.enum_tup, Pl.eq_int, Pl.ne_int, Pl.lt_int, Pl.le_int, Pl.gt_int, Pl.ge_int, Pl.add_int, Pl.sub_int, Pl.len_tup, Pl.len_own, Pl.len_brw, Pl.len_lst, Pl.idx_tup, Pl.idx_lst, Pl.idx_own, Pl.idx_brw, Pl.in_dic, Pl.nin_dic, Pl.idx_dic, Pl.is_non, Pl.isn_non, Pl.at_zero, Pl.at_one, sizeLine_eq, Nat.reduceAdd, Nat.reduceLeDiff, is_bl_no (v := .d (.int i)) true (fun c e => by cases e), is_bl_no (v := .d (.int i)) false (fun c e => by cases e), EV.d.injEq, reduceCtorEq, decide_false, isi_int (sm_ty h), isInt, int_int]
    | str z =>
      refine ⟨.d (.str z), ?_, rfl⟩
      rw [R_law_read]
      unfold n_law_read
      simp only [Pl.runFn, List.length_cons, List.length_nil, Pl.startE_cons, Pl.startE_nil, Pl.repl_succ, List.replicate_zero, Nat.zero_add, Pl.execs, Pl.exec, Pl.evalT, Pl.evalE, Pl.evalVs, Pl.evalP, Pl.evalI, Pl.evalJ, List.getElem?_cons_zero, List.getElem?_cons_succ, Pl.Res.bind_ok, Pl.Res.bind_exc, Pl.Res.bind_stuck, Pl.Res.to_ok, Pl.Res.to_exc, Pl.Res.to_stuck, Pl.Res.calm_ok, Pl.SR.andThen_next, Pl.SR.andThen_ret, Pl.SR.andThen_brk, Pl.SR.andThen_cont, Pl.SR.andThen_exc, Pl.SR.andThen_stuck, Pl.gcE_self, Pl.gcX_self, Pl.optR_some, Pl.optR_none, Pl.EV.val_d, Pl.EV.val_own, Pl.EV.items_own, Pl.EV.items_brw, Pl.EV.items_lst, if_true, if_false, reduceIte, Bool.false_eq_true, Bool.not_true, Bool.not_false, List.set_cons_zero, List.set_cons_succ, Pl.wipeE, List.map_cons, List.map_nil, Pl.setE, Pl.bindT, Pl.bindNames, Nat.zero_lt_succ, Nat.succ_lt_succ_iff, Nat.lt_add_one, Pl.tru_bl, Pl.tru_int, Pl.its_tup, Pl.its_lst, Pl.its_own, Pl.its_brw, Pl.its_str, Pl.enum_tup, Pl.eq_int, Pl.ne_int, Pl.lt_int, Pl.le_int, Pl.gt_int, Pl.ge_int, Pl.add_int, Pl.sub_int, Pl.len_tup, Pl.len_own, Pl.len_brw, Pl.len_lst, Pl.idx_tup, Pl.idx_lst, Pl.idx_own, Pl.idx_brw, Pl.in_dic, Pl.nin_dic, Pl.idx_dic, Pl.is_non, Pl.isn_non, Pl.at_zero, Pl.at_one, sizeLine_eq, Nat.reduceAdd, Nat.reduceLeDiff, is_bl_no (v := .d (.str z)) true (fun c e => by cases e), is_bl_no (v := .d (.str z)) false (fun c e => by cases e), EV.d.injEq, reduceCtorEq, decide_false, isi_int (sm_ty h), isInt, isi_str (sm_ty h), isStr]
      rw [comp_id rfl _ (by simp; exact line100 (sm_str h).2) fun x hx => ⟨_, .d x, rfl, rfl, rfl, rfl⟩]
      simp only [Pl.runFn, List.length_cons, List.length_nil, Pl.startE_cons, Pl.startE_nil, Pl.repl_succ, List.replicate_zero, Nat.zero_add, Pl.execs, Pl.exec, Pl.evalT, Pl.evalE, Pl.evalVs, Pl.evalP, Pl.evalI, Pl.evalJ, List.getElem?_cons_zero, List.getElem?_cons_succ, Pl.Res.bind_ok, Pl.Res.bind_exc, Pl.Res.bind_stuck, Pl.Res.to_ok, Pl.Res.to_exc, Pl.Res.to_stuck, Pl.Res.calm_ok, Pl.SR.andThen_next, Pl.SR.andThen_ret, Pl.SR.andThen_brk, Pl.SR.andThen_cont, Pl.SR.andThen_exc, Pl.SR.andThen_stuck, Pl.gcE_self, Pl.gcX_self, Pl.optR_some, Pl.optR_none, Pl.EV.val_d, Pl.EV.val_own, Pl.EV.items_own, Pl.EV.items_brw, Pl.EV.items_lst, if_true, if_false, reduceIte, Bool.false_eq_true, Bool.not_true, Bool.not_false, List.set_cons_zero, List.set_cons_succ, Pl.wipeE, List.map_cons, List.map_nil, Pl.setE, Pl.bindT, Pl.bindNames, Nat.zero_lt_succ, Nat.succ_lt_succ_iff, Nat.lt_add_one, Pl.tru_bl, Pl.tru_int, Pl.its_tup, Pl.its_lst, Pl.its_own, Pl.its_brw, Pl.its_str, Pl.enum_tup, Pl.eq_int, Pl.ne_int, Pl.lt_int, Pl.le_int, Pl.gt_int, Pl.ge_int, Pl.add_int, Pl.sub_int, Pl.len_tup, Pl.len_own, Pl.len_brw, Pl.len_lst, Pl.idx_tup, Pl.idx_lst, Pl.idx_own, Pl.idx_brw, Pl.in_dic, Pl.nin_dic, Pl.idx_dic, Pl.is_non, Pl.isn_non, Pl.at_zero, Pl.at_one, sizeLine_eq, Nat.reduceAdd, Nat.reduceLeDiff, join_own z S (sm_str h).2]
/-! ### the box -/
theorem s_law_cell (k : Nat) (ns : List Int) (S : Sto) : ∃ c, R (k + 1) "_law_cell" [.lst (ns.map D.int), .int 0] S = .ok (.d (.int c)) S := by
  rw [R_law_cell]
  unfold n_law_cell
  cases ns with
  | nil => exact ⟨0, by simp only [Pl.runFn, List.length_cons, List.length_nil, Pl.startE_cons, Pl.startE_nil, Pl.repl_succ, List.replicate_zero, Nat.zero_add, Pl.execs, Pl.exec, Pl.evalT, Pl.evalE, Pl.evalVs, Pl.evalP, Pl.evalI, Pl.evalJ, List.getElem?_cons_zero, List.getElem?_cons_succ, Pl.Res.bind_ok, Pl.Res.bind_exc, Pl.Res.bind_stuck, Pl.Res.to_ok, Pl.Res.to_exc, Pl.Res.to_stuck, Pl.Res.calm_ok, Pl.SR.andThen_next, Pl.SR.andThen_ret, Pl.SR.andThen_brk, Pl.SR.andThen_cont, Pl.SR.andThen_exc, Pl.SR.andThen_stuck, Pl.gcE_self, Pl.gcX_self, Pl.optR_some, Pl.optR_none, Pl.EV.val_d, Pl.EV.val_own, Pl.EV.items_own, Pl.EV.items_brw, Pl.EV.items_lst, if_true, if_false, reduceIte, Bool.false_eq_true, Bool.not_true, Bool.not_false, List.set_cons_zero, List.set_cons_succ, Pl.wipeE, List.map_cons, List.map_nil, Pl.setE, Pl.bindT, Pl.bindNames, Nat.zero_lt_succ, Nat.succ_lt_succ_iff, Nat.lt_add_one, Pl.tru_bl, Pl.tru_int, Pl.its_tup, Pl.its_lst, Pl.its_own, Pl.its_brw, Pl.its_str, Pl.enum_tup, Pl.eq_int, Pl.ne_int, Pl.lt_int, Pl.le_int, Pl.gt_int, Pl.ge_int, Pl.add_int, Pl.sub_int, Pl.len_tup, Pl.len_own, Pl.len_brw, Pl.len_lst, Pl.idx_tup, Pl.idx_lst, Pl.idx_own, Pl.idx_brw, Pl.in_dic, Pl.nin_dic, Pl.idx_dic, Pl.is_non, Pl.isn_non, Pl.at_zero, Pl.at_one, sizeLine_eq, Nat.reduceAdd, Nat.reduceLeDiff, show ¬ ((0 : Int) < ((0 : Nat) : Int)) from by decide, decide_false]⟩
  | cons n ns =>
    refine ⟨n, ?_⟩
    have h : (0 : Int) < ((((ns.map D.int).length + 1 : Nat)) : Int) := by omega
    simp only [Pl.runFn, List.length_cons, List.length_nil, Pl.startE_cons, Pl.startE_nil, Pl.repl_succ, List.replicate_zero, Nat.zero_add, Pl.execs, Pl.exec, Pl.evalT, Pl.evalE, Pl.evalVs, Pl.evalP, Pl.evalI, Pl.evalJ, List.getElem?_cons_zero, List.getElem?_cons_succ, Pl.Res.bind_ok, Pl.Res.bind_exc, Pl.Res.bind_stuck, Pl.Res.to_ok, Pl.Res.to_exc, Pl.Res.to_stuck, Pl.Res.calm_ok, Pl.SR.andThen_next, Pl.SR.andThen_ret, Pl.SR.andThen_brk, Pl.SR.andThen_cont, Pl.SR.andThen_exc, Pl.SR.andThen_stuck, Pl.gcE_self, Pl.gcX_self, Pl.optR_some, Pl.optR_none, Pl.EV.val_d, Pl.EV.val_own, Pl.EV.items_own, Pl.EV.items_brw, Pl.EV.items_lst, if_true, if_false, reduceIte, Bool.false_eq_true, Bool.not_true, Bool.not_false, List.set_cons_zero, List.set_cons_succ, Pl.wipeE, List.map_cons, List.map_nil, Pl.setE, Pl.bindT, Pl.bindNames, Nat.zero_lt_succ, Nat.succ_lt_succ_iff, Nat.lt_add_one, Pl.tru_bl, Pl.tru_int, Pl.its_tup, Pl.its_lst, Pl.its_own, Pl.its_brw, Pl.its_str, Pl.enum_tup, Pl.eq_int, Pl.ne_int, Pl.lt_int, Pl.le_int, Pl.gt_int, Pl.ge_int, Pl.add_int, Pl.sub_int, Pl.len_tup, Pl.len_own, Pl.len_brw, Pl.len_lst, Pl.idx_tup, Pl.idx_lst, Pl.idx_own, Pl.idx_brw, Pl.in_dic, Pl.nin_dic, Pl.idx_dic, Pl.is_non, Pl.isn_non, Pl.at_zero, Pl.at_one, sizeLine_eq, Nat.reduceAdd, Nat.reduceLeDiff, h, decide_true, int_int]
theorem s_law_stream (k : Nat) (ns : List Int) (S : Sto) : ∃ a b, R (k + 2) "_law_stream" [.lst (ns.map D.int), .int 0] S = .ok (.own [.int a, .int b]) S ∧ 0 ≤ a ∧ 0 ≤ b ∧ b < 2147483647 := by
  obtain ⟨c, hc⟩ := s_law_cell k ns S
  rw [show k + 2 = (k + 1) + 1 from rfl, R_law_stream]
  unfold n_law_stream
  have hm : (0 : Int) < 1000003 := by decide
  refine ⟨if c < 0 then -c else c, (if c < 0 then -c else c) % 1000003 + 7, ?_, by split <;> omega, by omega, by omega⟩
  simp only [Pl.runFn, List.length_cons, List.length_nil, Pl.startE_cons, Pl.startE_nil, Pl.repl_succ, List.replicate_zero, Nat.zero_add, Pl.execs, Pl.exec, Pl.evalT, Pl.evalE, Pl.evalVs, Pl.evalP, Pl.evalI, Pl.evalJ, List.getElem?_cons_zero, List.getElem?_cons_succ, Pl.Res.bind_ok, Pl.Res.bind_exc, Pl.Res.bind_stuck, Pl.Res.to_ok, Pl.Res.to_exc, Pl.Res.to_stuck, Pl.Res.calm_ok, Pl.SR.andThen_next, Pl.SR.andThen_ret, Pl.SR.andThen_brk, Pl.SR.andThen_cont, Pl.SR.andThen_exc, Pl.SR.andThen_stuck, Pl.gcE_self, Pl.gcX_self, Pl.optR_some, Pl.optR_none, Pl.EV.val_d, Pl.EV.val_own, Pl.EV.items_own, Pl.EV.items_brw, Pl.EV.items_lst, if_true, if_false, reduceIte, Bool.false_eq_true, Bool.not_true, Bool.not_false, List.set_cons_zero, List.set_cons_succ, Pl.wipeE, List.map_cons, List.map_nil, Pl.setE, Pl.bindT, Pl.bindNames, Nat.zero_lt_succ, Nat.succ_lt_succ_iff, Nat.lt_add_one, Pl.tru_bl, Pl.tru_int, Pl.its_tup, Pl.its_lst, Pl.its_own, Pl.its_brw, Pl.its_str, Pl.enum_tup, Pl.eq_int, Pl.ne_int, Pl.lt_int, Pl.le_int, Pl.gt_int, Pl.ge_int, Pl.add_int, Pl.sub_int, Pl.len_tup, Pl.len_own, Pl.len_brw, Pl.len_lst, Pl.idx_tup, Pl.idx_lst, Pl.idx_own, Pl.idx_brw, Pl.in_dic, Pl.nin_dic, Pl.idx_dic, Pl.is_non, Pl.isn_non, Pl.at_zero, Pl.at_one, sizeLine_eq, Nat.reduceAdd, Nat.reduceLeDiff, hc, abs_int, mod_int, hm]
def BS (S : Sto) : Prop := ∃ a b : Int, S = [.lst [.int a, .int b]] ∧ 0 ≤ a ∧ 0 ≤ b ∧ b < 2147483647
theorem s_law_draw (k : Nat) {many : Int} {S : Sto} (h0 : 0 < many) (h1 : many ≤ 1000) (hS : BS S) : ∃ r S', R (k + 1) "_law_draw" [.ref 0, .int many] S = .ok (.d (.int r)) S' ∧ BS S' ∧ 0 ≤ r ∧ r < many := by
  obtain ⟨a, b, rfl, ha, hb, hb2⟩ := hS
  rw [R_law_draw]
  unfold n_law_draw
  have hl : ∀ x y : D, ([Ob.lst [x, y]] : Sto)[0]? = some (.lst [x, y]) := fun _ _ => rfl
  have i0 : ∀ x y : D, idxV [Ob.lst [x, y]] (.d (.ref 0)) (.d (.int 0)) = some x := fun x y => by rw [idx_ref (hl x y), at_zero]
  have i1 : ∀ x y : D, idxV [Ob.lst [x, y]] (.d (.ref 0)) (.d (.int 1)) = some y := fun x y => by rw [idx_ref (hl x y), at1]
  have x0 : ixN 2 (0 : Int) = some 0 := by decide
  have x1 : ixN 2 (1 : Int) = some 1 := by decide
  by_cases c : 0 < a
  · refine ⟨a % many, [.lst [.int (a / many), .int b]], ?_, ⟨_, _, rfl, Int.ediv_nonneg ha (by omega), hb, hb2⟩, Int.emod_nonneg _ (by omega), Int.emod_lt_of_pos _ h0⟩
    have hf : 0 < many ∧ many < 1073741824 := ⟨h0, by omega⟩
    simp only [Pl.runFn, List.length_cons, List.length_nil, Pl.startE_cons, Pl.startE_nil, Pl.repl_succ, List.replicate_zero, Nat.zero_add, Pl.execs, Pl.exec, Pl.evalT, Pl.evalE, Pl.evalVs, Pl.evalP, Pl.evalI, Pl.evalJ, List.getElem?_cons_zero, List.getElem?_cons_succ, Pl.Res.bind_ok, Pl.Res.bind_exc, Pl.Res.bind_stuck, Pl.Res.to_ok, Pl.Res.to_exc, Pl.Res.to_stuck, Pl.Res.calm_ok, Pl.SR.andThen_next, Pl.SR.andThen_ret, Pl.SR.andThen_brk, Pl.SR.andThen_cont, Pl.SR.andThen_exc, Pl.SR.andThen_stuck, Pl.gcE_self, Pl.gcX_self, Pl.optR_some, Pl.optR_none, Pl.EV.val_d, Pl.EV.val_own, Pl.EV.items_own, Pl.EV.items_brw, Pl.EV.items_lst, if_true, if_false, reduceIte, Bool.false_eq_true, Bool.not_true, Bool.not_false, List.set_cons_zero, List.set_cons_succ, Pl.wipeE, List.map_cons, List.map_nil, Pl.setE, Pl.bindT, Pl.bindNames, Nat.zero_lt_succ, Nat.succ_lt_succ_iff, Nat.lt_add_one, Pl.tru_bl, Pl.tru_int, Pl.its_tup, Pl.its_lst, Pl.its_own, Pl.its_brw, Pl.its_str, Pl.enum_tup, Pl.eq_int, Pl.ne_int, Pl.lt_int, Pl.le_int, Pl.gt_int, Pl.ge_int, Pl.add_int, Pl.sub_int, Pl.len_tup, Pl.len_own, Pl.len_brw, Pl.len_lst, Pl.idx_tup, Pl.idx_lst, Pl.idx_own, Pl.idx_brw, Pl.in_dic, Pl.nin_dic, Pl.idx_dic, Pl.is_non, Pl.isn_non, Pl.at_zero, Pl.at_one, sizeLine_eq, Nat.reduceAdd, Nat.reduceLeDiff, i0, c, decide_true, mod_int, h0, fdiv_int, hf, and_self, slotL, putL, x0, Option.map_some, int_int]
    exact gcE_len _ rfl
  · let b' := (b * 48271 + 12345) % 2147483647
    have hb' : 0 ≤ b' ∧ b' < 2147483647 := ⟨Int.emod_nonneg _ (by omega), Int.emod_lt_of_pos _ (by omega)⟩
    refine ⟨b' / 64 % many, [.lst [.int a, .int b']], ?_, ⟨_, _, rfl, ha, hb'⟩, Int.emod_nonneg _ (by omega), Int.emod_lt_of_pos _ h0⟩
    have hm : CMulB b 48271 = true := by
      unfold CMulB
      exact decide_eq_true (.inl ⟨by omega, by omega⟩)
    have h2 : (0 : Int) < 2147483647 := by decide
    have h3 : (0 : Int) < 64 ∧ (64 : Int) < 1073741824 := by decide
    simp only [Pl.runFn, List.length_cons, List.length_nil, Pl.startE_cons, Pl.startE_nil, Pl.repl_succ, List.replicate_zero, Nat.zero_add, Pl.execs, Pl.exec, Pl.evalT, Pl.evalE, Pl.evalVs, Pl.evalP, Pl.evalI, Pl.evalJ, List.getElem?_cons_zero, List.getElem?_cons_succ, Pl.Res.bind_ok, Pl.Res.bind_exc, Pl.Res.bind_stuck, Pl.Res.to_ok, Pl.Res.to_exc, Pl.Res.to_stuck, Pl.Res.calm_ok, Pl.SR.andThen_next, Pl.SR.andThen_ret, Pl.SR.andThen_brk, Pl.SR.andThen_cont, Pl.SR.andThen_exc, Pl.SR.andThen_stuck, Pl.gcE_self, Pl.gcX_self, Pl.optR_some, Pl.optR_none, Pl.EV.val_d, Pl.EV.val_own, Pl.EV.items_own, Pl.EV.items_brw, Pl.EV.items_lst, if_true, if_false, reduceIte, Bool.false_eq_true, Bool.not_true, Bool.not_false, List.set_cons_zero, List.set_cons_succ, Pl.wipeE, List.map_cons, List.map_nil, Pl.setE, Pl.bindT, Pl.bindNames, Nat.zero_lt_succ, Nat.succ_lt_succ_iff, Nat.lt_add_one, Pl.tru_bl, Pl.tru_int, Pl.its_tup, Pl.its_lst, Pl.its_own, Pl.its_brw, Pl.its_str, Pl.enum_tup, Pl.eq_int, Pl.ne_int, Pl.lt_int, Pl.le_int, Pl.gt_int, Pl.ge_int, Pl.add_int, Pl.sub_int, Pl.len_tup, Pl.len_own, Pl.len_brw, Pl.len_lst, Pl.idx_tup, Pl.idx_lst, Pl.idx_own, Pl.idx_brw, Pl.in_dic, Pl.nin_dic, Pl.idx_dic, Pl.is_non, Pl.isn_non, Pl.at_zero, Pl.at_one, sizeLine_eq, Nat.reduceAdd, Nat.reduceLeDiff, i0, i1, c, decide_false, mul_int, hm, int_int, mod_int, h2, slotL, putL, x1, Option.map_some, fdiv_int, h3, and_self, h0]
    exact gcE_len _ rfl
def nmL : List Str := ["x", "y", "z", "zz", "abcdefgh"]
theorem s_law_name (k : Nat) {S : Sto} (hS : BS S) : ∃ z S', R (k + 2) "_law_name" [.ref 0] S = .ok (.d (.str z)) S' ∧ BS S' ∧ z ∈ nmL := by
  obtain ⟨r, S', h, hB, r0, r1⟩ := s_law_draw k (many := 8) (by decide) (by decide) hS
  rw [show k + 2 = (k + 1) + 1 from rfl, R_law_name]
  unfold n_law_name
  have hm : CMulB r 5 = true := by
    unfold CMulB
    exact decide_eq_true (.inl ⟨by omega, by omega⟩)
  have h3 : (0 : Int) < 8 ∧ (8 : Int) < 1073741824 := by decide
  have hl : S'.length = S.length := by
    obtain ⟨_, _, rfl, _⟩ := hB
    obtain ⟨_, _, rfl, _⟩ := hS
    rfl
  obtain ⟨j, hj, hj2⟩ : ∃ j : Nat, r * 5 / 8 = (j : Int) ∧ j < 5 := ⟨(r * 5 / 8).toNat, by omega, by omega⟩
  simp only [Pl.runFn, List.length_cons, List.length_nil, Pl.startE_cons, Pl.startE_nil, Pl.repl_succ, List.replicate_zero, Nat.zero_add, Pl.execs, Pl.exec, Pl.evalT, Pl.evalE, Pl.evalVs, Pl.evalP, Pl.evalI, Pl.evalJ, List.getElem?_cons_zero, List.getElem?_cons_succ, Pl.Res.bind_ok, Pl.Res.bind_exc, Pl.Res.bind_stuck, Pl.Res.to_ok, Pl.Res.to_exc, Pl.Res.to_stuck, Pl.Res.calm_ok, Pl.SR.andThen_next, Pl.SR.andThen_ret, Pl.SR.andThen_brk, Pl.SR.andThen_cont, Pl.SR.andThen_exc, Pl.SR.andThen_stuck, Pl.gcE_self, Pl.gcX_self, Pl.optR_some, Pl.optR_none, Pl.EV.val_d, Pl.EV.val_own, Pl.EV.items_own, Pl.EV.items_brw, Pl.EV.items_lst, if_true, if_false, reduceIte, Bool.false_eq_true, Bool.not_true, Bool.not_false, List.set_cons_zero, List.set_cons_succ, Pl.wipeE, List.map_cons, List.map_nil, Pl.setE, Pl.bindT, Pl.bindNames, Nat.zero_lt_succ, Nat.succ_lt_succ_iff, Nat.lt_add_one, Pl.tru_bl, Pl.tru_int, Pl.its_tup, Pl.its_lst, Pl.its_own, Pl.its_brw, Pl.its_str, Pl.enum_tup, Pl.eq_int, Pl.ne_int, Pl.lt_int, Pl.le_int, Pl.gt_int, Pl.ge_int, Pl.add_int, Pl.sub_int, Pl.len_tup, Pl.len_own, Pl.len_brw, Pl.len_lst, Pl.idx_tup, Pl.idx_lst, Pl.idx_own, Pl.idx_brw, Pl.in_dic, Pl.nin_dic, Pl.idx_dic, Pl.is_non, Pl.isn_non, Pl.at_zero, Pl.at_one, sizeLine_eq, Nat.reduceAdd, Nat.reduceLeDiff, h, mul_int, hm, fdiv_int, h3, and_self, hj, Pl.atI_nat]
  have hz : ∃ z, ([D.str (Str.ofString "x"), D.str (Str.ofString "y"), D.str (Str.ofString "z"), D.str (Str.ofString "zz"), D.str (Str.ofString "abcdefgh")])[j]? = some (.str z) ∧ z ∈ nmL := by
    match j, hj2 with
    | 0, _ => exact ⟨_, rfl, by decide +kernel⟩
    | 1, _ => exact ⟨_, rfl, by decide +kernel⟩
    | 2, _ => exact ⟨_, rfl, by decide +kernel⟩
    | 3, _ => exact ⟨_, rfl, by decide +kernel⟩
    | 4, _ => exact ⟨_, rfl, by decide +kernel⟩
  obtain ⟨z, e, hz⟩ := hz
  refine ⟨z, S', ?_, hB, hz⟩
  simp only [Pl.runFn, List.length_cons, List.length_nil, Pl.startE_cons, Pl.startE_nil, Pl.repl_succ, List.replicate_zero, Nat.zero_add, Pl.execs, Pl.exec, Pl.evalT, Pl.evalE, Pl.evalVs, Pl.evalP, Pl.evalI, Pl.evalJ, List.getElem?_cons_zero, List.getElem?_cons_succ, Pl.Res.bind_ok, Pl.Res.bind_exc, Pl.Res.bind_stuck, Pl.Res.to_ok, Pl.Res.to_exc, Pl.Res.to_stuck, Pl.Res.calm_ok, Pl.SR.andThen_next, Pl.SR.andThen_ret, Pl.SR.andThen_brk, Pl.SR.andThen_cont, Pl.SR.andThen_exc, Pl.SR.andThen_stuck, Pl.gcE_self, Pl.gcX_self, Pl.optR_some, Pl.optR_none, Pl.EV.val_d, Pl.EV.val_own, Pl.EV.items_own, Pl.EV.items_brw, Pl.EV.items_lst, if_true, if_false, reduceIte, Bool.false_eq_true, Bool.not_true, Bool.not_false, List.set_cons_zero, List.set_cons_succ, Pl.wipeE, List.map_cons, List.map_nil, Pl.setE, Pl.bindT, Pl.bindNames, Nat.zero_lt_succ, Nat.succ_lt_succ_iff, Nat.lt_add_one, Pl.tru_bl, Pl.tru_int, Pl.its_tup, Pl.its_lst, Pl.its_own, Pl.its_brw, Pl.its_str, Pl.enum_tup, Pl.eq_int, Pl.ne_int, Pl.lt_int, Pl.le_int, Pl.gt_int, Pl.ge_int, Pl.add_int, Pl.sub_int, Pl.len_tup, Pl.len_own, Pl.len_brw, Pl.len_lst, Pl.idx_tup, Pl.idx_lst, Pl.idx_own, Pl.idx_brw, Pl.in_dic, Pl.nin_dic, Pl.idx_dic, Pl.is_non, Pl.isn_non, Pl.at_zero, Pl.at_one, sizeLine_eq, Nat.reduceAdd, Nat.reduceLeDiff, e]
  exact gcE_len _ hl
end K20
end

section
set_option Elab.async false
set_option linter.all false
set_option maxRecDepth 100000
/-! k20: _law_kind. -/
namespace K20
open PySem hiding exec execs
open L2 Pl
theorem BS_len {S S' : Sto} (h : BS S) (h' : BS S') : S'.length = S.length := by
  obtain ⟨_, _, rfl, _⟩ := h
  obtain ⟨_, _, rfl, _⟩ := h'
  rfl
/-! ### what is made -/
def rws : D := .tup [.tup [.int 0], .tup [.int 0, .int 1]]
def k0L : List D := [.tup [.str "one"], .tup [.str "truth"], .tup [.str "told", .tup [.int 1], rws], .tup [.str "told", .tup [.int 1, .int 4], rws], .tup [.str "told", .tup [.int 1, .int 5], rws]]
def beL : List Str := ["both", "either", "maps"]
def k1L : List D := k0L ++ (beL.flatMap fun w => k0L.flatMap fun a => k0L.map fun b => .tup [.str w, a, b]) ++ (k0L.map fun a => .tup [.str "sets", a]) ++
  (nmL.flatMap fun z => k0L.flatMap fun a => nmL.map fun y => .tup [.str "part", .str z, a, .tup [.str "equal", .tup [.str "name", .str z], .tup [.str "name", .str y]]])
theorem s_law_kind0 (k : Nat) {S : Sto} (hS : BS S) : ∃ v S', R (k + 3) "_law_kind" [.ref 0, .int 0] S = .ok (.d v) S' ∧ BS S' ∧ v ∈ k0L := by
  obtain ⟨r, S1, h, hB, r0, r1⟩ := s_law_draw (k + 1) (many := 4) (by decide) (by decide) hS
  have hl := BS_len hS hB
  rw [show k + 3 = (k + 2) + 1 from rfl, R_law_kind]
  unfold n_law_kind
  simp only [Pl.runFn, List.length_cons, List.length_nil, Pl.startE_cons, Pl.startE_nil, Pl.repl_succ, List.replicate_zero, Nat.zero_add, Pl.execs, Pl.exec, Pl.evalT, Pl.evalE, Pl.evalVs, Pl.evalP, Pl.evalI, Pl.evalJ, List.getElem?_cons_zero, List.getElem?_cons_succ, Pl.Res.bind_ok, Pl.Res.bind_exc, Pl.Res.bind_stuck, Pl.Res.to_ok, Pl.Res.to_exc, Pl.Res.to_stuck, Pl.Res.calm_ok, Pl.SR.andThen_next, Pl.SR.andThen_ret, Pl.SR.andThen_brk, Pl.SR.andThen_cont, Pl.SR.andThen_exc, Pl.SR.andThen_stuck, Pl.gcE_self, Pl.gcX_self, Pl.optR_some, Pl.optR_none, Pl.EV.val_d, Pl.EV.val_own, Pl.EV.items_own, Pl.EV.items_brw, Pl.EV.items_lst, if_true, if_false, reduceIte, Bool.false_eq_true, Bool.not_true, Bool.not_false, List.set_cons_zero, List.set_cons_succ, Pl.wipeE, List.map_cons, List.map_nil, Pl.setE, Pl.bindT, Pl.bindNames, Nat.zero_lt_succ, Nat.succ_lt_succ_iff, Nat.lt_add_one, Pl.tru_bl, Pl.tru_int, Pl.its_tup, Pl.its_lst, Pl.its_own, Pl.its_brw, Pl.its_str, Pl.enum_tup, Pl.eq_int, Pl.ne_int, Pl.lt_int, Pl.le_int, Pl.gt_int, Pl.ge_int, Pl.add_int, Pl.sub_int, Pl.len_tup, Pl.len_own, Pl.len_brw, Pl.len_lst, Pl.idx_tup, Pl.idx_lst, Pl.idx_own, Pl.idx_brw, Pl.in_dic, Pl.nin_dic, Pl.idx_dic, Pl.is_non, Pl.isn_non, Pl.at_zero, Pl.at_one, sizeLine_eq, Nat.reduceAdd, Nat.reduceLeDiff, show ¬ ((0 : Int) < 0) from by decide, decide_false, h]
  obtain rfl | rfl | h2 : r = 0 ∨ r = 1 ∨ (r = 2 ∨ r = 3) := by omega
  · simp only [Pl.runFn, List.length_cons, List.length_nil, Pl.startE_cons, Pl.startE_nil, Pl.repl_succ, List.replicate_zero, Nat.zero_add, Pl.execs, Pl.exec, Pl.evalT, Pl.evalE, Pl.evalVs, Pl.evalP, Pl.evalI, Pl.evalJ, List.getElem?_cons_zero, List.getElem?_cons_succ, Pl.Res.bind_ok, Pl.Res.bind_exc, Pl.Res.bind_stuck, Pl.Res.to_ok, Pl.Res.to_exc, Pl.Res.to_stuck, Pl.Res.calm_ok, Pl.SR.andThen_next, Pl.SR.andThen_ret, Pl.SR.andThen_brk, Pl.SR.andThen_cont, Pl.SR.andThen_exc, Pl.SR.andThen_stuck, Pl.gcE_self, Pl.gcX_self, Pl.optR_some, Pl.optR_none, Pl.EV.val_d, Pl.EV.val_own, Pl.EV.items_own, Pl.EV.items_brw, Pl.EV.items_lst, if_true, if_false, reduceIte, Bool.false_eq_true, Bool.not_true, Bool.not_false, List.set_cons_zero, List.set_cons_succ, Pl.wipeE, List.map_cons, List.map_nil, Pl.setE, Pl.bindT, Pl.bindNames, Nat.zero_lt_succ, Nat.succ_lt_succ_iff, Nat.lt_add_one, Pl.tru_bl, Pl.tru_int, Pl.its_tup, Pl.its_lst, Pl.its_own, Pl.its_brw, Pl.its_str, Pl.enum_tup, Pl.eq_int, Pl.ne_int, Pl.lt_int, Pl.le_int, Pl.gt_int, Pl.ge_int, Pl.add_int, Pl.sub_int, Pl.len_tup, Pl.len_own, Pl.len_brw, Pl.len_lst, Pl.idx_tup, Pl.idx_lst, Pl.idx_own, Pl.idx_brw, Pl.in_dic, Pl.nin_dic, Pl.idx_dic, Pl.is_non, Pl.isn_non, Pl.at_zero, Pl.at_one, sizeLine_eq, Nat.reduceAdd, Nat.reduceLeDiff, decide_true]
    exact ⟨_, S1, gcE_len _ hl, hB, by decide +kernel⟩
  · simp only [Pl.runFn, List.length_cons, List.length_nil, Pl.startE_cons, Pl.startE_nil, Pl.repl_succ, List.replicate_zero, Nat.zero_add, Pl.execs, Pl.exec, Pl.evalT, Pl.evalE, Pl.evalVs, Pl.evalP, Pl.evalI, Pl.evalJ, List.getElem?_cons_zero, List.getElem?_cons_succ, Pl.Res.bind_ok, Pl.Res.bind_exc, Pl.Res.bind_stuck, Pl.Res.to_ok, Pl.Res.to_exc, Pl.Res.to_stuck, Pl.Res.calm_ok, Pl.SR.andThen_next, Pl.SR.andThen_ret, Pl.SR.andThen_brk, Pl.SR.andThen_cont, Pl.SR.andThen_exc, Pl.SR.andThen_stuck, Pl.gcE_self, Pl.gcX_self, Pl.optR_some, Pl.optR_none, Pl.EV.val_d, Pl.EV.val_own, Pl.EV.items_own, Pl.EV.items_brw, Pl.EV.items_lst, if_true, if_false, reduceIte, Bool.false_eq_true, Bool.not_true, Bool.not_false, List.set_cons_zero, List.set_cons_succ, Pl.wipeE, List.map_cons, List.map_nil, Pl.setE, Pl.bindT, Pl.bindNames, Nat.zero_lt_succ, Nat.succ_lt_succ_iff, Nat.lt_add_one, Pl.tru_bl, Pl.tru_int, Pl.its_tup, Pl.its_lst, Pl.its_own, Pl.its_brw, Pl.its_str, Pl.enum_tup, Pl.eq_int, Pl.ne_int, Pl.lt_int, Pl.le_int, Pl.gt_int, Pl.ge_int, Pl.add_int, Pl.sub_int, Pl.len_tup, Pl.len_own, Pl.len_brw, Pl.len_lst, Pl.idx_tup, Pl.idx_lst, Pl.idx_own, Pl.idx_brw, Pl.in_dic, Pl.nin_dic, Pl.idx_dic, Pl.is_non, Pl.isn_non, Pl.at_zero, Pl.at_one, sizeLine_eq, Nat.reduceAdd, Nat.reduceLeDiff, show ¬ ((1 : Int) = 0) from by decide, decide_true, decide_false]
    exact ⟨_, S1, gcE_len _ hl, hB, by decide +kernel⟩
  · obtain ⟨q, S2, h', hB', q0, q1⟩ := s_law_draw (k + 1) (many := 2) (by decide) (by decide) hB
    have hl2 := BS_len hS hB'
    have n0 : ¬ r = 0 := by omega
    have n1 : ¬ r = 1 := by omega
    have n4 : r < 4 := by omega
    simp only [Pl.runFn, List.length_cons, List.length_nil, Pl.startE_cons, Pl.startE_nil, Pl.repl_succ, List.replicate_zero, Nat.zero_add, Pl.execs, Pl.exec, Pl.evalT, Pl.evalE, Pl.evalVs, Pl.evalP, Pl.evalI, Pl.evalJ, List.getElem?_cons_zero, List.getElem?_cons_succ, Pl.Res.bind_ok, Pl.Res.bind_exc, Pl.Res.bind_stuck, Pl.Res.to_ok, Pl.Res.to_exc, Pl.Res.to_stuck, Pl.Res.calm_ok, Pl.SR.andThen_next, Pl.SR.andThen_ret, Pl.SR.andThen_brk, Pl.SR.andThen_cont, Pl.SR.andThen_exc, Pl.SR.andThen_stuck, Pl.gcE_self, Pl.gcX_self, Pl.optR_some, Pl.optR_none, Pl.EV.val_d, Pl.EV.val_own, Pl.EV.items_own, Pl.EV.items_brw, Pl.EV.items_lst, if_true, if_false, reduceIte, Bool.false_eq_true, Bool.not_true, Bool.not_false, List.set_cons_zero, List.set_cons_succ, Pl.wipeE, List.map_cons, List.map_nil, Pl.setE, Pl.bindT, Pl.bindNames, Nat.zero_lt_succ, Nat.succ_lt_succ_iff, Nat.lt_add_one, Pl.tru_bl, Pl.tru_int, Pl.its_tup, Pl.its_lst, Pl.its_own, Pl.its_brw, Pl.its_str, Pl.enum_tup, Pl.eq_int, Pl.ne_int, Pl.lt_int, Pl.le_int, Pl.gt_int, Pl.ge_int, Pl.add_int, Pl.sub_int, Pl.len_tup, Pl.len_own, Pl.len_brw, Pl.len_lst, Pl.idx_tup, Pl.idx_lst, Pl.idx_own, Pl.idx_brw, Pl.in_dic, Pl.nin_dic, Pl.idx_dic, Pl.is_non, Pl.isn_non, Pl.at_zero, Pl.at_one, sizeLine_eq, Nat.reduceAdd, Nat.reduceLeDiff, n0, n1, n4, decide_true, decide_false, h']
    obtain rfl | rfl : q = 0 ∨ q = 1 := by omega
    · rw [show sliceV S2 (.d (.tup [.int 1, .int (2 + r)])) none (some (1 + 0)) = some (.d (.tup [.int 1])) from rfl]
      simp only [Pl.runFn, List.length_cons, List.length_nil, Pl.startE_cons, Pl.startE_nil, Pl.repl_succ, List.replicate_zero, Nat.zero_add, Pl.execs, Pl.exec, Pl.evalT, Pl.evalE, Pl.evalVs, Pl.evalP, Pl.evalI, Pl.evalJ, List.getElem?_cons_zero, List.getElem?_cons_succ, Pl.Res.bind_ok, Pl.Res.bind_exc, Pl.Res.bind_stuck, Pl.Res.to_ok, Pl.Res.to_exc, Pl.Res.to_stuck, Pl.Res.calm_ok, Pl.SR.andThen_next, Pl.SR.andThen_ret, Pl.SR.andThen_brk, Pl.SR.andThen_cont, Pl.SR.andThen_exc, Pl.SR.andThen_stuck, Pl.gcE_self, Pl.gcX_self, Pl.optR_some, Pl.optR_none, Pl.EV.val_d, Pl.EV.val_own, Pl.EV.items_own, Pl.EV.items_brw, Pl.EV.items_lst, if_true, if_false, reduceIte, Bool.false_eq_true, Bool.not_true, Bool.not_false, List.set_cons_zero, List.set_cons_succ, Pl.wipeE, List.map_cons, List.map_nil, Pl.setE, Pl.bindT, Pl.bindNames, Nat.zero_lt_succ, Nat.succ_lt_succ_iff, Nat.lt_add_one, Pl.tru_bl, Pl.tru_int, Pl.its_tup, Pl.its_lst, Pl.its_own, Pl.its_brw, Pl.its_str, Pl.enum_tup, Pl.eq_int, Pl.ne_int, Pl.lt_int, Pl.le_int, Pl.gt_int, Pl.ge_int, Pl.add_int, Pl.sub_int, Pl.len_tup, Pl.len_own, Pl.len_brw, Pl.len_lst, Pl.idx_tup, Pl.idx_lst, Pl.idx_own, Pl.idx_brw, Pl.in_dic, Pl.nin_dic, Pl.idx_dic, Pl.is_non, Pl.isn_non, Pl.at_zero, Pl.at_one, sizeLine_eq, Nat.reduceAdd, Nat.reduceLeDiff]
      exact ⟨_, S2, gcE_len _ hl2, hB', by decide +kernel⟩
    · rw [show sliceV S2 (.d (.tup [.int 1, .int (2 + r)])) none (some (1 + 1)) = some (.d (.tup [.int 1, .int (2 + r)])) from rfl]
      simp only [Pl.runFn, List.length_cons, List.length_nil, Pl.startE_cons, Pl.startE_nil, Pl.repl_succ, List.replicate_zero, Nat.zero_add, Pl.execs, Pl.exec, Pl.evalT, Pl.evalE, Pl.evalVs, Pl.evalP, Pl.evalI, Pl.evalJ, List.getElem?_cons_zero, List.getElem?_cons_succ, Pl.Res.bind_ok, Pl.Res.bind_exc, Pl.Res.bind_stuck, Pl.Res.to_ok, Pl.Res.to_exc, Pl.Res.to_stuck, Pl.Res.calm_ok, Pl.SR.andThen_next, Pl.SR.andThen_ret, Pl.SR.andThen_brk, Pl.SR.andThen_cont, Pl.SR.andThen_exc, Pl.SR.andThen_stuck, Pl.gcE_self, Pl.gcX_self, Pl.optR_some, Pl.optR_none, Pl.EV.val_d, Pl.EV.val_own, Pl.EV.items_own, Pl.EV.items_brw, Pl.EV.items_lst, if_true, if_false, reduceIte, Bool.false_eq_true, Bool.not_true, Bool.not_false, List.set_cons_zero, List.set_cons_succ, Pl.wipeE, List.map_cons, List.map_nil, Pl.setE, Pl.bindT, Pl.bindNames, Nat.zero_lt_succ, Nat.succ_lt_succ_iff, Nat.lt_add_one, Pl.tru_bl, Pl.tru_int, Pl.its_tup, Pl.its_lst, Pl.its_own, Pl.its_brw, Pl.its_str, Pl.enum_tup, Pl.eq_int, Pl.ne_int, Pl.lt_int, Pl.le_int, Pl.gt_int, Pl.ge_int, Pl.add_int, Pl.sub_int, Pl.len_tup, Pl.len_own, Pl.len_brw, Pl.len_lst, Pl.idx_tup, Pl.idx_lst, Pl.idx_own, Pl.idx_brw, Pl.in_dic, Pl.nin_dic, Pl.idx_dic, Pl.is_non, Pl.isn_non, Pl.at_zero, Pl.at_one, sizeLine_eq, Nat.reduceAdd, Nat.reduceLeDiff]
      refine ⟨_, S2, gcE_len _ hl2, hB', ?_⟩
      rcases h2 with rfl | rfl <;> decide +kernel
theorem idx3 (w1 w2 w3 : Str) (r : Int) (h0 : 4 ≤ r) (h1 : r < 7) : ∃ w, atI [D.str w1, D.str w2, D.str w3] (r - 4) = some (.str w) ∧ w ∈ [w1, w2, w3] := by
  obtain rfl | rfl | rfl : r = 4 ∨ r = 5 ∨ r = 6 := by omega
  · exact ⟨w1, rfl, by simp⟩
  · exact ⟨w2, rfl, by simp⟩
  · exact ⟨w3, rfl, by simp⟩
theorem s_law_kind1 (k : Nat) {S : Sto} (hS : BS S) : ∃ v S', R (k + 4) "_law_kind" [.ref 0, .int 1] S = .ok (.d v) S' ∧ BS S' ∧ v ∈ k1L := by
  obtain ⟨r, S1, h, hB, r0, r1⟩ := s_law_draw (k + 2) (many := 9) (by decide) (by decide) hS
  have hl := BS_len hS hB
  rw [show k + 4 = (k + 3) + 1 from rfl, R_law_kind]
  unfold n_law_kind
  simp only [Pl.runFn, List.length_cons, List.length_nil, Pl.startE_cons, Pl.startE_nil, Pl.repl_succ, List.replicate_zero, Nat.zero_add, Pl.execs, Pl.exec, Pl.evalT, Pl.evalE, Pl.evalVs, Pl.evalP, Pl.evalI, Pl.evalJ, List.getElem?_cons_zero, List.getElem?_cons_succ, Pl.Res.bind_ok, Pl.Res.bind_exc, Pl.Res.bind_stuck, Pl.Res.to_ok, Pl.Res.to_exc, Pl.Res.to_stuck, Pl.Res.calm_ok, Pl.SR.andThen_next, Pl.SR.andThen_ret, Pl.SR.andThen_brk, Pl.SR.andThen_cont, Pl.SR.andThen_exc, Pl.SR.andThen_stuck, Pl.gcE_self, Pl.gcX_self, Pl.optR_some, Pl.optR_none, Pl.EV.val_d, Pl.EV.val_own, Pl.EV.items_own, Pl.EV.items_brw, Pl.EV.items_lst, if_true, if_false, reduceIte, Bool.false_eq_true, Bool.not_true, Bool.not_false, List.set_cons_zero, List.set_cons_succ, Pl.wipeE, List.map_cons, List.map_nil, Pl.setE, Pl.bindT, Pl.bindNames, Nat.zero_lt_succ, Nat.succ_lt_succ_iff, Nat.lt_add_one, Pl.tru_bl, Pl.tru_int, Pl.its_tup, Pl.its_lst, Pl.its_own, Pl.its_brw, Pl.its_str, Pl.enum_tup, Pl.eq_int, Pl.ne_int, Pl.lt_int, Pl.le_int, Pl.gt_int, Pl.ge_int, Pl.add_int, Pl.sub_int, Pl.len_tup, Pl.len_own, Pl.len_brw, Pl.len_lst, Pl.idx_tup, Pl.idx_lst, Pl.idx_own, Pl.idx_brw, Pl.in_dic, Pl.nin_dic, Pl.idx_dic, Pl.is_non, Pl.isn_non, Pl.at_zero, Pl.at_one, sizeLine_eq, Nat.reduceAdd, Nat.reduceLeDiff, show ((0 : Int) < 1) from by decide, decide_true, h]
  by_cases c4 : r < 4
  · obtain rfl | rfl | h2 : r = 0 ∨ r = 1 ∨ (r = 2 ∨ r = 3) := by omega
    · simp only [Pl.runFn, List.length_cons, List.length_nil, Pl.startE_cons, Pl.startE_nil, Pl.repl_succ, List.replicate_zero, Nat.zero_add, Pl.execs, Pl.exec, Pl.evalT, Pl.evalE, Pl.evalVs, Pl.evalP, Pl.evalI, Pl.evalJ, List.getElem?_cons_zero, List.getElem?_cons_succ, Pl.Res.bind_ok, Pl.Res.bind_exc, Pl.Res.bind_stuck, Pl.Res.to_ok, Pl.Res.to_exc, Pl.Res.to_stuck, Pl.Res.calm_ok, Pl.SR.andThen_next, Pl.SR.andThen_ret, Pl.SR.andThen_brk, Pl.SR.andThen_cont, Pl.SR.andThen_exc, Pl.SR.andThen_stuck, Pl.gcE_self, Pl.gcX_self, Pl.optR_some, Pl.optR_none, Pl.EV.val_d, Pl.EV.val_own, Pl.EV.items_own, Pl.EV.items_brw, Pl.EV.items_lst, if_true, if_false, reduceIte, Bool.false_eq_true, Bool.not_true, Bool.not_false, List.set_cons_zero, List.set_cons_succ, Pl.wipeE, List.map_cons, List.map_nil, Pl.setE, Pl.bindT, Pl.bindNames, Nat.zero_lt_succ, Nat.succ_lt_succ_iff, Nat.lt_add_one, Pl.tru_bl, Pl.tru_int, Pl.its_tup, Pl.its_lst, Pl.its_own, Pl.its_brw, Pl.its_str, Pl.enum_tup, Pl.eq_int, Pl.ne_int, Pl.lt_int, Pl.le_int, Pl.gt_int, Pl.ge_int, Pl.add_int, Pl.sub_int, Pl.len_tup, Pl.len_own, Pl.len_brw, Pl.len_lst, Pl.idx_tup, Pl.idx_lst, Pl.idx_own, Pl.idx_brw, Pl.in_dic, Pl.nin_dic, Pl.idx_dic, Pl.is_non, Pl.isn_non, Pl.at_zero, Pl.at_one, sizeLine_eq, Nat.reduceAdd, Nat.reduceLeDiff, decide_true]
      exact ⟨_, S1, gcE_len _ hl, hB, by decide +kernel⟩
    · simp only [Pl.runFn, List.length_cons, List.length_nil, Pl.startE_cons, Pl.startE_nil, Pl.repl_succ, List.replicate_zero, Nat.zero_add, Pl.execs, Pl.exec, Pl.evalT, Pl.evalE, Pl.evalVs, Pl.evalP, Pl.evalI, Pl.evalJ, List.getElem?_cons_zero, List.getElem?_cons_succ, Pl.Res.bind_ok, Pl.Res.bind_exc, Pl.Res.bind_stuck, Pl.Res.to_ok, Pl.Res.to_exc, Pl.Res.to_stuck, Pl.Res.calm_ok, Pl.SR.andThen_next, Pl.SR.andThen_ret, Pl.SR.andThen_brk, Pl.SR.andThen_cont, Pl.SR.andThen_exc, Pl.SR.andThen_stuck, Pl.gcE_self, Pl.gcX_self, Pl.optR_some, Pl.optR_none, Pl.EV.val_d, Pl.EV.val_own, Pl.EV.items_own, Pl.EV.items_brw, Pl.EV.items_lst, if_true, if_false, reduceIte, Bool.false_eq_true, Bool.not_true, Bool.not_false, List.set_cons_zero, List.set_cons_succ, Pl.wipeE, List.map_cons, List.map_nil, Pl.setE, Pl.bindT, Pl.bindNames, Nat.zero_lt_succ, Nat.succ_lt_succ_iff, Nat.lt_add_one, Pl.tru_bl, Pl.tru_int, Pl.its_tup, Pl.its_lst, Pl.its_own, Pl.its_brw, Pl.its_str, Pl.enum_tup, Pl.eq_int, Pl.ne_int, Pl.lt_int, Pl.le_int, Pl.gt_int, Pl.ge_int, Pl.add_int, Pl.sub_int, Pl.len_tup, Pl.len_own, Pl.len_brw, Pl.len_lst, Pl.idx_tup, Pl.idx_lst, Pl.idx_own, Pl.idx_brw, Pl.in_dic, Pl.nin_dic, Pl.idx_dic, Pl.is_non, Pl.isn_non, Pl.at_zero, Pl.at_one, sizeLine_eq, Nat.reduceAdd, Nat.reduceLeDiff, show ¬ ((1 : Int) = 0) from by decide, decide_true, decide_false]
      exact ⟨_, S1, gcE_len _ hl, hB, by decide +kernel⟩
    · obtain ⟨q, S2, h', hB', q0, q1⟩ := s_law_draw (k + 2) (many := 2) (by decide) (by decide) hB
      have hl2 := BS_len hS hB'
      have n0 : ¬ r = 0 := by omega
      have n1 : ¬ r = 1 := by omega
      simp only [Pl.runFn, List.length_cons, List.length_nil, Pl.startE_cons, Pl.startE_nil, Pl.repl_succ, List.replicate_zero, Nat.zero_add, Pl.execs, Pl.exec, Pl.evalT, Pl.evalE, Pl.evalVs, Pl.evalP, Pl.evalI, Pl.evalJ, List.getElem?_cons_zero, List.getElem?_cons_succ, Pl.Res.bind_ok, Pl.Res.bind_exc, Pl.Res.bind_stuck, Pl.Res.to_ok, Pl.Res.to_exc, Pl.Res.to_stuck, Pl.Res.calm_ok, Pl.SR.andThen_next, Pl.SR.andThen_ret, Pl.SR.andThen_brk, Pl.SR.andThen_cont, Pl.SR.andThen_exc, Pl.SR.andThen_stuck, Pl.gcE_self, Pl.gcX_self, Pl.optR_some, Pl.optR_none, Pl.EV.val_d, Pl.EV.val_own, Pl.EV.items_own, Pl.EV.items_brw, Pl.EV.items_lst, if_true, if_false, reduceIte, Bool.false_eq_true, Bool.not_true, Bool.not_false, List.set_cons_zero, List.set_cons_succ, Pl.wipeE, List.map_cons, List.map_nil, Pl.setE, Pl.bindT, Pl.bindNames, Nat.zero_lt_succ, Nat.succ_lt_succ_iff, Nat.lt_add_one, Pl.tru_bl, Pl.tru_int, Pl.its_tup, Pl.its_lst, Pl.its_own, Pl.its_brw, Pl.its_str, Pl.enum_tup, Pl.eq_int, Pl.ne_int, Pl.lt_int, Pl.le_int, Pl.gt_int, Pl.ge_int, Pl.add_int, Pl.sub_int, Pl.len_tup, Pl.len_own, Pl.len_brw, Pl.len_lst, Pl.idx_tup, Pl.idx_lst, Pl.idx_own, Pl.idx_brw, Pl.in_dic, Pl.nin_dic, Pl.idx_dic, Pl.is_non, Pl.isn_non, Pl.at_zero, Pl.at_one, sizeLine_eq, Nat.reduceAdd, Nat.reduceLeDiff, n0, n1, c4, decide_true, decide_false, h']
      obtain rfl | rfl : q = 0 ∨ q = 1 := by omega
      · rw [show sliceV S2 (.d (.tup [.int 1, .int (2 + r)])) none (some (1 + 0)) = some (.d (.tup [.int 1])) from rfl]
        simp only [Pl.runFn, List.length_cons, List.length_nil, Pl.startE_cons, Pl.startE_nil, Pl.repl_succ, List.replicate_zero, Nat.zero_add, Pl.execs, Pl.exec, Pl.evalT, Pl.evalE, Pl.evalVs, Pl.evalP, Pl.evalI, Pl.evalJ, List.getElem?_cons_zero, List.getElem?_cons_succ, Pl.Res.bind_ok, Pl.Res.bind_exc, Pl.Res.bind_stuck, Pl.Res.to_ok, Pl.Res.to_exc, Pl.Res.to_stuck, Pl.Res.calm_ok, Pl.SR.andThen_next, Pl.SR.andThen_ret, Pl.SR.andThen_brk, Pl.SR.andThen_cont, Pl.SR.andThen_exc, Pl.SR.andThen_stuck, Pl.gcE_self, Pl.gcX_self, Pl.optR_some, Pl.optR_none, Pl.EV.val_d, Pl.EV.val_own, Pl.EV.items_own, Pl.EV.items_brw, Pl.EV.items_lst, if_true, if_false, reduceIte, Bool.false_eq_true, Bool.not_true, Bool.not_false, List.set_cons_zero, List.set_cons_succ, Pl.wipeE, List.map_cons, List.map_nil, Pl.setE, Pl.bindT, Pl.bindNames, Nat.zero_lt_succ, Nat.succ_lt_succ_iff, Nat.lt_add_one, Pl.tru_bl, Pl.tru_int, Pl.its_tup, Pl.its_lst, Pl.its_own, Pl.its_brw, Pl.its_str, Pl.enum_tup, Pl.eq_int, Pl.ne_int, Pl.lt_int, Pl.le_int, Pl.gt_int, Pl.ge_int, Pl.add_int, Pl.sub_int, Pl.len_tup, Pl.len_own, Pl.len_brw, Pl.len_lst, Pl.idx_tup, Pl.idx_lst, Pl.idx_own, Pl.idx_brw, Pl.in_dic, Pl.nin_dic, Pl.idx_dic, Pl.is_non, Pl.isn_non, Pl.at_zero, Pl.at_one, sizeLine_eq, Nat.reduceAdd, Nat.reduceLeDiff]
        exact ⟨_, S2, gcE_len _ hl2, hB', by decide +kernel⟩
      · rw [show sliceV S2 (.d (.tup [.int 1, .int (2 + r)])) none (some (1 + 1)) = some (.d (.tup [.int 1, .int (2 + r)])) from rfl]
        simp only [Pl.runFn, List.length_cons, List.length_nil, Pl.startE_cons, Pl.startE_nil, Pl.repl_succ, List.replicate_zero, Nat.zero_add, Pl.execs, Pl.exec, Pl.evalT, Pl.evalE, Pl.evalVs, Pl.evalP, Pl.evalI, Pl.evalJ, List.getElem?_cons_zero, List.getElem?_cons_succ, Pl.Res.bind_ok, Pl.Res.bind_exc, Pl.Res.bind_stuck, Pl.Res.to_ok, Pl.Res.to_exc, Pl.Res.to_stuck, Pl.Res.calm_ok, Pl.SR.andThen_next, Pl.SR.andThen_ret, Pl.SR.andThen_brk, Pl.SR.andThen_cont, Pl.SR.andThen_exc, Pl.SR.andThen_stuck, Pl.gcE_self, Pl.gcX_self, Pl.optR_some, Pl.optR_none, Pl.EV.val_d, Pl.EV.val_own, Pl.EV.items_own, Pl.EV.items_brw, Pl.EV.items_lst, if_true, if_false, reduceIte, Bool.false_eq_true, Bool.not_true, Bool.not_false, List.set_cons_zero, List.set_cons_succ, Pl.wipeE, List.map_cons, List.map_nil, Pl.setE, Pl.bindT, Pl.bindNames, Nat.zero_lt_succ, Nat.succ_lt_succ_iff, Nat.lt_add_one, Pl.tru_bl, Pl.tru_int, Pl.its_tup, Pl.its_lst, Pl.its_own, Pl.its_brw, Pl.its_str, Pl.enum_tup, Pl.eq_int, Pl.ne_int, Pl.lt_int, Pl.le_int, Pl.gt_int, Pl.ge_int, Pl.add_int, Pl.sub_int, Pl.len_tup, Pl.len_own, Pl.len_brw, Pl.len_lst, Pl.idx_tup, Pl.idx_lst, Pl.idx_own, Pl.idx_brw, Pl.in_dic, Pl.nin_dic, Pl.idx_dic, Pl.is_non, Pl.isn_non, Pl.at_zero, Pl.at_one, sizeLine_eq, Nat.reduceAdd, Nat.reduceLeDiff]
        refine ⟨_, S2, gcE_len _ hl2, hB', ?_⟩
        rcases h2 with rfl | rfl <;> decide +kernel
  · have n0 : ¬ r = 0 := by omega
    have n1 : ¬ r = 1 := by omega
    by_cases c7 : r < 7
    · obtain ⟨w, ew, hw⟩ := idx3 (Str.ofString "both") (Str.ofString "either") (Str.ofString "maps") r (by omega) c7
      obtain ⟨a, S2, ha, hB2, ma⟩ := s_law_kind0 k hB
      obtain ⟨b, S3, hb, hB3, mb⟩ := s_law_kind0 k hB2
      simp only [Pl.runFn, List.length_cons, List.length_nil, Pl.startE_cons, Pl.startE_nil, Pl.repl_succ, List.replicate_zero, Nat.zero_add, Pl.execs, Pl.exec, Pl.evalT, Pl.evalE, Pl.evalVs, Pl.evalP, Pl.evalI, Pl.evalJ, List.getElem?_cons_zero, List.getElem?_cons_succ, Pl.Res.bind_ok, Pl.Res.bind_exc, Pl.Res.bind_stuck, Pl.Res.to_ok, Pl.Res.to_exc, Pl.Res.to_stuck, Pl.Res.calm_ok, Pl.SR.andThen_next, Pl.SR.andThen_ret, Pl.SR.andThen_brk, Pl.SR.andThen_cont, Pl.SR.andThen_exc, Pl.SR.andThen_stuck, Pl.gcE_self, Pl.gcX_self, Pl.optR_some, Pl.optR_none, Pl.EV.val_d, Pl.EV.val_own, Pl.EV.items_own, Pl.EV.items_brw, Pl.EV.items_lst, if_true, if_false, reduceIte, Bool.false_eq_true, Bool.not_true, Bool.not_false, List.set_cons_zero, List.set_cons_succ, Pl.wipeE, List.map_cons, List.map_nil, Pl.setE, Pl.bindT, Pl.bindNames, Nat.zero_lt_succ, Nat.succ_lt_succ_iff, Nat.lt_add_one, Pl.tru_bl, Pl.tru_int, Pl.its_tup, Pl.its_lst, Pl.its_own, Pl.its_brw, Pl.its_str, Pl.enum_tup, Pl.eq_int, Pl.ne_int, Pl.lt_int, Pl.le_int, Pl.gt_int, Pl.ge_int, Pl.add_int, Pl.sub_int, Pl.len_tup, Pl.len_own, Pl.len_brw, Pl.len_lst, Pl.idx_tup, Pl.idx_lst, Pl.idx_own, Pl.idx_brw, Pl.in_dic, Pl.nin_dic, Pl.idx_dic, Pl.is_non, Pl.isn_non, Pl.at_zero, Pl.at_one, sizeLine_eq, Nat.reduceAdd, Nat.reduceLeDiff, n0, n1, c4, c7, decide_true, decide_false, ew, show (1 : Int) - 1 = 0 from rfl, ha, hb]
      refine ⟨_, S3, gcE_len _ (BS_len hS hB3), hB3, ?_⟩
      refine List.mem_append_left _ (List.mem_append_left _ (List.mem_append_right _ ?_))
      exact List.mem_flatMap.mpr ⟨w, hw, List.mem_flatMap.mpr ⟨a, ma, List.mem_map.mpr ⟨b, mb, rfl⟩⟩⟩
    · by_cases c8 : r = 7
      · obtain ⟨a, S2, ha, hB2, ma⟩ := s_law_kind0 k hB
        simp only [Pl.runFn, List.length_cons, List.length_nil, Pl.startE_cons, Pl.startE_nil, Pl.repl_succ, List.replicate_zero, Nat.zero_add, Pl.execs, Pl.exec, Pl.evalT, Pl.evalE, Pl.evalVs, Pl.evalP, Pl.evalI, Pl.evalJ, List.getElem?_cons_zero, List.getElem?_cons_succ, Pl.Res.bind_ok, Pl.Res.bind_exc, Pl.Res.bind_stuck, Pl.Res.to_ok, Pl.Res.to_exc, Pl.Res.to_stuck, Pl.Res.calm_ok, Pl.SR.andThen_next, Pl.SR.andThen_ret, Pl.SR.andThen_brk, Pl.SR.andThen_cont, Pl.SR.andThen_exc, Pl.SR.andThen_stuck, Pl.gcE_self, Pl.gcX_self, Pl.optR_some, Pl.optR_none, Pl.EV.val_d, Pl.EV.val_own, Pl.EV.items_own, Pl.EV.items_brw, Pl.EV.items_lst, if_true, if_false, reduceIte, Bool.false_eq_true, Bool.not_true, Bool.not_false, List.set_cons_zero, List.set_cons_succ, Pl.wipeE, List.map_cons, List.map_nil, Pl.setE, Pl.bindT, Pl.bindNames, Nat.zero_lt_succ, Nat.succ_lt_succ_iff, Nat.lt_add_one, Pl.tru_bl, Pl.tru_int, Pl.its_tup, Pl.its_lst, Pl.its_own, Pl.its_brw, Pl.its_str, Pl.enum_tup, Pl.eq_int, Pl.ne_int, Pl.lt_int, Pl.le_int, Pl.gt_int, Pl.ge_int, Pl.add_int, Pl.sub_int, Pl.len_tup, Pl.len_own, Pl.len_brw, Pl.len_lst, Pl.idx_tup, Pl.idx_lst, Pl.idx_own, Pl.idx_brw, Pl.in_dic, Pl.nin_dic, Pl.idx_dic, Pl.is_non, Pl.isn_non, Pl.at_zero, Pl.at_one, sizeLine_eq, Nat.reduceAdd, Nat.reduceLeDiff, n0, n1, c4, c7, c8, decide_true, decide_false, show (1 : Int) - 1 = 0 from rfl, ha, show ¬ ((7 : Int) = 0) from by decide, show ¬ ((7 : Int) = 1) from by decide, show ¬ ((7 : Int) < 4) from by decide, show ¬ ((7 : Int) < 7) from by decide]
        refine ⟨_, S2, gcE_len _ (BS_len hS hB2), hB2, ?_⟩
        exact List.mem_append_left _ (List.mem_append_right _ (List.mem_map.mpr ⟨a, ma, rfl⟩))
      · obtain ⟨z, S2, hz, hB2, mz⟩ := s_law_name (k + 1) hB
        obtain ⟨a, S3, ha, hB3, ma⟩ := s_law_kind0 k hB2
        obtain ⟨y, S4, hy, hB4, my⟩ := s_law_name (k + 1) hB3
        simp only [Pl.runFn, List.length_cons, List.length_nil, Pl.startE_cons, Pl.startE_nil, Pl.repl_succ, List.replicate_zero, Nat.zero_add, Pl.execs, Pl.exec, Pl.evalT, Pl.evalE, Pl.evalVs, Pl.evalP, Pl.evalI, Pl.evalJ, List.getElem?_cons_zero, List.getElem?_cons_succ, Pl.Res.bind_ok, Pl.Res.bind_exc, Pl.Res.bind_stuck, Pl.Res.to_ok, Pl.Res.to_exc, Pl.Res.to_stuck, Pl.Res.calm_ok, Pl.SR.andThen_next, Pl.SR.andThen_ret, Pl.SR.andThen_brk, Pl.SR.andThen_cont, Pl.SR.andThen_exc, Pl.SR.andThen_stuck, Pl.gcE_self, Pl.gcX_self, Pl.optR_some, Pl.optR_none, Pl.EV.val_d, Pl.EV.val_own, Pl.EV.items_own, Pl.EV.items_brw, Pl.EV.items_lst, if_true, if_false, reduceIte, Bool.false_eq_true, Bool.not_true, Bool.not_false, List.set_cons_zero, List.set_cons_succ, Pl.wipeE, List.map_cons, List.map_nil, Pl.setE, Pl.bindT, Pl.bindNames, Nat.zero_lt_succ, Nat.succ_lt_succ_iff, Nat.lt_add_one, Pl.tru_bl, Pl.tru_int, Pl.its_tup, Pl.its_lst, Pl.its_own, Pl.its_brw, Pl.its_str, Pl.enum_tup, Pl.eq_int, Pl.ne_int, Pl.lt_int, Pl.le_int, Pl.gt_int, Pl.ge_int, Pl.add_int, Pl.sub_int, Pl.len_tup, Pl.len_own, Pl.len_brw, Pl.len_lst, Pl.idx_tup, Pl.idx_lst, Pl.idx_own, Pl.idx_brw, Pl.in_dic, Pl.nin_dic, Pl.idx_dic, Pl.is_non, Pl.isn_non, Pl.at_zero, Pl.at_one, sizeLine_eq, Nat.reduceAdd, Nat.reduceLeDiff, n0, n1, c4, c7, c8, decide_true, decide_false, hz, show (1 : Int) - 1 = 0 from rfl, ha, hy]
        refine ⟨_, S4, gcE_len _ (BS_len hS hB4), hB4, ?_⟩
        refine List.mem_append_right _ (List.mem_flatMap.mpr ⟨z, mz, List.mem_flatMap.mpr ⟨a, ma, List.mem_map.mpr ⟨y, my, rfl⟩⟩⟩)
end K20
end

section
set_option Elab.async false
set_option linter.all false
set_option maxRecDepth 100000
/-! k20: measures, and that repr answers. -/
namespace K20
open PySem hiding exec execs
open L2 Pl
def words1 : List Str := ["told", "one", "truth", "both", "either", "maps", "sets", "part", "name", "star", "fixed", "call", "pair", "first"]
def words2 : List Str := ["second", "left", "right", "cases", "fun", "app", "set", "when", "into", "out", "the", "true", "false", "so"]
def words3 : List Str := ["equal", "in", "and", "or", "if", "not", "near", "all", "some", "refused", "form", "wrong"]
def wordsL : List Str := nmL ++ words1 ++ words2 ++ words3
mutual
def gw : D → Bool
  | .int i => decide (0 ≤ i) && decide (i ≤ 9)
  | .str z => wordsL.contains z
  | .tup xs => gws xs
  | _ => false
def gws : List D → Bool
  | [] => true
  | x :: xs => gw x && gws xs
end
mutual
def sz : D → Nat
  | .tup xs => szs xs + 3
  | _ => 30
def szs : List D → Nat
  | [] => 0
  | x :: xs => sz x + 2 + szs xs
end
mutual
def nml : D → Nat
  | .tup xs => if xs.head? = some (.str "name") then 1 else nmls xs
  | _ => 0
def nmls : List D → Nat
  | [] => 0
  | x :: xs => nml x + nmls xs
end
theorem words_ok : (wordsL.all fun z => decide ((reprText z).length ≤ 30) && (PyData.strOk z && PyData.strOk (reprText z)) && decide (z.length ≤ 20)) = true := by decide +kernel
theorem ints_ok : ((List.range 10).all fun (i : Nat) => decide ((PyData.shown (.int (i : Int))).length ≤ 30) && PyData.strOk (PyData.shown (.int (i : Int))) && PyData.showable (.int (i : Int))) = true := by decide +kernel
theorem words_at {z : Str} (h : wordsL.contains z = true) : (reprText z).length ≤ 30 ∧ okZ z ∧ z.length ≤ 20 ∧ okZ (reprText z) := by
  have := List.all_eq_true.mp words_ok z (List.contains_iff_mem.mp h)
  simp only [Bool.and_eq_true, decide_eq_true_eq] at this
  exact ⟨this.1.1, this.1.2.1, this.2, this.1.2.2⟩
theorem ints_at {i : Int} (h0 : 0 ≤ i) (h1 : i ≤ 9) : ((PyData.shown (.int i)).length ≤ 30 ∧ okZ (PyData.shown (.int i))) ∧ PyData.showable (.int i) = true := by
  have := List.all_eq_true.mp ints_ok i.toNat (List.mem_range.mpr (by omega))
  simp only [Bool.and_eq_true, decide_eq_true_eq] at this
  rw [show ((i.toNat : Nat) : Int) = i by omega] at this
  exact this
theorem tupleText_len (ts : List Str) : (tupleText ts).length ≤ piled ts + 3 := by
  by_cases h : ts = []
  · subst h
    decide +kernel
  · have := join_length_add ts h
    unfold tupleText
    rw [PySem.Str.length_append, PySem.Str.length_append]
    have e1 : ((("(" : String) : Str)).length = 1 := by decide +kernel
    have e2 : (Str.ofString (if ts.length == 1 then ",)" else ")" : String)).length ≤ 2 := by split <;> decide +kernel
    rw [e1]
    omega
theorem listText_len (ts : List Str) : (listText ts).length ≤ piled ts + 3 := by
  cases ts with
  | nil => decide +kernel
  | cons t r =>
    unfold listText
    rw [PySem.Str.length_append]
    have e1 : ((("]" : String) : Str)).length = 1 := by decide +kernel
    rw [e1]
    show (textFrom 1 ((("[" : String) : Str) ++ (if 0 > 0 then ", " else "" : String) ++ t) r).length + 1 ≤ _
    rw [textFrom_length_pos r 1 _ (by decide), PySem.Str.length_append, PySem.Str.length_append, piled_cons]
    have e2 : ((("[" : String) : Str)).length = 1 := by decide +kernel
    have e3 : (Str.ofString (if 0 > 0 then ", " else "" : String)).length = 0 := by decide +kernel
    rw [e2, e3]
    omega
theorem ok_app {a b : Str} (ha : okZ a) (hb : okZ b) : okZ (a ++ b) := by
  show (a ++ b).cps.all _ = true
  rw [PySem.Str.cps_append, Array.all_append]
  exact Bool.and_eq_true_iff.mpr ⟨ha, hb⟩
theorem ok_join : ∀ ts : List Str, (∀ t ∈ ts, okZ t) → okZ (Str.join ", " ts)
  | [], _ => by decide +kernel
  | [x], h => h x List.mem_cons_self
  | x :: y :: r, h => by
    show okZ (x ++ Str.ofString ", " ++ Str.join ", " (y :: r))
    exact ok_app (ok_app (h x List.mem_cons_self) (by decide +kernel)) (ok_join (y :: r) fun t ht => h t (List.mem_cons_of_mem _ ht))
theorem ok_tuple (ts : List Str) (h : ∀ t ∈ ts, okZ t) : okZ (tupleText ts) := by
  unfold tupleText
  refine ok_app (ok_app (by decide +kernel) (ok_join ts h)) ?_
  split <;> decide +kernel
theorem ok_from : ∀ (ts : List Str) (k : Nat) (acc : Str), okZ acc → (∀ t ∈ ts, okZ t) → okZ (textFrom k acc ts)
  | [], _, _, h, _ => h
  | t :: r, k, acc, h, ht => by
    show okZ (textFrom (k + 1) (acc ++ Str.ofString (if k > 0 then ", " else "" : String) ++ t) r)
    refine ok_from r _ _ (ok_app (ok_app h ?_) (ht t List.mem_cons_self)) fun t h => ht t (List.mem_cons_of_mem _ h)
    split <;> decide +kernel
theorem ok_list (ts : List Str) (h : ∀ t ∈ ts, okZ t) : okZ (listText ts) := ok_app (ok_from ts 0 _ (by decide +kernel) h) (by decide +kernel)
structure PyOk (v : D) (p : PyData) : Prop where
  py : v.py = some p
  sh : p.showable = true
  len : p.shown.length ≤ sz v
  nd : p.hasDict = false
  dp : p.depth ≤ dep v
  ok : okZ p.shown
structure PysOk (vs : List D) (ps : List PyData) : Prop where
  py : D.pys vs = some ps
  sh : PyData.showableAll ps = true
  len : piled (PyData.shownAll ps) ≤ szs vs
  nd : PyData.hasDictAll ps = false
  dp : PyData.depthAll ps ≤ deps vs
  ok : ∀ t ∈ PyData.shownAll ps, okZ t
mutual
theorem py_ok : ∀ v : D, gw v = true → ∃ p, PyOk v p
  | .non, h => by cases h
  | .bl _, h => by cases h
  | .lst _, h => by cases h
  | .dic _ _, h => by cases h
  | .ref _, h => by cases h
  | .glo _, h => by cases h
  | .int i, h => by
    simp only [gw, Bool.and_eq_true, decide_eq_true_eq] at h
    obtain ⟨a, b⟩ := ints_at h.1 h.2
    exact ⟨.int i, rfl, b, a.1, rfl, Nat.zero_le _, a.2⟩
  | .str z, h => by
    obtain ⟨a, b, _, c⟩ := words_at (z := z) h
    exact ⟨.str z, rfl, rfl, a, rfl, Nat.zero_le _, c⟩
  | .tup xs, h => by
    obtain ⟨ps, q⟩ := pys_ok xs h
    refine ⟨.tuple ps, ?_, ?_, ?_, ?_, ?_, ?_⟩
    · show (D.pys xs).map _ = _
      rw [q.py]; rfl
    · rw [PyData.showable]; exact q.sh
    · rw [PyData.shown, sz]
      exact Nat.le_trans (tupleText_len _) (Nat.add_le_add_right q.len 3)
    · rw [PyData.hasDict]; exact q.nd
    · rw [PyData.depth, dep]; exact Nat.add_le_add_right q.dp 1
    · rw [PyData.shown]; exact ok_tuple _ q.ok
theorem pys_ok : ∀ vs : List D, gws vs = true → ∃ ps, PysOk vs ps
  | [], _ => ⟨[], rfl, rfl, Nat.le_refl _, rfl, Nat.le_refl _, fun _ h => by cases h⟩
  | v :: vs, h => by
    obtain ⟨h1, h2⟩ := Bool.and_eq_true_iff.mp (show (gw v && gws vs) = true from h)
    obtain ⟨p, a⟩ := py_ok v h1
    obtain ⟨ps, b⟩ := pys_ok vs h2
    refine ⟨p :: ps, ?_, ?_, ?_, ?_, ?_, ?_⟩
    · show (match D.py v, D.pys vs with
        | some p, some ps => some (p :: ps)
        | _, _ => none) = _
      rw [a.py, b.py]
    · rw [PyData.showableAll, a.sh, b.sh]; rfl
    · rw [PyData.shownAll, piled_cons, szs]
      have := a.len
      have := b.len
      omega
    · rw [PyData.hasDictAll, a.nd, b.nd]; rfl
    · rw [PyData.depthAll, deps]
      have := a.dp
      have := b.dp
      omega
    · rw [PyData.shownAll]
      intro t ht
      rcases List.mem_cons.mp ht with rfl | ht
      · exact a.ok
      · exact b.ok t ht
end
theorem line_lit : sizeLine = 16777216 := rfl
theorem repr_tup {xs : List D} (S : Sto) (h : gws xs = true) (hd : deps xs ≤ 50) (hz : szs xs ≤ 10000000) : ∃ z, bi1V .repr S (.d (.tup xs)) = some (.d (.str z)) ∧ okZ z := by
  obtain ⟨p, q⟩ := py_ok (.tup xs) h
  have h1 := q.len
  have h2 := q.dp
  rw [sz] at h1
  rw [dep] at h2
  refine ⟨p.shown, ?_, q.ok⟩
  show (reprV S (.d (.tup xs))).map _ = _
  unfold reprV
  rw [show (EV.d (.tup xs)).py S = some p from q.py]
  simp only [q.sh, q.nd, decide_eq_true (show p.depth ≤ 60 by omega), decide_eq_true (show p.shown.length ≤ sizeLine by rw [line_lit]; omega), Bool.and_self, Bool.not_false, if_true]
  rfl
theorem repr_own {xs : List D} (S : Sto) (h : gws xs = true) (hd : deps xs ≤ 50) (hz : szs xs ≤ 10000000) : ∃ z, bi1V .repr S (.own xs) = some (.d (.str z)) ∧ okZ z := by
  obtain ⟨ps, q⟩ := pys_ok xs h
  have h1 := q.len
  have h2 := q.dp
  have h3 := listText_len (PyData.shownAll ps)
  refine ⟨(PyData.list ps).shown, ?_, by rw [PyData.shown]; exact ok_list _ q.ok⟩
  show (reprV S (.own xs)).map _ = _
  unfold reprV
  rw [show (EV.own xs).py S = some (.list ps) from by show (D.pys xs).map _ = _; rw [q.py]; rfl]
  have e1 : (PyData.list ps).showable = true := by rw [PyData.showable]; exact q.sh
  have e2 : (PyData.list ps).hasDict = false := by rw [PyData.hasDict]; exact q.nd
  have e3 : (PyData.list ps).depth ≤ 60 := by rw [PyData.depth]; omega
  have e4 : (PyData.list ps).shown.length ≤ sizeLine := by rw [line_lit, PyData.shown]; omega
  simp only [e1, e2, decide_eq_true e3, decide_eq_true e4, Bool.and_self, Bool.not_false, if_true]
  rfl
end K20
end

section
set_option Elab.async false
set_option linter.all false
set_option maxRecDepth 100000
/-! k20: _law_thing. -/
namespace K20
open PySem hiding exec execs
open L2 Pl
def A2 {α β : Type} (P : α → β → Prop) : List α → List β → Prop
  | [], [] => True
  | a :: as, b :: bs => P a b ∧ A2 P as bs
  | _, _ => False
theorem A2_snoc {α β : Type} {P : α → β → Prop} {a : α} {b : β} (h : P a b) : ∀ {as : List α} {bs : List β}, A2 P as bs → A2 P (as ++ [a]) (bs ++ [b])
  | [], [], _ => ⟨h, trivial⟩
  | _ :: _, _ :: _, q => ⟨q.1, A2_snoc h q.2⟩
  | [], _ :: _, q => q.elim
  | _ :: _, [], q => q.elim
theorem A2_len {α β : Type} {P : α → β → Prop} : ∀ {as : List α} {bs : List β}, A2 P as bs → as.length = bs.length
  | [], [], _ => rfl
  | _ :: _, _ :: _, q => by rw [List.length_cons, List.length_cons, A2_len q.2]
  | [], _ :: _, q => q.elim
  | _ :: _, [], q => q.elim
theorem A2_get {α β : Type} {P : α → β → Prop} : ∀ {as : List α} {bs : List β} {i : Nat} {a : α}, A2 P as bs → as[i]? = some a → ∃ b, bs[i]? = some b ∧ P a b
  | a :: _, b :: _, 0, _, q, e => by cases e; exact ⟨b, rfl, q.1⟩
  | _ :: _, _ :: _, i + 1, _, q, e => A2_get (i := i) q.2 e
  | [], _, i, _, _, e => by cases e
  | _ :: _, [], _, _, q, _ => q.elim
/-! ### made things -/
structure GT (dM sM nM : Nat) (sort : Str) (v : D) : Prop where
  g : gw v = true
  s : sm v = true
  d : dep v ≤ dM
  w : wr v sort = true
  z : sz v ≤ sM
  n : nml v ≤ nM
def SB : Nat → Nat
  | 0 => 100
  | d + 1 => 3 * SB d + 2000
def NB : Nat → Nat
  | 0 => 1
  | d + 1 => 3 * NB d + 8
theorem NB_pos : ∀ d, 1 ≤ NB d
  | 0 => Nat.le_refl _
  | d + 1 => by rw [NB]; omega
def srtB (b : Bool) : Str := if b then "formula" else "term"
abbrev TG (d : Nat) (b : Bool) (v : D) : Prop := GT (4 + d) (SB d) (NB d) (srtB b) v
def shL : Bool → List (Str × Str)
  | true => [("true", ""), ("false", ""), ("so", "t"), ("equal", "tt"), ("in", "tt"), ("and", "ff"), ("or", "ff"), ("if", "ff"), ("not", "f"), ("near", "f"), ("all", "nkp"), ("some", "nkp")]
  | false => [("name", "n"), ("star", ""), ("fixed", "ki"), ("call", "kkmt"), ("pair", "tt"), ("first", "t"), ("second", "t"), ("left", "tk"), ("right", "kt"), ("cases", "tnsnr"), ("fun", "nks"), ("app", "tt"), ("set", "nkp"), ("when", "f"), ("into", "nkot"), ("out", "t"), ("the", "nkp")]
def shD (b : Bool) : List D := (shL b).map fun p => .tup [.str p.1, .str p.2]
/-- the sort that a letter stands for -/
def sortC (c : Nat) : Str := if c = 110 then "name" else if c = 107 then "kind" else if c = 116 ∨ c = 115 ∨ c = 114 then "term" else if c = 102 ∨ c = 112 ∨ c = 111 then "formula" else if c = 105 then "elements" else "lists"
def letters : List Nat := [110, 107, 116, 115, 114, 102, 112, 111, 105, 109]
def cA (c : Nat) : Nat := if c = 110 ∨ c = 107 ∨ c = 105 ∨ c = 109 then 0 else 1
def cB (c : Nat) : Nat := if c = 110 then 30 else if c = 107 then 700 else if c = 105 ∨ c = 109 then 300 else 0
def cN (c : Nat) : Nat := if c = 107 then 2 else 0
def shB (b : Bool) : Bool := (shL b).all fun p => wordsL.contains p.1 && decide (rowOf (srtB b) p.1 = some (p.2.cps.toList.map fun c => .str (sortC c))) && decide ((p.2.cps.toList.map cA).sum ≤ 3) &&
  decide ((p.2.cps.toList.map fun c => cB c + 2).sum + 40 ≤ 2000) && decide ((p.2.cps.toList.map cN).sum ≤ 8) && p.2.cps.toList.all (letters.contains ·) && decide (p.2.cps.toList.length ≤ 5)
theorem sh_b (b : Bool) : shB b = true := by cases b <;> decide +kernel
structure ShOk (b : Bool) (p : Str × Str) : Prop where
  w : wordsL.contains p.1 = true
  row : rowOf (srtB b) p.1 = some (p.2.cps.toList.map fun c => .str (sortC c))
  a : (p.2.cps.toList.map cA).sum ≤ 3
  b : (p.2.cps.toList.map fun c => cB c + 2).sum + 40 ≤ 2000
  n : (p.2.cps.toList.map cN).sum ≤ 8
  l : ∀ c ∈ p.2.cps.toList, c ∈ letters
  m : p.2.cps.toList.length ≤ 5
theorem sh_ok {b : Bool} {p : Str × Str} (h : p ∈ shL b) : ShOk b p := by
  have q := List.all_eq_true.mp (sh_b b) p h
  simp only [Bool.and_eq_true, decide_eq_true_eq] at q
  obtain ⟨⟨⟨⟨⟨⟨q1, q2⟩, q3⟩, q4⟩, q5⟩, q6⟩, q7⟩ := q
  exact ⟨q1, q2, q3, q4, q5, fun c hc => List.contains_iff_mem.mp (List.all_eq_true.mp q6 c hc), q7⟩
def CharOk (d : Nat) (c : Nat) (v : D) : Prop := GT (3 + d) (cA c * SB (d - 1) + cB c) (cA c * NB (d - 1) + cN c) (sortC c) v
theorem wr_mk {s w : Str} {ss args : List D} (hs : s ∈ sK) (hr : rowOf s w = some ss) (hl : ss.length = args.length) (h : ∀ (i : Nat) (y : D), ss[i]? = some y → ∃ z a, y = .str z ∧ args[i]? = some a ∧ wr a z = true) : wr (.tup (.str w :: args)) s = true := by
  obtain ⟨ws, rs, _, e2, _, _⟩ := tab_in hs
  unfold wr
  rw [isWr_node e2, dep, ndWr, hr]
  refine Bool.and_eq_true_iff.mpr ⟨decide_eq_true hl, List.all_eq_true.mpr fun p hp => ?_⟩
  obtain ⟨i, y, rfl, hy⟩ := mem_enumD hp
  obtain ⟨z, a, rfl, ea, hw⟩ := h i y hy
  show isWr (deps (.str w :: args) + 1) (args.getD ((i : Nat) : Int).toNat .non) z = true
  have : args.getD ((i : Nat) : Int).toNat .non = a := by simp [ea]
  rw [this, wr_eq z (deps_mem (List.mem_cons_of_mem _ (List.mem_of_getElem? ea)))]
  exact hw
theorem a2_sz {d : Nat} : ∀ {cs : List Nat} {vs : List D}, A2 (CharOk d) cs vs → szs vs ≤ (cs.map cA).sum * SB (d - 1) + (cs.map fun c => cB c + 2).sum ∧ nmls vs ≤ (cs.map cA).sum * NB (d - 1) + (cs.map cN).sum ∧ gws vs = true ∧ sms vs = true ∧ deps vs ≤ 3 + d
  | [], [], _ => ⟨Nat.zero_le _, Nat.zero_le _, rfl, rfl, Nat.zero_le _⟩
  | c :: cs, v :: vs, h => by
    obtain ⟨a1, a2, a3, a4, a5⟩ := a2_sz h.2
    obtain ⟨b1, b2, b3, b4, b5, b6⟩ := h.1
    refine ⟨?_, ?_, ?_, ?_, ?_⟩
    · rw [szs, List.map_cons, List.sum_cons, List.map_cons, List.sum_cons, Nat.add_mul]
      omega
    · rw [nmls, List.map_cons, List.sum_cons, List.map_cons, List.sum_cons, Nat.add_mul]
      omega
    · rw [gws, b1, a3]; rfl
    · rw [sms, b2, a4]; rfl
    · rw [deps]; omega
  | [], _ :: _, q => q.elim
  | _ :: _, [], q => q.elim
theorem srtB_sK (b : Bool) : srtB b ∈ sK := by cases b <;> decide +kernel
theorem thing_ok {d : Nat} {b : Bool} {p : Str × Str} {vs : List D} (hp : p ∈ shL b) (h0 : d = 0 → p.2.cps.toList = [] ∨ p.2.cps.toList = [110]) (h : A2 (CharOk d) p.2.cps.toList vs) : TG d b (.tup (.str p.1 :: vs)) := by
  have P := sh_ok hp
  obtain ⟨a1, a2, a3, a4, a5⟩ := a2_sz h
  obtain ⟨_, k1, k2, _⟩ := words_at P.w
  have hl := A2_len h
  refine ⟨?_, ?_, ?_, ?_, ?_, ?_⟩
  · rw [gw, gws, a3]
    exact Bool.and_eq_true_iff.mpr ⟨P.w, rfl⟩
  · rw [sm, sms, a4]
    refine Bool.and_eq_true_iff.mpr ⟨decide_eq_true ?_, Bool.and_eq_true_iff.mpr ⟨?_, rfl⟩⟩
    · have := P.m
      rw [List.length_cons]
      omega
    · exact Bool.and_eq_true_iff.mpr ⟨k1, decide_eq_true (by omega)⟩
  · rw [dep, deps]
    have : dep (.str p.1) = 0 := rfl
    omega
  · refine wr_mk (srtB_sK b) P.row (by rw [List.length_map]; exact hl) fun i y hy => ?_
    rw [List.getElem?_map] at hy
    cases e : p.2.cps.toList[i]? with
    | none => rw [e] at hy; cases hy
    | some c =>
      rw [e] at hy
      cases hy
      obtain ⟨a, ea, ha⟩ := A2_get h e
      exact ⟨_, a, rfl, ea, ha.w⟩
  · rw [sz, szs]
    have e30 : sz (.str p.1) = 30 := rfl
    cases d with
    | zero =>
      rcases h0 rfl with e | e <;> rw [e] at a1 <;> simp [cA, cB] at a1 <;> rw [SB] <;> omega
    | succ d =>
      rw [SB]
      rw [show d + 1 - 1 = d from rfl] at a1
      have := P.b
      have := Nat.mul_le_mul_right (SB d) P.a
      omega
  · rw [nml]
    split
    · exact NB_pos d
    · rw [nmls]
      have e0 : nml (.str p.1) = 0 := rfl
      cases d with
      | zero =>
        rcases h0 rfl with e | e <;> rw [e] at a2 <;> simp [cA, cN] at a2 <;> rw [NB] <;> omega
      | succ d =>
        rw [NB]
        rw [show d + 1 - 1 = d from rfl] at a2
        have := P.n
        have := Nat.mul_le_mul_right (NB d) P.a
        omega
/-! ### small parts -/
theorem k1_ok : (k1L.all fun v => gw v && sm v && decide (dep v ≤ 4) && wr v "kind" && decide (sz v ≤ 700) && decide (nml v ≤ 2)) = true := by decide +kernel
theorem nm_ok : (nmL.all fun z => gw (.str z) && sm (.str z) && wr (.str z) "name" && isNm (.str z)) = true := by decide +kernel
def elL : List D := [.tup [.int 0, .int 1], .tup [], .tup [.tup [.tup [.int 0], .int 3], .int 2]]
def liL : List D := [.tup [.tup [.int 0, .int 1], .tup [.int 1]], .tup [], .tup [.tup [.tup [], .tup [.int 0, .int 1]]]]
theorem el_ok : (elL.all fun v => gw v && sm v && decide (dep v ≤ 4) && wr v "elements" && decide (sz v ≤ 300) && decide (nml v ≤ 0)) = true := by decide +kernel
theorem li_ok : (liL.all fun v => gw v && sm v && decide (dep v ≤ 4) && wr v "lists" && decide (sz v ≤ 300) && decide (nml v ≤ 0)) = true := by decide +kernel
theorem c_kind {d : Nat} (hd : 1 ≤ d) {v : D} (h : v ∈ k1L) : CharOk d 107 v := by
  have q := List.all_eq_true.mp k1_ok v h
  simp only [Bool.and_eq_true, decide_eq_true_eq] at q
  obtain ⟨⟨⟨⟨⟨q1, q2⟩, q3⟩, q4⟩, q5⟩, q6⟩ := q
  refine ⟨q1, q2, by omega, q4, ?_, ?_⟩
  · show _ ≤ 0 * _ + 700; omega
  · show _ ≤ 0 * _ + 2; omega
theorem c_el {d : Nat} (hd : 1 ≤ d) {v : D} (h : v ∈ elL) : CharOk d 105 v := by
  have q := List.all_eq_true.mp el_ok v h
  simp only [Bool.and_eq_true, decide_eq_true_eq] at q
  obtain ⟨⟨⟨⟨⟨q1, q2⟩, q3⟩, q4⟩, q5⟩, q6⟩ := q
  refine ⟨q1, q2, by omega, q4, ?_, ?_⟩
  · show _ ≤ 0 * _ + 300; omega
  · show _ ≤ 0 * _ + 0; omega
theorem c_li {d : Nat} (hd : 1 ≤ d) {v : D} (h : v ∈ liL) : CharOk d 109 v := by
  have q := List.all_eq_true.mp li_ok v h
  simp only [Bool.and_eq_true, decide_eq_true_eq] at q
  obtain ⟨⟨⟨⟨⟨q1, q2⟩, q3⟩, q4⟩, q5⟩, q6⟩ := q
  refine ⟨q1, q2, by omega, q4, ?_, ?_⟩
  · show _ ≤ 0 * _ + 300; omega
  · show _ ≤ 0 * _ + 0; omega
theorem c_nm {d : Nat} {z : Str} (h : z ∈ nmL) : CharOk d 110 (.str z) := by
  have q := List.all_eq_true.mp nm_ok z h
  simp only [Bool.and_eq_true] at q
  obtain ⟨⟨⟨q1, q2⟩, q3⟩, q4⟩ := q
  refine ⟨q1, q2, Nat.zero_le _, q3, ?_, Nat.zero_le _⟩
  show 30 ≤ 0 * _ + 30
  omega
theorem c_th {d c : Nat} {b : Bool} {v : D} (hd : 1 ≤ d) (hs : sortC c = srtB b) (ha : cA c = 1) (h : TG (d - 1) b v) : CharOk d c v := by
  obtain ⟨q1, q2, q3, q4, q5, q6⟩ := h
  refine ⟨q1, q2, by omega, by rw [hs]; exact q4, ?_, ?_⟩
  · rw [ha]; omega
  · rw [ha]; omega
end K20
end

section
set_option Elab.async false
set_option linter.all false
set_option maxRecDepth 100000
/-! k20: the walk of _law_shapes and _law_thing. -/
namespace K20
open PySem hiding exec execs
open L2 Pl
theorem s_law_shapes (k : Nat) (b : Bool) (S : Sto) : R (k + 1) "_law_shapes" [.bl b] S = .ok (.own (shD b)) S := by
  rw [R_law_shapes]
  unfold n_law_shapes
  cases b with
  | true =>
    simp only [Pl.runFn, List.length_cons, List.length_nil, Pl.startE_cons, Pl.startE_nil, Pl.repl_succ, List.replicate_zero, Nat.zero_add, Pl.execs, Pl.exec, Pl.evalT, Pl.evalE, Pl.evalVs, Pl.evalP, Pl.evalI, Pl.evalJ, List.getElem?_cons_zero, List.getElem?_cons_succ, Pl.Res.bind_ok, Pl.Res.bind_exc, Pl.Res.bind_stuck, Pl.Res.to_ok, Pl.Res.to_exc, Pl.Res.to_stuck, Pl.Res.calm_ok, Pl.SR.andThen_next, Pl.SR.andThen_ret, Pl.SR.andThen_brk, Pl.SR.andThen_cont, Pl.SR.andThen_exc, Pl.SR.andThen_stuck, Pl.gcE_self, Pl.gcX_self, Pl.optR_some, Pl.optR_none, Pl.EV.val_d, Pl.EV.val_own, Pl.EV.items_own, Pl.EV.items_brw, Pl.EV.items_lst, if_true, if_false, reduceIte, Bool.false_eq_true, Bool.not_true, Bool.not_false, List.set_cons_zero, List.set_cons_succ, Pl.wipeE, List.map_cons, List.map_nil, Pl.setE, Pl.bindT, Pl.bindNames, Nat.zero_lt_succ, Nat.succ_lt_succ_iff, Nat.lt_add_one, Pl.tru_bl, Pl.tru_int, Pl.its_tup, Pl.its_lst, Pl.its_own, Pl.its_brw, Pl.its_str, Pl.enum_tup, Pl.eq_int, Pl.ne_int, Pl.lt_int, Pl.le_int, Pl.gt_int, Pl.ge_int, Pl.add_int, Pl.sub_int, Pl.len_tup, Pl.len_own, Pl.len_brw, Pl.len_lst, Pl.idx_tup, Pl.idx_lst, Pl.idx_own, Pl.idx_brw, Pl.in_dic, Pl.nin_dic, Pl.idx_dic, Pl.is_non, Pl.isn_non, Pl.at_zero, Pl.at_one, sizeLine_eq, Nat.reduceAdd, Nat.reduceLeDiff]
    rfl
  | false =>
    simp only [Pl.runFn, List.length_cons, List.length_nil, Pl.startE_cons, Pl.startE_nil, Pl.repl_succ, List.replicate_zero, Nat.zero_add, Pl.execs, Pl.exec, Pl.evalT, Pl.evalE, Pl.evalVs, Pl.evalP, Pl.evalI, Pl.evalJ, List.getElem?_cons_zero, List.getElem?_cons_succ, Pl.Res.bind_ok, Pl.Res.bind_exc, Pl.Res.bind_stuck, Pl.Res.to_ok, Pl.Res.to_exc, Pl.Res.to_stuck, Pl.Res.calm_ok, Pl.SR.andThen_next, Pl.SR.andThen_ret, Pl.SR.andThen_brk, Pl.SR.andThen_cont, Pl.SR.andThen_exc, Pl.SR.andThen_stuck, Pl.gcE_self, Pl.gcX_self, Pl.optR_some, Pl.optR_none, Pl.EV.val_d, Pl.EV.val_own, Pl.EV.items_own, Pl.EV.items_brw, Pl.EV.items_lst, if_true, if_false, reduceIte, Bool.false_eq_true, Bool.not_true, Bool.not_false, List.set_cons_zero, List.set_cons_succ, Pl.wipeE, List.map_cons, List.map_nil, Pl.setE, Pl.bindT, Pl.bindNames, Nat.zero_lt_succ, Nat.succ_lt_succ_iff, Nat.lt_add_one, Pl.tru_bl, Pl.tru_int, Pl.its_tup, Pl.its_lst, Pl.its_own, Pl.its_brw, Pl.its_str, Pl.enum_tup, Pl.eq_int, Pl.ne_int, Pl.lt_int, Pl.le_int, Pl.gt_int, Pl.ge_int, Pl.add_int, Pl.sub_int, Pl.len_tup, Pl.len_own, Pl.len_brw, Pl.len_lst, Pl.idx_tup, Pl.idx_lst, Pl.idx_own, Pl.idx_brw, Pl.in_dic, Pl.nin_dic, Pl.idx_dic, Pl.is_non, Pl.isn_non, Pl.at_zero, Pl.at_one, sizeLine_eq, Nat.reduceAdd, Nat.reduceLeDiff]
    rfl
theorem execs_app (G : Gd) (c : Call) : ∀ (a b : List LS) (ρ : Pl.Env) (S : Sto), Pl.execs G c (a ++ b) ρ S = (Pl.execs G c a ρ S).andThen fun ρ S => Pl.execs G c b ρ S
  | [], b, ρ, S => by rw [List.nil_append, Pl.execs]; rfl
  | s :: a, b, ρ, S => by
    rw [List.cons_append, Pl.execs, Pl.execs]
    cases Pl.exec G c s ρ S with
    | next ρ S => exact execs_app G c a b ρ S
    | _ => rfl
theorem shD_len (b : Bool) : 2 ≤ (shD b).length ∧ (shD b).length ≤ 17 := by cases b <;> decide
theorem atI_sh {b : Bool} {i : Int} (h0 : 0 ≤ i) (h1 : i < ((shD b).length : Int)) : ∃ p, p ∈ shL b ∧ atI (shD b) i = some (.tup [.str p.1, .str p.2]) ∧ (i < 2 → p.2.cps.toList = [] ∨ p.2.cps.toList = [110]) := by
  obtain ⟨n, rfl⟩ : ∃ n : Nat, i = (n : Int) := ⟨i.toNat, by omega⟩
  rw [Pl.atI_nat]
  unfold shD
  rw [List.getElem?_map]
  have hn : n < (shL b).length := by
    have : (shD b).length = (shL b).length := List.length_map ..
    omega
  refine ⟨(shL b)[n], List.getElem_mem hn, by rw [List.getElem?_eq_getElem hn]; rfl, fun h => ?_⟩
  have h2 : n = 0 ∨ n = 1 := by omega
  cases b <;> rcases h2 with rfl | rfl <;> simp only [shL, List.getElem_cons_zero, List.getElem_cons_succ] <;> decide +kernel
/-- the frame of _law_thing ahead of its loop -/
def r7 (b : Bool) (d : Nat) (pick : Int) (p : Str × Str) : Pl.Env := [some (.d (.ref 0)), some (.d (.bl b)), some (.d (.int d)), some (.d (.lst (shD b))), some (.d (.int pick)), none, none, some (.d (.str p.1)), some (.d (.str p.2))]
def bT : List LS := n_law_thing.body
theorem bT_cut : bT = bT.take 5 ++ ((bT.drop 5).take 1 ++ ((bT.drop 6).take 1 ++ bT.drop 7)) := rfl
theorem th_a (k : Nat) (b : Bool) (d : Nat) {S : Sto} (hS : BS S) : ∃ pick p S', Pl.execs gd (R (k + 1)) (bT.take 5) [some (.d (.ref 0)), some (.d (.bl b)), some (.d (.int d)), none, none, none, none, none, none] S = .next (r7 b d pick p) S' ∧ BS S' ∧ p ∈ shL b := by
  obtain ⟨l1, l2⟩ := shD_len b
  have hm : CMulB 2 ((shD b).length : Int) = true := by
    unfold CMulB
    exact decide_eq_true (.inl ⟨by decide, by decide⟩)
  obtain ⟨r, S1, h, hB, r0, r1⟩ := s_law_draw k (many := 2 * ((shD b).length : Int)) (by omega) (by omega) hS
  have hL : (0 : Int) < ((shD b).length : Int) := by omega
  obtain ⟨p, hp, ep, _⟩ := atI_sh (b := b) (i := r % ((shD b).length : Int)) (Int.emod_nonneg _ (by omega)) (Int.emod_lt_of_pos _ hL)
  refine ⟨r, p, S1, ?_, hB, hp⟩
  unfold bT n_law_thing
  simp only [List.take_succ_cons, List.take_zero]
  simp only [Pl.runFn, List.length_cons, List.length_nil, Pl.startE_cons, Pl.startE_nil, Pl.repl_succ, List.replicate_zero, Nat.zero_add, Pl.execs, Pl.exec, Pl.evalT, Pl.evalE, Pl.evalVs, Pl.evalP, Pl.evalI, Pl.evalJ, List.getElem?_cons_zero, List.getElem?_cons_succ, Pl.Res.bind_ok, Pl.Res.bind_exc, Pl.Res.bind_stuck, Pl.Res.to_ok, Pl.Res.to_exc, Pl.Res.to_stuck, Pl.Res.calm_ok, Pl.SR.andThen_next, Pl.SR.andThen_ret, Pl.SR.andThen_brk, Pl.SR.andThen_cont, Pl.SR.andThen_exc, Pl.SR.andThen_stuck, Pl.gcE_self, Pl.gcX_self, Pl.optR_some, Pl.optR_none, Pl.EV.val_d, Pl.EV.val_own, Pl.EV.items_own, Pl.EV.items_brw, Pl.EV.items_lst, if_true, if_false, reduceIte, Bool.false_eq_true, Bool.not_true, Bool.not_false, List.set_cons_zero, List.set_cons_succ, Pl.wipeE, List.map_cons, List.map_nil, Pl.setE, Pl.bindT, Pl.bindNames, Nat.zero_lt_succ, Nat.succ_lt_succ_iff, Nat.lt_add_one, Pl.tru_bl, Pl.tru_int, Pl.its_tup, Pl.its_lst, Pl.its_own, Pl.its_brw, Pl.its_str, Pl.enum_tup, Pl.eq_int, Pl.ne_int, Pl.lt_int, Pl.le_int, Pl.gt_int, Pl.ge_int, Pl.add_int, Pl.sub_int, Pl.len_tup, Pl.len_own, Pl.len_brw, Pl.len_lst, Pl.idx_tup, Pl.idx_lst, Pl.idx_own, Pl.idx_brw, Pl.in_dic, Pl.nin_dic, Pl.idx_dic, Pl.is_non, Pl.isn_non, Pl.at_zero, Pl.at_one, sizeLine_eq, Nat.reduceAdd, Nat.reduceLeDiff, s_law_shapes, mul_int, hm, h, mod_int, hL, ep]
  rfl
def Small (d : Nat) (p : Str × Str) : Prop := d = 0 → p.2.cps.toList = [] ∨ p.2.cps.toList = [110]
theorem th_b (k : Nat) (b : Bool) (d : Nat) (pick : Int) {p : Str × Str} {S : Sto} (hp : p ∈ shL b) (hS : BS S) : ∃ p' S', Pl.execs gd (R (k + 1)) ((bT.drop 5).take 1) (r7 b d pick p) S = .next (r7 b d pick p') S' ∧ BS S' ∧ p' ∈ shL b ∧ Small d p' := by
  obtain ⟨l1, l2⟩ := shD_len b
  obtain ⟨r, S1, h, hB, r0, r1⟩ := s_law_draw k (many := 2) (by omega) (by omega) hS
  obtain ⟨q, hq, eq, hsm⟩ := atI_sh (b := b) (i := r) r0 (by omega)
  unfold bT n_law_thing r7
  simp only [List.drop_succ_cons, List.drop_zero, List.take_succ_cons, List.take_zero]
  by_cases d0 : ((d : Nat) : Int) = 0
  · refine ⟨q, S1, ?_, hB, hq, fun _ => hsm r1⟩
    simp only [Pl.runFn, List.length_cons, List.length_nil, Pl.startE_cons, Pl.startE_nil, Pl.repl_succ, List.replicate_zero, Nat.zero_add, Pl.execs, Pl.exec, Pl.evalT, Pl.evalE, Pl.evalVs, Pl.evalP, Pl.evalI, Pl.evalJ, List.getElem?_cons_zero, List.getElem?_cons_succ, Pl.Res.bind_ok, Pl.Res.bind_exc, Pl.Res.bind_stuck, Pl.Res.to_ok, Pl.Res.to_exc, Pl.Res.to_stuck, Pl.Res.calm_ok, Pl.SR.andThen_next, Pl.SR.andThen_ret, Pl.SR.andThen_brk, Pl.SR.andThen_cont, Pl.SR.andThen_exc, Pl.SR.andThen_stuck, Pl.gcE_self, Pl.gcX_self, Pl.optR_some, Pl.optR_none, Pl.EV.val_d, Pl.EV.val_own, Pl.EV.items_own, Pl.EV.items_brw, Pl.EV.items_lst, if_true, if_false, reduceIte, Bool.false_eq_true, Bool.not_true, Bool.not_false, List.set_cons_zero, List.set_cons_succ, Pl.wipeE, List.map_cons, List.map_nil, Pl.setE, Pl.bindT, Pl.bindNames, Nat.zero_lt_succ, Nat.succ_lt_succ_iff, Nat.lt_add_one, Pl.tru_bl, Pl.tru_int, Pl.its_tup, Pl.its_lst, Pl.its_own, Pl.its_brw, Pl.its_str, Pl.enum_tup, Pl.eq_int, Pl.ne_int, Pl.lt_int, Pl.le_int, Pl.gt_int, Pl.ge_int, Pl.add_int, Pl.sub_int, Pl.len_tup, Pl.len_own, Pl.len_brw, Pl.len_lst, Pl.idx_tup, Pl.idx_lst, Pl.idx_own, Pl.idx_brw, Pl.in_dic, Pl.nin_dic, Pl.idx_dic, Pl.is_non, Pl.isn_non, Pl.at_zero, Pl.at_one, sizeLine_eq, Nat.reduceAdd, Nat.reduceLeDiff, d0, decide_true, h, eq]
  · have sd : ∀ p', Small d p' := fun p' z => by rw [z] at d0; exact (d0 rfl).elim
    cases b with
    | true =>
      refine ⟨p, S, ?_, hS, hp, sd p⟩
      simp only [Pl.runFn, List.length_cons, List.length_nil, Pl.startE_cons, Pl.startE_nil, Pl.repl_succ, List.replicate_zero, Nat.zero_add, Pl.execs, Pl.exec, Pl.evalT, Pl.evalE, Pl.evalVs, Pl.evalP, Pl.evalI, Pl.evalJ, List.getElem?_cons_zero, List.getElem?_cons_succ, Pl.Res.bind_ok, Pl.Res.bind_exc, Pl.Res.bind_stuck, Pl.Res.to_ok, Pl.Res.to_exc, Pl.Res.to_stuck, Pl.Res.calm_ok, Pl.SR.andThen_next, Pl.SR.andThen_ret, Pl.SR.andThen_brk, Pl.SR.andThen_cont, Pl.SR.andThen_exc, Pl.SR.andThen_stuck, Pl.gcE_self, Pl.gcX_self, Pl.optR_some, Pl.optR_none, Pl.EV.val_d, Pl.EV.val_own, Pl.EV.items_own, Pl.EV.items_brw, Pl.EV.items_lst, if_true, if_false, reduceIte, Bool.false_eq_true, Bool.not_true, Bool.not_false, List.set_cons_zero, List.set_cons_succ, Pl.wipeE, List.map_cons, List.map_nil, Pl.setE, Pl.bindT, Pl.bindNames, Nat.zero_lt_succ, Nat.succ_lt_succ_iff, Nat.lt_add_one, Pl.tru_bl, Pl.tru_int, Pl.its_tup, Pl.its_lst, Pl.its_own, Pl.its_brw, Pl.its_str, Pl.enum_tup, Pl.eq_int, Pl.ne_int, Pl.lt_int, Pl.le_int, Pl.gt_int, Pl.ge_int, Pl.add_int, Pl.sub_int, Pl.len_tup, Pl.len_own, Pl.len_brw, Pl.len_lst, Pl.idx_tup, Pl.idx_lst, Pl.idx_own, Pl.idx_brw, Pl.in_dic, Pl.nin_dic, Pl.idx_dic, Pl.is_non, Pl.isn_non, Pl.at_zero, Pl.at_one, sizeLine_eq, Nat.reduceAdd, Nat.reduceLeDiff, d0, decide_false]
    | false =>
      by_cases c : 28 < pick
      · refine ⟨q, S1, ?_, hB, hq, sd q⟩
        simp only [Pl.runFn, List.length_cons, List.length_nil, Pl.startE_cons, Pl.startE_nil, Pl.repl_succ, List.replicate_zero, Nat.zero_add, Pl.execs, Pl.exec, Pl.evalT, Pl.evalE, Pl.evalVs, Pl.evalP, Pl.evalI, Pl.evalJ, List.getElem?_cons_zero, List.getElem?_cons_succ, Pl.Res.bind_ok, Pl.Res.bind_exc, Pl.Res.bind_stuck, Pl.Res.to_ok, Pl.Res.to_exc, Pl.Res.to_stuck, Pl.Res.calm_ok, Pl.SR.andThen_next, Pl.SR.andThen_ret, Pl.SR.andThen_brk, Pl.SR.andThen_cont, Pl.SR.andThen_exc, Pl.SR.andThen_stuck, Pl.gcE_self, Pl.gcX_self, Pl.optR_some, Pl.optR_none, Pl.EV.val_d, Pl.EV.val_own, Pl.EV.items_own, Pl.EV.items_brw, Pl.EV.items_lst, if_true, if_false, reduceIte, Bool.false_eq_true, Bool.not_true, Bool.not_false, List.set_cons_zero, List.set_cons_succ, Pl.wipeE, List.map_cons, List.map_nil, Pl.setE, Pl.bindT, Pl.bindNames, Nat.zero_lt_succ, Nat.succ_lt_succ_iff, Nat.lt_add_one, Pl.tru_bl, Pl.tru_int, Pl.its_tup, Pl.its_lst, Pl.its_own, Pl.its_brw, Pl.its_str, Pl.enum_tup, Pl.eq_int, Pl.ne_int, Pl.lt_int, Pl.le_int, Pl.gt_int, Pl.ge_int, Pl.add_int, Pl.sub_int, Pl.len_tup, Pl.len_own, Pl.len_brw, Pl.len_lst, Pl.idx_tup, Pl.idx_lst, Pl.idx_own, Pl.idx_brw, Pl.in_dic, Pl.nin_dic, Pl.idx_dic, Pl.is_non, Pl.isn_non, Pl.at_zero, Pl.at_one, sizeLine_eq, Nat.reduceAdd, Nat.reduceLeDiff, d0, decide_false, decide_true, c, h, eq]
      · refine ⟨p, S, ?_, hS, hp, sd p⟩
        simp only [Pl.runFn, List.length_cons, List.length_nil, Pl.startE_cons, Pl.startE_nil, Pl.repl_succ, List.replicate_zero, Nat.zero_add, Pl.execs, Pl.exec, Pl.evalT, Pl.evalE, Pl.evalVs, Pl.evalP, Pl.evalI, Pl.evalJ, List.getElem?_cons_zero, List.getElem?_cons_succ, Pl.Res.bind_ok, Pl.Res.bind_exc, Pl.Res.bind_stuck, Pl.Res.to_ok, Pl.Res.to_exc, Pl.Res.to_stuck, Pl.Res.calm_ok, Pl.SR.andThen_next, Pl.SR.andThen_ret, Pl.SR.andThen_brk, Pl.SR.andThen_cont, Pl.SR.andThen_exc, Pl.SR.andThen_stuck, Pl.gcE_self, Pl.gcX_self, Pl.optR_some, Pl.optR_none, Pl.EV.val_d, Pl.EV.val_own, Pl.EV.items_own, Pl.EV.items_brw, Pl.EV.items_lst, if_true, if_false, reduceIte, Bool.false_eq_true, Bool.not_true, Bool.not_false, List.set_cons_zero, List.set_cons_succ, Pl.wipeE, List.map_cons, List.map_nil, Pl.setE, Pl.bindT, Pl.bindNames, Nat.zero_lt_succ, Nat.succ_lt_succ_iff, Nat.lt_add_one, Pl.tru_bl, Pl.tru_int, Pl.its_tup, Pl.its_lst, Pl.its_own, Pl.its_brw, Pl.its_str, Pl.enum_tup, Pl.eq_int, Pl.ne_int, Pl.lt_int, Pl.le_int, Pl.gt_int, Pl.ge_int, Pl.add_int, Pl.sub_int, Pl.len_tup, Pl.len_own, Pl.len_brw, Pl.len_lst, Pl.idx_tup, Pl.idx_lst, Pl.idx_own, Pl.idx_brw, Pl.in_dic, Pl.nin_dic, Pl.idx_dic, Pl.is_non, Pl.isn_non, Pl.at_zero, Pl.at_one, sizeLine_eq, Nat.reduceAdd, Nat.reduceLeDiff, d0, decide_false, c]
theorem th_c (k : Nat) (b : Bool) (d : Nat) (pick : Int) {p : Str × Str} {S : Sto} (hp : p ∈ shL b) (hs : Small d p) (hS : BS S) : ∃ p' S', Pl.execs gd (R (k + 1)) ((bT.drop 6).take 1) (r7 b d pick p) S = .next (r7 b d pick p') S' ∧ BS S' ∧ p' ∈ shL b ∧ Small d p' := by
  obtain ⟨l1, l2⟩ := shD_len b
  obtain ⟨r, S1, h, hB, r0, r1⟩ := s_law_draw k (many := 3) (by omega) (by omega) hS
  obtain ⟨q, hq, eq, hsm⟩ := atI_sh (b := b) (i := 0) (by omega) (by omega)
  have ok := (words_at (sh_ok hp).w).2.1
  unfold bT n_law_thing r7
  simp only [List.drop_succ_cons, List.drop_zero, List.take_succ_cons, List.take_zero]
  cases b with
  | true =>
    refine ⟨p, S, ?_, hS, hp, hs⟩
    simp only [Pl.runFn, List.length_cons, List.length_nil, Pl.startE_cons, Pl.startE_nil, Pl.repl_succ, List.replicate_zero, Nat.zero_add, Pl.execs, Pl.exec, Pl.evalT, Pl.evalE, Pl.evalVs, Pl.evalP, Pl.evalI, Pl.evalJ, List.getElem?_cons_zero, List.getElem?_cons_succ, Pl.Res.bind_ok, Pl.Res.bind_exc, Pl.Res.bind_stuck, Pl.Res.to_ok, Pl.Res.to_exc, Pl.Res.to_stuck, Pl.Res.calm_ok, Pl.SR.andThen_next, Pl.SR.andThen_ret, Pl.SR.andThen_brk, Pl.SR.andThen_cont, Pl.SR.andThen_exc, Pl.SR.andThen_stuck, Pl.gcE_self, Pl.gcX_self, Pl.optR_some, Pl.optR_none, Pl.EV.val_d, Pl.EV.val_own, Pl.EV.items_own, Pl.EV.items_brw, Pl.EV.items_lst, if_true, if_false, reduceIte, Bool.false_eq_true, Bool.not_true, Bool.not_false, List.set_cons_zero, List.set_cons_succ, Pl.wipeE, List.map_cons, List.map_nil, Pl.setE, Pl.bindT, Pl.bindNames, Nat.zero_lt_succ, Nat.succ_lt_succ_iff, Nat.lt_add_one, Pl.tru_bl, Pl.tru_int, Pl.its_tup, Pl.its_lst, Pl.its_own, Pl.its_brw, Pl.its_str, Pl.enum_tup, Pl.eq_int, Pl.ne_int, Pl.lt_int, Pl.le_int, Pl.gt_int, Pl.ge_int, Pl.add_int, Pl.sub_int, Pl.len_tup, Pl.len_own, Pl.len_brw, Pl.len_lst, Pl.idx_tup, Pl.idx_lst, Pl.idx_own, Pl.idx_brw, Pl.in_dic, Pl.nin_dic, Pl.idx_dic, Pl.is_non, Pl.isn_non, Pl.at_zero, Pl.at_one, sizeLine_eq, Nat.reduceAdd, Nat.reduceLeDiff]
  | false =>
    have hc : ∀ S : Sto, cmpV .Eq S (.d (.str p.1)) (.d (.str "star")) = some (decide (p.1 = Str.ofString "star")) := fun S => eq_str ok (by decide +kernel)
    by_cases c : p.1 = Str.ofString "star"
    · rw [decide_eq_true c] at hc
      by_cases c2 : 0 < r
      · refine ⟨q, S1, ?_, hB, hq, fun _ => hsm (by decide)⟩
        simp only [Pl.runFn, List.length_cons, List.length_nil, Pl.startE_cons, Pl.startE_nil, Pl.repl_succ, List.replicate_zero, Nat.zero_add, Pl.execs, Pl.exec, Pl.evalT, Pl.evalE, Pl.evalVs, Pl.evalP, Pl.evalI, Pl.evalJ, List.getElem?_cons_zero, List.getElem?_cons_succ, Pl.Res.bind_ok, Pl.Res.bind_exc, Pl.Res.bind_stuck, Pl.Res.to_ok, Pl.Res.to_exc, Pl.Res.to_stuck, Pl.Res.calm_ok, Pl.SR.andThen_next, Pl.SR.andThen_ret, Pl.SR.andThen_brk, Pl.SR.andThen_cont, Pl.SR.andThen_exc, Pl.SR.andThen_stuck, Pl.gcE_self, Pl.gcX_self, Pl.optR_some, Pl.optR_none, Pl.EV.val_d, Pl.EV.val_own, Pl.EV.items_own, Pl.EV.items_brw, Pl.EV.items_lst, if_true, if_false, reduceIte, Bool.false_eq_true, Bool.not_true, Bool.not_false, List.set_cons_zero, List.set_cons_succ, Pl.wipeE, List.map_cons, List.map_nil, Pl.setE, Pl.bindT, Pl.bindNames, Nat.zero_lt_succ, Nat.succ_lt_succ_iff, Nat.lt_add_one, Pl.tru_bl, Pl.tru_int, Pl.its_tup, Pl.its_lst, Pl.its_own, Pl.its_brw, Pl.its_str, Pl.enum_tup, Pl.eq_int, Pl.ne_int, Pl.lt_int, Pl.le_int, Pl.gt_int, Pl.ge_int, Pl.add_int, Pl.sub_int, Pl.len_tup, Pl.len_own, Pl.len_brw, Pl.len_lst, Pl.idx_tup, Pl.idx_lst, Pl.idx_own, Pl.idx_brw, Pl.in_dic, Pl.nin_dic, Pl.idx_dic, Pl.is_non, Pl.isn_non, Pl.at_zero, Pl.at_one, sizeLine_eq, Nat.reduceAdd, Nat.reduceLeDiff, hc, c2, decide_true, h, eq]
      · refine ⟨p, S1, ?_, hB, hp, hs⟩
        simp only [Pl.runFn, List.length_cons, List.length_nil, Pl.startE_cons, Pl.startE_nil, Pl.repl_succ, List.replicate_zero, Nat.zero_add, Pl.execs, Pl.exec, Pl.evalT, Pl.evalE, Pl.evalVs, Pl.evalP, Pl.evalI, Pl.evalJ, List.getElem?_cons_zero, List.getElem?_cons_succ, Pl.Res.bind_ok, Pl.Res.bind_exc, Pl.Res.bind_stuck, Pl.Res.to_ok, Pl.Res.to_exc, Pl.Res.to_stuck, Pl.Res.calm_ok, Pl.SR.andThen_next, Pl.SR.andThen_ret, Pl.SR.andThen_brk, Pl.SR.andThen_cont, Pl.SR.andThen_exc, Pl.SR.andThen_stuck, Pl.gcE_self, Pl.gcX_self, Pl.optR_some, Pl.optR_none, Pl.EV.val_d, Pl.EV.val_own, Pl.EV.items_own, Pl.EV.items_brw, Pl.EV.items_lst, if_true, if_false, reduceIte, Bool.false_eq_true, Bool.not_true, Bool.not_false, List.set_cons_zero, List.set_cons_succ, Pl.wipeE, List.map_cons, List.map_nil, Pl.setE, Pl.bindT, Pl.bindNames, Nat.zero_lt_succ, Nat.succ_lt_succ_iff, Nat.lt_add_one, Pl.tru_bl, Pl.tru_int, Pl.its_tup, Pl.its_lst, Pl.its_own, Pl.its_brw, Pl.its_str, Pl.enum_tup, Pl.eq_int, Pl.ne_int, Pl.lt_int, Pl.le_int, Pl.gt_int, Pl.ge_int, Pl.add_int, Pl.sub_int, Pl.len_tup, Pl.len_own, Pl.len_brw, Pl.len_lst, Pl.idx_tup, Pl.idx_lst, Pl.idx_own, Pl.idx_brw, Pl.in_dic, Pl.nin_dic, Pl.idx_dic, Pl.is_non, Pl.isn_non, Pl.at_zero, Pl.at_one, sizeLine_eq, Nat.reduceAdd, Nat.reduceLeDiff, hc, c2, decide_true, decide_false, h]
    · refine ⟨p, S, ?_, hS, hp, hs⟩
      simp only [Pl.runFn, List.length_cons, List.length_nil, Pl.startE_cons, Pl.startE_nil, Pl.repl_succ, List.replicate_zero, Nat.zero_add, Pl.execs, Pl.exec, Pl.evalT, Pl.evalE, Pl.evalVs, Pl.evalP, Pl.evalI, Pl.evalJ, List.getElem?_cons_zero, List.getElem?_cons_succ, Pl.Res.bind_ok, Pl.Res.bind_exc, Pl.Res.bind_stuck, Pl.Res.to_ok, Pl.Res.to_exc, Pl.Res.to_stuck, Pl.Res.calm_ok, Pl.SR.andThen_next, Pl.SR.andThen_ret, Pl.SR.andThen_brk, Pl.SR.andThen_cont, Pl.SR.andThen_exc, Pl.SR.andThen_stuck, Pl.gcE_self, Pl.gcX_self, Pl.optR_some, Pl.optR_none, Pl.EV.val_d, Pl.EV.val_own, Pl.EV.items_own, Pl.EV.items_brw, Pl.EV.items_lst, if_true, if_false, reduceIte, Bool.false_eq_true, Bool.not_true, Bool.not_false, List.set_cons_zero, List.set_cons_succ, Pl.wipeE, List.map_cons, List.map_nil, Pl.setE, Pl.bindT, Pl.bindNames, Nat.zero_lt_succ, Nat.succ_lt_succ_iff, Nat.lt_add_one, Pl.tru_bl, Pl.tru_int, Pl.its_tup, Pl.its_lst, Pl.its_own, Pl.its_brw, Pl.its_str, Pl.enum_tup, Pl.eq_int, Pl.ne_int, Pl.lt_int, Pl.le_int, Pl.gt_int, Pl.ge_int, Pl.add_int, Pl.sub_int, Pl.len_tup, Pl.len_own, Pl.len_brw, Pl.len_lst, Pl.idx_tup, Pl.idx_lst, Pl.idx_own, Pl.idx_brw, Pl.in_dic, Pl.nin_dic, Pl.idx_dic, Pl.is_non, Pl.isn_non, Pl.at_zero, Pl.at_one, sizeLine_eq, Nat.reduceAdd, Nat.reduceLeDiff, hc, c, decide_false]
theorem chars_in (c : Nat) : c ∈ letters → c = 110 ∨ c = 107 ∨ c = 116 ∨ c = 115 ∨ c = 114 ∨ c = 102 ∨ c = 112 ∨ c = 111 ∨ c = 105 ∨ c = 109 := by
  intro h
  simpa [letters] using h
theorem okc {c : Nat} (h : c ∈ letters) : okZ (⟨#[c]⟩ : Str) := by
  rcases chars_in c h with rfl | rfl | rfl | rfl | rfl | rfl | rfl | rfl | rfl | rfl <;> decide +kernel
theorem eqc (c e : Nat) (z : Str) (S : Sto) (hc : okZ (⟨#[c]⟩ : Str)) (hz : z = (⟨#[e]⟩ : Str)) (he : okZ z) : cmpV .Eq S (.d (.str ⟨#[c]⟩)) (.d (.str z)) = some (decide (c = e)) := by
  rw [eq_str hc he, hz]
  by_cases h : c = e
  · subst h; simp
  · rw [decide_eq_false h, decide_eq_false fun q => h (by
      have := congrArg (fun s : Str => s.cps.toList) q
      simpa using this)]
theorem inc (c : Nat) (h : c ∈ letters) (S : Sto) : cmpV .In S (.d (.str ⟨#[c]⟩)) (.d (.str (Str.ofString "tsr"))) = some (decide (c = 116 ∨ c = 115 ∨ c = 114)) ∧ cmpV .In S (.d (.str ⟨#[c]⟩)) (.d (.str (Str.ofString "fpo"))) = some (decide (c = 102 ∨ c = 112 ∨ c = 111)) := by
  have e1 : cmpV .In S (.d (.str ⟨#[c]⟩)) (.d (.str (Str.ofString "tsr"))) = some (!(Builtin.Str.occurrences (Str.ofString "tsr") ⟨#[c]⟩ 0 (Str.ofString "tsr").length 1).isEmpty) := rfl
  have e2 : cmpV .In S (.d (.str ⟨#[c]⟩)) (.d (.str (Str.ofString "fpo"))) = some (!(Builtin.Str.occurrences (Str.ofString "fpo") ⟨#[c]⟩ 0 (Str.ofString "fpo").length 1).isEmpty) := rfl
  rw [e1, e2]
  rcases chars_in c h with rfl | rfl | rfl | rfl | rfl | rfl | rfl | rfl | rfl | rfl <;> decide +kernel
end K20
end

section
set_option Elab.async false
set_option linter.all false
set_option maxRecDepth 100000
set_option maxHeartbeats 4000000
/-! k20: _law_thing, whole. -/
namespace K20
open PySem hiding exec execs
open L2 Pl
theorem idxD3 (a b c : D) {r : Int} (h0 : 0 ≤ r) (h1 : r < 3) : ∃ v, atI [a, b, c] r = some v ∧ v ∈ [a, b, c] := by
  obtain rfl | rfl | rfl : r = 0 ∨ r = 1 ∨ r = 2 := by omega
  · exact ⟨a, rfl, by simp⟩
  · exact ⟨b, rfl, by simp⟩
  · exact ⟨c, rfl, by simp⟩
theorem th_loop (k : Nat) (b : Bool) (d : Nat) (pick : Int) {p : Str × Str} {S : Sto} (hp : p ∈ shL b) (hs : Small d p) (hS : BS S)
    (ih : 1 ≤ d → ∀ (b : Bool) (S : Sto), BS S → ∃ v S', R (k + 4) "_law_thing" [.ref 0, .bl b, .int ((d - 1 : Nat) : Int)] S = .ok (.d v) S' ∧ BS S' ∧ TG (d - 1) b v) :
    ∃ v S', Pl.execs gd (R (k + 4)) (bT.drop 7) (r7 b d pick p) S = .ret (.d v) S' ∧ BS S' ∧ TG d b v := by
  have P := sh_ok hp
  have hmx : (if ((d : Int) - 1) > 0 then (d : Int) - 1 else 0) = ((d - 1 : Nat) : Int) := by split <;> omega
  unfold bT n_law_thing r7
  simp only [List.drop_succ_cons, List.drop_zero]
  simp only [Pl.runFn, List.length_cons, List.length_nil, Pl.startE_cons, Pl.startE_nil, Pl.repl_succ, List.replicate_zero, Nat.zero_add, Pl.execs, Pl.exec, Pl.evalT, Pl.evalE, Pl.evalVs, Pl.evalP, Pl.evalI, Pl.evalJ, List.getElem?_cons_zero, List.getElem?_cons_succ, Pl.Res.bind_ok, Pl.Res.bind_exc, Pl.Res.bind_stuck, Pl.Res.to_ok, Pl.Res.to_exc, Pl.Res.to_stuck, Pl.Res.calm_ok, Pl.SR.andThen_next, Pl.SR.andThen_ret, Pl.SR.andThen_brk, Pl.SR.andThen_cont, Pl.SR.andThen_exc, Pl.SR.andThen_stuck, Pl.gcE_self, Pl.gcX_self, Pl.optR_some, Pl.optR_none, Pl.EV.val_d, Pl.EV.val_own, Pl.EV.items_own, Pl.EV.items_brw, Pl.EV.items_lst, if_true, if_false, reduceIte, Bool.false_eq_true, Bool.not_true, Bool.not_false, List.set_cons_zero, List.set_cons_succ, Pl.wipeE, List.map_cons, List.map_nil, Pl.setE, Pl.bindT, Pl.bindNames, Nat.zero_lt_succ, Nat.succ_lt_succ_iff, Nat.lt_add_one, Pl.tru_bl, Pl.tru_int, Pl.its_tup, Pl.its_lst, Pl.its_own, Pl.its_brw, Pl.its_str, Pl.enum_tup, Pl.eq_int, Pl.ne_int, Pl.lt_int, Pl.le_int, Pl.gt_int, Pl.ge_int, Pl.add_int, Pl.sub_int, Pl.len_tup, Pl.len_own, Pl.len_brw, Pl.len_lst, Pl.idx_tup, Pl.idx_lst, Pl.idx_own, Pl.idx_brw, Pl.in_dic, Pl.nin_dic, Pl.idx_dic, Pl.is_non, Pl.isn_non, Pl.at_zero, Pl.at_one, sizeLine_eq, Nat.reduceAdd, Nat.reduceLeDiff]
  generalize hf : forLoop _ _ _ _ _ = r
  have hq : ∃ vs ρ S', r = .next ρ S' ∧ ρ[5]? = some (some (.own (.str p.1 :: vs))) ∧ BS S' ∧ A2 (CharOk d) p.2.cps.toList vs := by
    rw [← hf]
    refine for_inv (fun xs ρ S => BS S ∧ ∃ cs done vs a, xs = cs.map (fun c => D.str ⟨#[c]⟩) ∧ p.2.cps.toList = done ++ cs ∧ A2 (CharOk d) done vs ∧ vs.length ≤ 5 ∧
        ρ = [some (.d (.ref 0)), some (.d (.bl b)), some (.d (.int d)), some (.d (.lst (shD b))), some (.d (.int pick)), some (.own (.str p.1 :: vs)), a, some (.d (.str p.1)), some (.d (.str p.2))])
      (fun r => ∃ vs ρ S', r = .next ρ S' ∧ ρ[5]? = some (some (.own (.str p.1 :: vs))) ∧ BS S' ∧ A2 (CharOk d) p.2.cps.toList vs)
      _ _ S ⟨hS, p.2.cps.toList, [], [], _, rfl, rfl, trivial, Nat.zero_le _, rfl⟩ (fun _ _ _ _ => rfl) ?_ ?_
    · rintro ρ S' ⟨hB, cs, done, vs, a, e, e2, h2, _, rfl⟩
      have : cs = [] := by cases cs with | nil => rfl | cons _ _ => cases e
      subst this
      rw [List.append_nil] at e2
      exact ⟨vs, _, S', rfl, rfl, hB, by rw [e2]; exact h2⟩
    · rintro x xs ρ S' ⟨hB, cs, done, vs, a, e, e2, h2, h5, rfl⟩
      cases cs with
      | nil => cases e
      | cons c cs =>
        rw [List.map_cons] at e
        cases e
        have hc : c ∈ p.2.cps.toList := by rw [e2]; simp
        have hl := P.l c hc
        have ok := okc hl
        have hn := fun S => eqc c 110 (Str.ofString "n") S ok (by decide +kernel) (by decide +kernel)
        have hk := fun S => eqc c 107 (Str.ofString "k") S ok (by decide +kernel) (by decide +kernel)
        have hi := fun S => eqc c 105 (Str.ofString "i") S ok (by decide +kernel) (by decide +kernel)
        have ht := fun S => (inc c hl S).1
        have hfp := fun S => (inc c hl S).2
        have hlen : vs.length + 1 < 16777216 := by omega
        have hd1 : c ≠ 110 → 1 ≤ d := fun q => by
          cases d with
          | zero =>
            rcases hs rfl with e3 | e3 <;> rw [e3] at hc
            · cases hc
            · exact (q (by simpa using hc)).elim
          | succ d => omega
        -- the item is put at the end
        have fin : ∀ v S2, BS S2 → CharOk d c v → (∃ ρ' S'', SR.next [some (.d (.ref 0)), some (.d (.bl b)), some (.d (.int d)), some (.d (.lst (shD b))), some (.d (.int pick)), some (.own (.str p.1 :: (vs ++ [v]))), some (.d (.str ⟨#[c]⟩)), some (.d (.str p.1)), some (.d (.str p.2))] S2 = .next ρ' S'' ∧ BS S'' ∧
            ∃ cs' done vs a, cs.map (fun c => D.str ⟨#[c]⟩) = cs'.map (fun c => D.str ⟨#[c]⟩) ∧ p.2.cps.toList = done ++ cs' ∧ A2 (CharOk d) done vs ∧ vs.length ≤ 5 ∧
              ρ' = [some (.d (.ref 0)), some (.d (.bl b)), some (.d (.int d)), some (.d (.lst (shD b))), some (.d (.int pick)), some (.own (.str p.1 :: vs)), a, some (.d (.str p.1)), some (.d (.str p.2))]) := by
          intro v S2 hB2 hv
          have hA := A2_snoc hv h2
          refine ⟨_, S2, rfl, hB2, cs, done ++ [c], vs ++ [v], _, rfl, by rw [e2]; simp, hA, ?_, rfl⟩
          rw [← A2_len hA]
          have := P.m
          rw [e2] at this
          simp at this ⊢
          omega
        by_cases c1 : c = 110
        · obtain ⟨z, S2, hz, hB2, mz⟩ := s_law_name (k + 2) hB
          have hn := fun S => (hn S).trans (congrArg some (decide_eq_true c1))
          simp only [Pl.runFn, List.length_cons, List.length_nil, Pl.startE_cons, Pl.startE_nil, Pl.repl_succ, List.replicate_zero, Nat.zero_add, Pl.execs, Pl.exec, Pl.evalT, Pl.evalE, Pl.evalVs, Pl.evalP, Pl.evalI, Pl.evalJ, List.getElem?_cons_zero, List.getElem?_cons_succ, Pl.Res.bind_ok, Pl.Res.bind_exc, Pl.Res.bind_stuck, Pl.Res.to_ok, Pl.Res.to_exc, Pl.Res.to_stuck, Pl.Res.calm_ok, Pl.SR.andThen_next, Pl.SR.andThen_ret, Pl.SR.andThen_brk, Pl.SR.andThen_cont, Pl.SR.andThen_exc, Pl.SR.andThen_stuck, Pl.gcE_self, Pl.gcX_self, Pl.optR_some, Pl.optR_none, Pl.EV.val_d, Pl.EV.val_own, Pl.EV.items_own, Pl.EV.items_brw, Pl.EV.items_lst, if_true, if_false, reduceIte, Bool.false_eq_true, Bool.not_true, Bool.not_false, List.set_cons_zero, List.set_cons_succ, Pl.wipeE, List.map_cons, List.map_nil, Pl.setE, Pl.bindT, Pl.bindNames, Nat.zero_lt_succ, Nat.succ_lt_succ_iff, Nat.lt_add_one, Pl.tru_bl, Pl.tru_int, Pl.its_tup, Pl.its_lst, Pl.its_own, Pl.its_brw, Pl.its_str, Pl.enum_tup, Pl.eq_int, Pl.ne_int, Pl.lt_int, Pl.le_int, Pl.gt_int, Pl.ge_int, Pl.add_int, Pl.sub_int, Pl.len_tup, Pl.len_own, Pl.len_brw, Pl.len_lst, Pl.idx_tup, Pl.idx_lst, Pl.idx_own, Pl.idx_brw, Pl.in_dic, Pl.nin_dic, Pl.idx_dic, Pl.is_non, Pl.isn_non, Pl.at_zero, Pl.at_one, sizeLine_eq, Nat.reduceAdd, Nat.reduceLeDiff, hn, slotL, hz, putL, hlen, List.cons_append]
          subst c1
          exact .inl (fin _ S2 hB2 (c_nm mz))
        · by_cases c2 : c = 107
          · obtain ⟨v, S2, hz, hB2, mv⟩ := s_law_kind1 k hB
            have hk := fun S => (hk S).trans (congrArg some (decide_eq_true c2))
            simp only [Pl.runFn, List.length_cons, List.length_nil, Pl.startE_cons, Pl.startE_nil, Pl.repl_succ, List.replicate_zero, Nat.zero_add, Pl.execs, Pl.exec, Pl.evalT, Pl.evalE, Pl.evalVs, Pl.evalP, Pl.evalI, Pl.evalJ, List.getElem?_cons_zero, List.getElem?_cons_succ, Pl.Res.bind_ok, Pl.Res.bind_exc, Pl.Res.bind_stuck, Pl.Res.to_ok, Pl.Res.to_exc, Pl.Res.to_stuck, Pl.Res.calm_ok, Pl.SR.andThen_next, Pl.SR.andThen_ret, Pl.SR.andThen_brk, Pl.SR.andThen_cont, Pl.SR.andThen_exc, Pl.SR.andThen_stuck, Pl.gcE_self, Pl.gcX_self, Pl.optR_some, Pl.optR_none, Pl.EV.val_d, Pl.EV.val_own, Pl.EV.items_own, Pl.EV.items_brw, Pl.EV.items_lst, if_true, if_false, reduceIte, Bool.false_eq_true, Bool.not_true, Bool.not_false, List.set_cons_zero, List.set_cons_succ, Pl.wipeE, List.map_cons, List.map_nil, Pl.setE, Pl.bindT, Pl.bindNames, Nat.zero_lt_succ, Nat.succ_lt_succ_iff, Nat.lt_add_one, Pl.tru_bl, Pl.tru_int, Pl.its_tup, Pl.its_lst, Pl.its_own, Pl.its_brw, Pl.its_str, Pl.enum_tup, Pl.eq_int, Pl.ne_int, Pl.lt_int, Pl.le_int, Pl.gt_int, Pl.ge_int, Pl.add_int, Pl.sub_int, Pl.len_tup, Pl.len_own, Pl.len_brw, Pl.len_lst, Pl.idx_tup, Pl.idx_lst, Pl.idx_own, Pl.idx_brw, Pl.in_dic, Pl.nin_dic, Pl.idx_dic, Pl.is_non, Pl.isn_non, Pl.at_zero, Pl.at_one, sizeLine_eq, Nat.reduceAdd, Nat.reduceLeDiff, hn, hk, c1, decide_false, slotL, hz, putL, hlen, List.cons_append]
            subst c2
            exact .inl (fin _ S2 hB2 (c_kind (hd1 c1) mv))
          · by_cases c3 : c = 116 ∨ c = 115 ∨ c = 114
            · obtain ⟨v, S2, hz, hB2, mv⟩ := ih (hd1 c1) false S' hB
              simp only [Pl.runFn, List.length_cons, List.length_nil, Pl.startE_cons, Pl.startE_nil, Pl.repl_succ, List.replicate_zero, Nat.zero_add, Pl.execs, Pl.exec, Pl.evalT, Pl.evalE, Pl.evalVs, Pl.evalP, Pl.evalI, Pl.evalJ, List.getElem?_cons_zero, List.getElem?_cons_succ, Pl.Res.bind_ok, Pl.Res.bind_exc, Pl.Res.bind_stuck, Pl.Res.to_ok, Pl.Res.to_exc, Pl.Res.to_stuck, Pl.Res.calm_ok, Pl.SR.andThen_next, Pl.SR.andThen_ret, Pl.SR.andThen_brk, Pl.SR.andThen_cont, Pl.SR.andThen_exc, Pl.SR.andThen_stuck, Pl.gcE_self, Pl.gcX_self, Pl.optR_some, Pl.optR_none, Pl.EV.val_d, Pl.EV.val_own, Pl.EV.items_own, Pl.EV.items_brw, Pl.EV.items_lst, if_true, if_false, reduceIte, Bool.false_eq_true, Bool.not_true, Bool.not_false, List.set_cons_zero, List.set_cons_succ, Pl.wipeE, List.map_cons, List.map_nil, Pl.setE, Pl.bindT, Pl.bindNames, Nat.zero_lt_succ, Nat.succ_lt_succ_iff, Nat.lt_add_one, Pl.tru_bl, Pl.tru_int, Pl.its_tup, Pl.its_lst, Pl.its_own, Pl.its_brw, Pl.its_str, Pl.enum_tup, Pl.eq_int, Pl.ne_int, Pl.lt_int, Pl.le_int, Pl.gt_int, Pl.ge_int, Pl.add_int, Pl.sub_int, Pl.len_tup, Pl.len_own, Pl.len_brw, Pl.len_lst, Pl.idx_tup, Pl.idx_lst, Pl.idx_own, Pl.idx_brw, Pl.in_dic, Pl.nin_dic, Pl.idx_dic, Pl.is_non, Pl.isn_non, Pl.at_zero, Pl.at_one, sizeLine_eq, Nat.reduceAdd, Nat.reduceLeDiff, hn, hk, ht, c1, c2, c3, decide_true, decide_false, max_int, hmx, slotL, hz, putL, hlen, List.cons_append]
              refine .inl (fin _ S2 hB2 (c_th (b := false) (hd1 c1) ?_ ?_ mv))
              · rcases c3 with rfl | rfl | rfl <;> rfl
              · rcases c3 with rfl | rfl | rfl <;> rfl
            · by_cases c4 : c = 102 ∨ c = 112 ∨ c = 111
              · obtain ⟨v, S2, hz, hB2, mv⟩ := ih (hd1 c1) true S' hB
                simp only [Pl.runFn, List.length_cons, List.length_nil, Pl.startE_cons, Pl.startE_nil, Pl.repl_succ, List.replicate_zero, Nat.zero_add, Pl.execs, Pl.exec, Pl.evalT, Pl.evalE, Pl.evalVs, Pl.evalP, Pl.evalI, Pl.evalJ, List.getElem?_cons_zero, List.getElem?_cons_succ, Pl.Res.bind_ok, Pl.Res.bind_exc, Pl.Res.bind_stuck, Pl.Res.to_ok, Pl.Res.to_exc, Pl.Res.to_stuck, Pl.Res.calm_ok, Pl.SR.andThen_next, Pl.SR.andThen_ret, Pl.SR.andThen_brk, Pl.SR.andThen_cont, Pl.SR.andThen_exc, Pl.SR.andThen_stuck, Pl.gcE_self, Pl.gcX_self, Pl.optR_some, Pl.optR_none, Pl.EV.val_d, Pl.EV.val_own, Pl.EV.items_own, Pl.EV.items_brw, Pl.EV.items_lst, if_true, if_false, reduceIte, Bool.false_eq_true, Bool.not_true, Bool.not_false, List.set_cons_zero, List.set_cons_succ, Pl.wipeE, List.map_cons, List.map_nil, Pl.setE, Pl.bindT, Pl.bindNames, Nat.zero_lt_succ, Nat.succ_lt_succ_iff, Nat.lt_add_one, Pl.tru_bl, Pl.tru_int, Pl.its_tup, Pl.its_lst, Pl.its_own, Pl.its_brw, Pl.its_str, Pl.enum_tup, Pl.eq_int, Pl.ne_int, Pl.lt_int, Pl.le_int, Pl.gt_int, Pl.ge_int, Pl.add_int, Pl.sub_int, Pl.len_tup, Pl.len_own, Pl.len_brw, Pl.len_lst, Pl.idx_tup, Pl.idx_lst, Pl.idx_own, Pl.idx_brw, Pl.in_dic, Pl.nin_dic, Pl.idx_dic, Pl.is_non, Pl.isn_non, Pl.at_zero, Pl.at_one, sizeLine_eq, Nat.reduceAdd, Nat.reduceLeDiff, hn, hk, ht, hfp, c1, c2, c3, c4, decide_true, decide_false, max_int, hmx, slotL, hz, putL, hlen, List.cons_append]
                refine .inl (fin _ S2 hB2 (c_th (b := true) (hd1 c1) ?_ ?_ mv))
                · rcases c4 with rfl | rfl | rfl <;> rfl
                · rcases c4 with rfl | rfl | rfl <;> rfl
              · obtain ⟨r, S2, hz, hB2, r0, r1⟩ := s_law_draw (k + 3) (many := 3) (by decide) (by decide) hB
                by_cases c5 : c = 105
                · obtain ⟨v, ev, mv⟩ := idxD3 (.tup [.int 0, .int 1]) (.tup []) (.tup [.tup [.tup [.int 0], .int 3], .int 2]) r0 r1
                  have hi := fun S => (hi S).trans (congrArg some (decide_eq_true c5))
                  simp only [Pl.runFn, List.length_cons, List.length_nil, Pl.startE_cons, Pl.startE_nil, Pl.repl_succ, List.replicate_zero, Nat.zero_add, Pl.execs, Pl.exec, Pl.evalT, Pl.evalE, Pl.evalVs, Pl.evalP, Pl.evalI, Pl.evalJ, List.getElem?_cons_zero, List.getElem?_cons_succ, Pl.Res.bind_ok, Pl.Res.bind_exc, Pl.Res.bind_stuck, Pl.Res.to_ok, Pl.Res.to_exc, Pl.Res.to_stuck, Pl.Res.calm_ok, Pl.SR.andThen_next, Pl.SR.andThen_ret, Pl.SR.andThen_brk, Pl.SR.andThen_cont, Pl.SR.andThen_exc, Pl.SR.andThen_stuck, Pl.gcE_self, Pl.gcX_self, Pl.optR_some, Pl.optR_none, Pl.EV.val_d, Pl.EV.val_own, Pl.EV.items_own, Pl.EV.items_brw, Pl.EV.items_lst, if_true, if_false, reduceIte, Bool.false_eq_true, Bool.not_true, Bool.not_false, List.set_cons_zero, List.set_cons_succ, Pl.wipeE, List.map_cons, List.map_nil, Pl.setE, Pl.bindT, Pl.bindNames, Nat.zero_lt_succ, Nat.succ_lt_succ_iff, Nat.lt_add_one, Pl.tru_bl, Pl.tru_int, Pl.its_tup, Pl.its_lst, Pl.its_own, Pl.its_brw, Pl.its_str, Pl.enum_tup, Pl.eq_int, Pl.ne_int, Pl.lt_int, Pl.le_int, Pl.gt_int, Pl.ge_int, Pl.add_int, Pl.sub_int, Pl.len_tup, Pl.len_own, Pl.len_brw, Pl.len_lst, Pl.idx_tup, Pl.idx_lst, Pl.idx_own, Pl.idx_brw, Pl.in_dic, Pl.nin_dic, Pl.idx_dic, Pl.is_non, Pl.isn_non, Pl.at_zero, Pl.at_one, sizeLine_eq, Nat.reduceAdd, Nat.reduceLeDiff, hn, hk, ht, hfp, hi, c1, c2, c3, c4, decide_false, slotL, hz, ev, putL, hlen, List.cons_append]
                  subst c5
                  exact .inl (fin _ S2 hB2 (c_el (hd1 c1) mv))
                · obtain ⟨v, ev, mv⟩ := idxD3 (.tup [.tup [.int 0, .int 1], .tup [.int 1]]) (.tup []) (.tup [.tup [.tup [], .tup [.int 0, .int 1]]]) r0 r1
                  simp only [Pl.runFn, List.length_cons, List.length_nil, Pl.startE_cons, Pl.startE_nil, Pl.repl_succ, List.replicate_zero, Nat.zero_add, Pl.execs, Pl.exec, Pl.evalT, Pl.evalE, Pl.evalVs, Pl.evalP, Pl.evalI, Pl.evalJ, List.getElem?_cons_zero, List.getElem?_cons_succ, Pl.Res.bind_ok, Pl.Res.bind_exc, Pl.Res.bind_stuck, Pl.Res.to_ok, Pl.Res.to_exc, Pl.Res.to_stuck, Pl.Res.calm_ok, Pl.SR.andThen_next, Pl.SR.andThen_ret, Pl.SR.andThen_brk, Pl.SR.andThen_cont, Pl.SR.andThen_exc, Pl.SR.andThen_stuck, Pl.gcE_self, Pl.gcX_self, Pl.optR_some, Pl.optR_none, Pl.EV.val_d, Pl.EV.val_own, Pl.EV.items_own, Pl.EV.items_brw, Pl.EV.items_lst, if_true, if_false, reduceIte, Bool.false_eq_true, Bool.not_true, Bool.not_false, List.set_cons_zero, List.set_cons_succ, Pl.wipeE, List.map_cons, List.map_nil, Pl.setE, Pl.bindT, Pl.bindNames, Nat.zero_lt_succ, Nat.succ_lt_succ_iff, Nat.lt_add_one, Pl.tru_bl, Pl.tru_int, Pl.its_tup, Pl.its_lst, Pl.its_own, Pl.its_brw, Pl.its_str, Pl.enum_tup, Pl.eq_int, Pl.ne_int, Pl.lt_int, Pl.le_int, Pl.gt_int, Pl.ge_int, Pl.add_int, Pl.sub_int, Pl.len_tup, Pl.len_own, Pl.len_brw, Pl.len_lst, Pl.idx_tup, Pl.idx_lst, Pl.idx_own, Pl.idx_brw, Pl.in_dic, Pl.nin_dic, Pl.idx_dic, Pl.is_non, Pl.isn_non, Pl.at_zero, Pl.at_one, sizeLine_eq, Nat.reduceAdd, Nat.reduceLeDiff, hn, hk, ht, hfp, hi, c1, c2, c3, c4, c5, decide_true, decide_false, slotL, hz, ev, putL, hlen, List.cons_append]
                  have c6 : c = 109 := by
                    rcases chars_in c hl with h | h | h | h | h | h | h | h | h | h <;> simp_all
                  subst c6
                  exact .inl (fin _ S2 hB2 (c_li (hd1 c1) mv))
  obtain ⟨vs, ρ, S', rfl, h5, hB, hA⟩ := hq
  refine ⟨.tup (.str p.1 :: vs), S', ?_, hB, thing_ok hp hs hA⟩
  simp only [Pl.runFn, List.length_cons, List.length_nil, Pl.startE_cons, Pl.startE_nil, Pl.repl_succ, List.replicate_zero, Nat.zero_add, Pl.execs, Pl.exec, Pl.evalT, Pl.evalE, Pl.evalVs, Pl.evalP, Pl.evalI, Pl.evalJ, List.getElem?_cons_zero, List.getElem?_cons_succ, Pl.Res.bind_ok, Pl.Res.bind_exc, Pl.Res.bind_stuck, Pl.Res.to_ok, Pl.Res.to_exc, Pl.Res.to_stuck, Pl.Res.calm_ok, Pl.SR.andThen_next, Pl.SR.andThen_ret, Pl.SR.andThen_brk, Pl.SR.andThen_cont, Pl.SR.andThen_exc, Pl.SR.andThen_stuck, Pl.gcE_self, Pl.gcX_self, Pl.optR_some, Pl.optR_none, Pl.EV.val_d, Pl.EV.val_own, Pl.EV.items_own, Pl.EV.items_brw, Pl.EV.items_lst, if_true, if_false, reduceIte, Bool.false_eq_true, Bool.not_true, Bool.not_false, List.set_cons_zero, List.set_cons_succ, Pl.wipeE, List.map_cons, List.map_nil, Pl.setE, Pl.bindT, Pl.bindNames, Nat.zero_lt_succ, Nat.succ_lt_succ_iff, Nat.lt_add_one, Pl.tru_bl, Pl.tru_int, Pl.its_tup, Pl.its_lst, Pl.its_own, Pl.its_brw, Pl.its_str, Pl.enum_tup, Pl.eq_int, Pl.ne_int, Pl.lt_int, Pl.le_int, Pl.gt_int, Pl.ge_int, Pl.add_int, Pl.sub_int, Pl.len_tup, Pl.len_own, Pl.len_brw, Pl.len_lst, Pl.idx_tup, Pl.idx_lst, Pl.idx_own, Pl.idx_brw, Pl.in_dic, Pl.nin_dic, Pl.idx_dic, Pl.is_non, Pl.isn_non, Pl.at_zero, Pl.at_one, sizeLine_eq, Nat.reduceAdd, Nat.reduceLeDiff, h5, tuple_brw]
theorem s_law_thing : ∀ (d k : Nat) (b : Bool) (S : Sto), BS S → ∃ v S', R (k + d + 6) "_law_thing" [.ref 0, .bl b, .int (d : Int)] S = .ok (.d v) S' ∧ BS S' ∧ TG d b v := by
  intro d
  induction d with
  | zero =>
    intro k b S hS
    obtain ⟨pick, p1, S1, e1, hB1, m1⟩ := th_a (k + 4) b 0 hS
    obtain ⟨p2, S2, e2, hB2, m2, s2⟩ := th_b (k + 4) b 0 pick m1 hB1
    obtain ⟨p3, S3, e3, hB3, m3, s3⟩ := th_c (k + 4) b 0 pick m2 s2 hB2
    obtain ⟨v, S4, e4, hB4, hv⟩ := th_loop (k + 1) b 0 pick m3 s3 hB3 (fun h => absurd h (by decide))
    refine ⟨v, S4, ?_, hB4, hv⟩
    rw [show k + 0 + 6 = (k + 5) + 1 from rfl, R_law_thing]
    unfold runFn
    rw [if_pos (by rfl), show n_law_thing.body = bT from rfl, bT_cut]
    rw [show startE n_law_thing.N [D.ref 0, D.bl b, D.int ((0 : Nat) : Int)] = [some (.d (.ref 0)), some (.d (.bl b)), some (.d (.int ((0 : Nat) : Int))), none, none, none, none, none, none] from rfl]
    rw [show k + 1 + 4 = k + 4 + 1 by omega] at e4
    rw [show k + 5 = k + 4 + 1 from rfl, execs_app, e1, SR.andThen_next, execs_app, e2, SR.andThen_next, execs_app, e3, SR.andThen_next, e4]
    exact gcE_len _ (BS_len hS hB4)
  | succ d ih =>
    intro k b S hS
    obtain ⟨pick, p1, S1, e1, hB1, m1⟩ := th_a (k + d + 5) b (d + 1) hS
    obtain ⟨p2, S2, e2, hB2, m2, s2⟩ := th_b (k + d + 5) b (d + 1) pick m1 hB1
    obtain ⟨p3, S3, e3, hB3, m3, s3⟩ := th_c (k + d + 5) b (d + 1) pick m2 s2 hB2
    obtain ⟨v, S4, e4, hB4, hv⟩ := th_loop (k + d + 2) b (d + 1) pick m3 s3 hB3 (fun _ b S hS => by
      rw [show k + d + 2 + 4 = k + d + 6 from rfl, show d + 1 - 1 = d from rfl]
      exact ih k b S hS)
    refine ⟨v, S4, ?_, hB4, hv⟩
    rw [show k + (d + 1) + 6 = (k + d + 6) + 1 by omega, R_law_thing]
    unfold runFn
    rw [if_pos (by rfl), show n_law_thing.body = bT from rfl, bT_cut]
    rw [show startE n_law_thing.N [D.ref 0, D.bl b, D.int ((d + 1 : Nat) : Int)] = [some (.d (.ref 0)), some (.d (.bl b)), some (.d (.int ((d + 1 : Nat) : Int))), none, none, none, none, none, none] from rfl]
    rw [show k + d + 2 + 4 = k + d + 5 + 1 by omega] at e4
    rw [show k + d + 6 = k + d + 5 + 1 from rfl, execs_app, e1, SR.andThen_next, execs_app, e2, SR.andThen_next, execs_app, e3, SR.andThen_next, e4]
    exact gcE_len _ (BS_len hS hB4)
end K20
end

section
set_option Elab.async false
set_option linter.all false
set_option maxRecDepth 100000
set_option maxHeartbeats 4000000
/-! k20: _law_parts, _law_free. -/
namespace K20
open PySem hiding exec execs
open L2 Pl
def lpD (xs : List D) (w : Str) : List D := (lps w).map fun q => .tup [.int q.1, bndV xs q.2]
theorem atI2 {α : Type} (xs : List α) : atI xs 2 = xs[2]? := Pl.at_k xs 2
theorem atI4 {α : Type} (xs : List α) : atI xs 4 = xs[4]? := Pl.at_k xs 4
theorem s_law_parts (k : Nat) {w : Str} {args : List D} (S : Sto) (ok : okZ w) (hb : ∀ q ∈ lps w, ∀ j, q.2 = some j → ∃ y, atI (.str w :: args) j = some y) : R (k + 1) "_law_parts" [.tup (.str w :: args)] S = .ok (.own (lpD (.str w :: args) w)) S := by
  rw [R_law_parts]
  unfold n_law_parts lpD
  have e1 : cmpV .Eq S (.d (.str w)) (.d (.str "cases")) = some (decide (w = "cases")) := eq_str ok (by decide +kernel)
  have e2 : cmpV .In S (.d (.str w)) (.d (.tup [.str "fun", .str "set", .str "the", .str "all", .str "some"])) = some (decide (w ∈ (["fun", "set", "the", "all", "some"] : List Str))) := in_tup (ws := ["fun", "set", "the", "all", "some"]) ok (by decide +kernel)
  have e3 : cmpV .In S (.d (.str w)) (.d (.tup [.str "pair", .str "app", .str "equal", .str "in", .str "and", .str "or", .str "if"])) = some (decide (w ∈ (["pair", "app", "equal", "in", "and", "or", "if"] : List Str))) := in_tup (ws := ["pair", "app", "equal", "in", "and", "or", "if"]) ok (by decide +kernel)
  have e4 : cmpV .In S (.d (.str w)) (.d (.tup [.str "call", .str "into"])) = some (decide (w ∈ (["call", "into"] : List Str))) := in_tup (ws := ["call", "into"]) ok (by decide +kernel)
  have e5 : cmpV .In S (.d (.str w)) (.d (.tup [.str "first", .str "second", .str "out", .str "when", .str "so", .str "not", .str "near", .str "left"])) = some (decide (w ∈ (["first", "second", "out", "when", "so", "not", "near", "left"] : List Str))) := in_tup (ws := ["first", "second", "out", "when", "so", "not", "near", "left"]) ok (by decide +kernel)
  have e6 : cmpV .Eq S (.d (.str w)) (.d (.str "right")) = some (decide (w = "right")) := eq_str ok (by decide +kernel)
  by_cases c1 : w = "cases"
  · have el : lps w = [(1, none), (3, some 2), (5, some 4)] := by unfold lps; rw [if_pos c1]
    rw [el] at hb ⊢
    obtain ⟨a, ha⟩ := hb (3, some 2) (by simp) 2 rfl
    obtain ⟨b, hb⟩ := hb (5, some 4) (by simp) 4 rfl
    have e1 := e1.trans (congrArg some (decide_eq_true c1))
    simp only [Pl.runFn, List.length_cons, List.length_nil, Pl.startE_cons, Pl.startE_nil, Pl.repl_succ, List.replicate_zero, Nat.zero_add, Pl.execs, Pl.exec, Pl.evalT, Pl.evalE, Pl.evalVs, Pl.evalP, Pl.evalI, Pl.evalJ, List.getElem?_cons_zero, List.getElem?_cons_succ, Pl.Res.bind_ok, Pl.Res.bind_exc, Pl.Res.bind_stuck, Pl.Res.to_ok, Pl.Res.to_exc, Pl.Res.to_stuck, Pl.Res.calm_ok, Pl.SR.andThen_next, Pl.SR.andThen_ret, Pl.SR.andThen_brk, Pl.SR.andThen_cont, Pl.SR.andThen_exc, Pl.SR.andThen_stuck, Pl.gcE_self, Pl.gcX_self, Pl.optR_some, Pl.optR_none, Pl.EV.val_d, Pl.EV.val_own, Pl.EV.items_own, Pl.EV.items_brw, Pl.EV.items_lst, if_true, if_false, reduceIte, Bool.false_eq_true, Bool.not_true, Bool.not_false, List.set_cons_zero, List.set_cons_succ, Pl.wipeE, List.map_cons, List.map_nil, Pl.setE, Pl.bindT, Pl.bindNames, Nat.zero_lt_succ, Nat.succ_lt_succ_iff, Nat.lt_add_one, Pl.tru_bl, Pl.tru_int, Pl.its_tup, Pl.its_lst, Pl.its_own, Pl.its_brw, Pl.its_str, Pl.enum_tup, Pl.eq_int, Pl.ne_int, Pl.lt_int, Pl.le_int, Pl.gt_int, Pl.ge_int, Pl.add_int, Pl.sub_int, Pl.len_tup, Pl.len_own, Pl.len_brw, Pl.len_lst, Pl.idx_tup, Pl.idx_lst, Pl.idx_own, Pl.idx_brw, Pl.in_dic, Pl.nin_dic, Pl.idx_dic, Pl.is_non, Pl.isn_non, Pl.at_zero, Pl.at_one, sizeLine_eq, Nat.reduceAdd, Nat.reduceLeDiff, e1, ha, hb, bndV, Option.getD_some]
  · by_cases c2 : w ∈ (["fun", "set", "the", "all", "some"] : List Str)
    · have el : lps w = [(3, some 1)] := by unfold lps; rw [if_neg c1, if_pos c2]
      rw [el] at hb ⊢
      obtain ⟨a, ha⟩ := hb (3, some 1) (by simp) 1 rfl
      have e2 := e2.trans (congrArg some (decide_eq_true c2))
      simp only [Pl.runFn, List.length_cons, List.length_nil, Pl.startE_cons, Pl.startE_nil, Pl.repl_succ, List.replicate_zero, Nat.zero_add, Pl.execs, Pl.exec, Pl.evalT, Pl.evalE, Pl.evalVs, Pl.evalP, Pl.evalI, Pl.evalJ, List.getElem?_cons_zero, List.getElem?_cons_succ, Pl.Res.bind_ok, Pl.Res.bind_exc, Pl.Res.bind_stuck, Pl.Res.to_ok, Pl.Res.to_exc, Pl.Res.to_stuck, Pl.Res.calm_ok, Pl.SR.andThen_next, Pl.SR.andThen_ret, Pl.SR.andThen_brk, Pl.SR.andThen_cont, Pl.SR.andThen_exc, Pl.SR.andThen_stuck, Pl.gcE_self, Pl.gcX_self, Pl.optR_some, Pl.optR_none, Pl.EV.val_d, Pl.EV.val_own, Pl.EV.items_own, Pl.EV.items_brw, Pl.EV.items_lst, if_true, if_false, reduceIte, Bool.false_eq_true, Bool.not_true, Bool.not_false, List.set_cons_zero, List.set_cons_succ, Pl.wipeE, List.map_cons, List.map_nil, Pl.setE, Pl.bindT, Pl.bindNames, Nat.zero_lt_succ, Nat.succ_lt_succ_iff, Nat.lt_add_one, Pl.tru_bl, Pl.tru_int, Pl.its_tup, Pl.its_lst, Pl.its_own, Pl.its_brw, Pl.its_str, Pl.enum_tup, Pl.eq_int, Pl.ne_int, Pl.lt_int, Pl.le_int, Pl.gt_int, Pl.ge_int, Pl.add_int, Pl.sub_int, Pl.len_tup, Pl.len_own, Pl.len_brw, Pl.len_lst, Pl.idx_tup, Pl.idx_lst, Pl.idx_own, Pl.idx_brw, Pl.in_dic, Pl.nin_dic, Pl.idx_dic, Pl.is_non, Pl.isn_non, Pl.at_zero, Pl.at_one, sizeLine_eq, Nat.reduceAdd, Nat.reduceLeDiff, e1, e2, c1, decide_false, ha, bndV, Option.getD_some]
    · by_cases c3 : w ∈ (["pair", "app", "equal", "in", "and", "or", "if"] : List Str)
      · have el : lps w = [(1, none), (2, none)] := by unfold lps; rw [if_neg c1, if_neg c2, if_pos c3]
        have e3 := e3.trans (congrArg some (decide_eq_true c3))
        simp only [Pl.runFn, List.length_cons, List.length_nil, Pl.startE_cons, Pl.startE_nil, Pl.repl_succ, List.replicate_zero, Nat.zero_add, Pl.execs, Pl.exec, Pl.evalT, Pl.evalE, Pl.evalVs, Pl.evalP, Pl.evalI, Pl.evalJ, List.getElem?_cons_zero, List.getElem?_cons_succ, Pl.Res.bind_ok, Pl.Res.bind_exc, Pl.Res.bind_stuck, Pl.Res.to_ok, Pl.Res.to_exc, Pl.Res.to_stuck, Pl.Res.calm_ok, Pl.SR.andThen_next, Pl.SR.andThen_ret, Pl.SR.andThen_brk, Pl.SR.andThen_cont, Pl.SR.andThen_exc, Pl.SR.andThen_stuck, Pl.gcE_self, Pl.gcX_self, Pl.optR_some, Pl.optR_none, Pl.EV.val_d, Pl.EV.val_own, Pl.EV.items_own, Pl.EV.items_brw, Pl.EV.items_lst, if_true, if_false, reduceIte, Bool.false_eq_true, Bool.not_true, Bool.not_false, List.set_cons_zero, List.set_cons_succ, Pl.wipeE, List.map_cons, List.map_nil, Pl.setE, Pl.bindT, Pl.bindNames, Nat.zero_lt_succ, Nat.succ_lt_succ_iff, Nat.lt_add_one, Pl.tru_bl, Pl.tru_int, Pl.its_tup, Pl.its_lst, Pl.its_own, Pl.its_brw, Pl.its_str, Pl.enum_tup, Pl.eq_int, Pl.ne_int, Pl.lt_int, Pl.le_int, Pl.gt_int, Pl.ge_int, Pl.add_int, Pl.sub_int, Pl.len_tup, Pl.len_own, Pl.len_brw, Pl.len_lst, Pl.idx_tup, Pl.idx_lst, Pl.idx_own, Pl.idx_brw, Pl.in_dic, Pl.nin_dic, Pl.idx_dic, Pl.is_non, Pl.isn_non, Pl.at_zero, Pl.at_one, sizeLine_eq, Nat.reduceAdd, Nat.reduceLeDiff, e1, e2, e3, c1, c2, decide_false, el, bndV]
      · by_cases c4 : w ∈ (["call", "into"] : List Str)
        · have el : lps w = [(4, none)] := by unfold lps; rw [if_neg c1, if_neg c2, if_neg c3, if_pos c4]
          have e4 := e4.trans (congrArg some (decide_eq_true c4))
          simp only [Pl.runFn, List.length_cons, List.length_nil, Pl.startE_cons, Pl.startE_nil, Pl.repl_succ, List.replicate_zero, Nat.zero_add, Pl.execs, Pl.exec, Pl.evalT, Pl.evalE, Pl.evalVs, Pl.evalP, Pl.evalI, Pl.evalJ, List.getElem?_cons_zero, List.getElem?_cons_succ, Pl.Res.bind_ok, Pl.Res.bind_exc, Pl.Res.bind_stuck, Pl.Res.to_ok, Pl.Res.to_exc, Pl.Res.to_stuck, Pl.Res.calm_ok, Pl.SR.andThen_next, Pl.SR.andThen_ret, Pl.SR.andThen_brk, Pl.SR.andThen_cont, Pl.SR.andThen_exc, Pl.SR.andThen_stuck, Pl.gcE_self, Pl.gcX_self, Pl.optR_some, Pl.optR_none, Pl.EV.val_d, Pl.EV.val_own, Pl.EV.items_own, Pl.EV.items_brw, Pl.EV.items_lst, if_true, if_false, reduceIte, Bool.false_eq_true, Bool.not_true, Bool.not_false, List.set_cons_zero, List.set_cons_succ, Pl.wipeE, List.map_cons, List.map_nil, Pl.setE, Pl.bindT, Pl.bindNames, Nat.zero_lt_succ, Nat.succ_lt_succ_iff, Nat.lt_add_one, Pl.tru_bl, Pl.tru_int, Pl.its_tup, Pl.its_lst, Pl.its_own, Pl.its_brw, Pl.its_str, Pl.enum_tup, Pl.eq_int, Pl.ne_int, Pl.lt_int, Pl.le_int, Pl.gt_int, Pl.ge_int, Pl.add_int, Pl.sub_int, Pl.len_tup, Pl.len_own, Pl.len_brw, Pl.len_lst, Pl.idx_tup, Pl.idx_lst, Pl.idx_own, Pl.idx_brw, Pl.in_dic, Pl.nin_dic, Pl.idx_dic, Pl.is_non, Pl.isn_non, Pl.at_zero, Pl.at_one, sizeLine_eq, Nat.reduceAdd, Nat.reduceLeDiff, e1, e2, e3, e4, c1, c2, c3, decide_false, el, bndV]
        · by_cases c5 : w ∈ (["first", "second", "out", "when", "so", "not", "near", "left"] : List Str)
          · have el : lps w = [(1, none)] := by unfold lps; rw [if_neg c1, if_neg c2, if_neg c3, if_neg c4, if_pos c5]
            have e5 := e5.trans (congrArg some (decide_eq_true c5))
            simp only [Pl.runFn, List.length_cons, List.length_nil, Pl.startE_cons, Pl.startE_nil, Pl.repl_succ, List.replicate_zero, Nat.zero_add, Pl.execs, Pl.exec, Pl.evalT, Pl.evalE, Pl.evalVs, Pl.evalP, Pl.evalI, Pl.evalJ, List.getElem?_cons_zero, List.getElem?_cons_succ, Pl.Res.bind_ok, Pl.Res.bind_exc, Pl.Res.bind_stuck, Pl.Res.to_ok, Pl.Res.to_exc, Pl.Res.to_stuck, Pl.Res.calm_ok, Pl.SR.andThen_next, Pl.SR.andThen_ret, Pl.SR.andThen_brk, Pl.SR.andThen_cont, Pl.SR.andThen_exc, Pl.SR.andThen_stuck, Pl.gcE_self, Pl.gcX_self, Pl.optR_some, Pl.optR_none, Pl.EV.val_d, Pl.EV.val_own, Pl.EV.items_own, Pl.EV.items_brw, Pl.EV.items_lst, if_true, if_false, reduceIte, Bool.false_eq_true, Bool.not_true, Bool.not_false, List.set_cons_zero, List.set_cons_succ, Pl.wipeE, List.map_cons, List.map_nil, Pl.setE, Pl.bindT, Pl.bindNames, Nat.zero_lt_succ, Nat.succ_lt_succ_iff, Nat.lt_add_one, Pl.tru_bl, Pl.tru_int, Pl.its_tup, Pl.its_lst, Pl.its_own, Pl.its_brw, Pl.its_str, Pl.enum_tup, Pl.eq_int, Pl.ne_int, Pl.lt_int, Pl.le_int, Pl.gt_int, Pl.ge_int, Pl.add_int, Pl.sub_int, Pl.len_tup, Pl.len_own, Pl.len_brw, Pl.len_lst, Pl.idx_tup, Pl.idx_lst, Pl.idx_own, Pl.idx_brw, Pl.in_dic, Pl.nin_dic, Pl.idx_dic, Pl.is_non, Pl.isn_non, Pl.at_zero, Pl.at_one, sizeLine_eq, Nat.reduceAdd, Nat.reduceLeDiff, e1, e2, e3, e4, e5, c1, c2, c3, c4, decide_false, el, bndV]
          · by_cases c6 : w = "right"
            · have el : lps w = [(2, none)] := by unfold lps; rw [if_neg c1, if_neg c2, if_neg c3, if_neg c4, if_neg c5, if_pos c6]
              have e6 := e6.trans (congrArg some (decide_eq_true c6))
              simp only [Pl.runFn, List.length_cons, List.length_nil, Pl.startE_cons, Pl.startE_nil, Pl.repl_succ, List.replicate_zero, Nat.zero_add, Pl.execs, Pl.exec, Pl.evalT, Pl.evalE, Pl.evalVs, Pl.evalP, Pl.evalI, Pl.evalJ, List.getElem?_cons_zero, List.getElem?_cons_succ, Pl.Res.bind_ok, Pl.Res.bind_exc, Pl.Res.bind_stuck, Pl.Res.to_ok, Pl.Res.to_exc, Pl.Res.to_stuck, Pl.Res.calm_ok, Pl.SR.andThen_next, Pl.SR.andThen_ret, Pl.SR.andThen_brk, Pl.SR.andThen_cont, Pl.SR.andThen_exc, Pl.SR.andThen_stuck, Pl.gcE_self, Pl.gcX_self, Pl.optR_some, Pl.optR_none, Pl.EV.val_d, Pl.EV.val_own, Pl.EV.items_own, Pl.EV.items_brw, Pl.EV.items_lst, if_true, if_false, reduceIte, Bool.false_eq_true, Bool.not_true, Bool.not_false, List.set_cons_zero, List.set_cons_succ, Pl.wipeE, List.map_cons, List.map_nil, Pl.setE, Pl.bindT, Pl.bindNames, Nat.zero_lt_succ, Nat.succ_lt_succ_iff, Nat.lt_add_one, Pl.tru_bl, Pl.tru_int, Pl.its_tup, Pl.its_lst, Pl.its_own, Pl.its_brw, Pl.its_str, Pl.enum_tup, Pl.eq_int, Pl.ne_int, Pl.lt_int, Pl.le_int, Pl.gt_int, Pl.ge_int, Pl.add_int, Pl.sub_int, Pl.len_tup, Pl.len_own, Pl.len_brw, Pl.len_lst, Pl.idx_tup, Pl.idx_lst, Pl.idx_own, Pl.idx_brw, Pl.in_dic, Pl.nin_dic, Pl.idx_dic, Pl.is_non, Pl.isn_non, Pl.at_zero, Pl.at_one, sizeLine_eq, Nat.reduceAdd, Nat.reduceLeDiff, e1, e2, e3, e4, e5, e6, c1, c2, c3, c4, c5, decide_false, el, bndV]
            · have el : lps w = [] := by unfold lps; rw [if_neg c1, if_neg c2, if_neg c3, if_neg c4, if_neg c5, if_neg c6]
              simp only [Pl.runFn, List.length_cons, List.length_nil, Pl.startE_cons, Pl.startE_nil, Pl.repl_succ, List.replicate_zero, Nat.zero_add, Pl.execs, Pl.exec, Pl.evalT, Pl.evalE, Pl.evalVs, Pl.evalP, Pl.evalI, Pl.evalJ, List.getElem?_cons_zero, List.getElem?_cons_succ, Pl.Res.bind_ok, Pl.Res.bind_exc, Pl.Res.bind_stuck, Pl.Res.to_ok, Pl.Res.to_exc, Pl.Res.to_stuck, Pl.Res.calm_ok, Pl.SR.andThen_next, Pl.SR.andThen_ret, Pl.SR.andThen_brk, Pl.SR.andThen_cont, Pl.SR.andThen_exc, Pl.SR.andThen_stuck, Pl.gcE_self, Pl.gcX_self, Pl.optR_some, Pl.optR_none, Pl.EV.val_d, Pl.EV.val_own, Pl.EV.items_own, Pl.EV.items_brw, Pl.EV.items_lst, if_true, if_false, reduceIte, Bool.false_eq_true, Bool.not_true, Bool.not_false, List.set_cons_zero, List.set_cons_succ, Pl.wipeE, List.map_cons, List.map_nil, Pl.setE, Pl.bindT, Pl.bindNames, Nat.zero_lt_succ, Nat.succ_lt_succ_iff, Nat.lt_add_one, Pl.tru_bl, Pl.tru_int, Pl.its_tup, Pl.its_lst, Pl.its_own, Pl.its_brw, Pl.its_str, Pl.enum_tup, Pl.eq_int, Pl.ne_int, Pl.lt_int, Pl.le_int, Pl.gt_int, Pl.ge_int, Pl.add_int, Pl.sub_int, Pl.len_tup, Pl.len_own, Pl.len_brw, Pl.len_lst, Pl.idx_tup, Pl.idx_lst, Pl.idx_own, Pl.idx_brw, Pl.in_dic, Pl.nin_dic, Pl.idx_dic, Pl.is_non, Pl.isn_non, Pl.at_zero, Pl.at_one, sizeLine_eq, Nat.reduceAdd, Nat.reduceLeDiff, e1, e2, e3, e4, e5, e6, c1, c2, c3, c4, c5, c6, decide_false, el]
theorem lps_len (w : Str) : (lps w).length ≤ 3 := by
  unfold lps
  repeat' split
  all_goals simp
/-- a written term or formula, and its parts -/
structure Pt (sort w : Str) (ss args : List D) : Prop where
  N : Nd wr sort w ss args
  K : KOk sort w ss
  okw : okZ w
  sa : sms args = true
  bd : ∀ q ∈ kps sort w, bndV (.str w :: args) q.2.2 = .non ∨ ∃ y, bndV (.str w :: args) q.2.2 = .str y ∧ okZ y
  ch : ∀ q ∈ kps sort w, ∃ (i : Nat) (a : D), q.1 = (i : Int) + 1 ∧ (D.str w :: args)[i + 1]? = some a ∧ wr a q.2.1 = true ∧ q.2.1 ∈ tf ∧ sm a = true ∧ a ∈ D.str w :: args
  nm : sort = "term" ∧ w = "name" ↔ w = "name"
theorem pt_of {v : D} {sort : Str} (hs : sort ∈ tf) (hsm : sm v = true) (hw : wr v sort = true) : ∃ w ss args, v = .tup (.str w :: args) ∧ Pt sort w ss args ∧ Nd (isWr (dep v)) sort w ss args := by
  obtain ⟨w, ss, args, rfl, N, N0⟩ := wr_nd (tf_sK hs).1 hw
  obtain ⟨m1, m2⟩ := sm_tup hsm
  have hw0 : okZ w := (sm_str (sms_mem m2 List.mem_cons_self)).1
  have ms : sms args = true := (Bool.and_eq_true_iff.mp (show (sm (.str w) && sms args) = true from m2)).2
  have K := k_ok hs N.row
  refine ⟨w, ss, args, rfl, ⟨N, K, hw0, ms, fun q hq => ?_, fun q hq => ?_, ⟨fun h => h.2, fun h => ⟨K.nmT h, h⟩⟩⟩, N0⟩
  · obtain ⟨_, _, _, _, h4⟩ := K.kp q hq
    cases e : q.2.2 with
    | none => exact .inl rfl
    | some j =>
      obtain ⟨m, rfl, hm⟩ := h4 j e
      obtain ⟨a, ea, ha⟩ := N.sub m _ hm
      obtain ⟨y, rfl, oy⟩ := wr_name' (sms_mem ms (List.mem_of_getElem? ea)) ha
      refine .inr ⟨y, ?_, oy⟩
      have : (D.str w :: args)[m + 1]? = some (.str y) := by simpa using ea
      rw [bndV, Pl.at_one, this]
      rfl
  · obtain ⟨h1, i, h2, h3, _⟩ := K.kp q hq
    obtain ⟨a, ea, ha⟩ := N.sub i _ h3
    have ex : (D.str w :: args)[i + 1]? = some a := by simpa using ea
    exact ⟨i, a, h2, ex, ha, h1, sms_mem ms (List.mem_of_getElem? ea), List.mem_of_getElem? ex⟩
theorem Pt.bnd {sort w : Str} {ss args : List D} (P : Pt sort w ss args) : ∀ q ∈ lps w, ∀ j, q.2 = some j → ∃ y, atI (.str w :: args) j = some y := by
  intro q hq j e
  rw [← P.K.lp] at hq
  obtain ⟨p, hp, rfl⟩ := List.mem_map.mp hq
  rcases P.bd p hp with h | ⟨y, h, _⟩
  · obtain ⟨_, _, _, _, h4⟩ := P.K.kp p hp
    obtain ⟨m, rfl, hm⟩ := h4 j e
    obtain ⟨a, ea, ha⟩ := P.N.sub m _ hm
    refine ⟨a, ?_⟩
    rw [Pl.at_one]
    simpa using ea
  · rw [show p.2.2 = some j from e, bndV] at h
    cases e2 : atI (.str w :: args) j with
    | none => rw [e2] at h; cases h
    | some a => exact ⟨a, rfl⟩
theorem Pt.parts {sort w : Str} {ss args : List D} (P : Pt sort w ss args) : lpD (.str w :: args) w = (kps sort w).map fun q => .tup [.int q.1, bndV (.str w :: args) q.2.2] := by
  unfold lpD
  rw [← P.K.lp, List.map_map]
  rfl
theorem Pt.s_parts (k : Nat) {sort w : Str} {ss args : List D} (P : Pt sort w ss args) (S : Sto) : R (k + 1) "_law_parts" [.tup (.str w :: args)] S = .ok (.own ((kps sort w).map fun q => .tup [.int q.1, bndV (.str w :: args) q.2.2])) S := by
  rw [s_law_parts k S P.okw P.bnd, P.parts]
theorem Pt.klen {sort w : Str} {ss args : List D} (P : Pt sort w ss args) : (kps sort w).length ≤ 3 := by
  have := congrArg List.length P.K.lp
  rw [List.length_map] at this
  rw [this]
  exact lps_len w
theorem ne_str_d {d : D} {y : Str} {S : Sto} (hy : okZ y) (h : d = .non ∨ ∃ z, d = .str z ∧ okZ z) : cmpV .NotEq S (.d (.str y)) (.d d) = some (!decide (d = .str y)) := by
  rcases h with rfl | ⟨z, rfl, oz⟩
  · exact ne_py (p := .str y) (q := .none) rfl rfl (shaped_str hy) rfl
  · rw [ne_str hy oz]
    by_cases e : y = z
    · subst e; simp
    · have : ¬ D.str z = D.str y := fun q => e (D.str.inj q).symm
      simp [e, this]
def isL (e : EV) (l : List D) : Prop := e = .own l ∨ e = .d (.lst l)
theorem s_law_free (j : Nat) : ∀ (n : Nat) (v : D) (sort : Str) (S : Sto), n ≤ 14 → sm v = true → dep v ≤ n → sort ∈ tf → wr v sort = true →
    ∃ (ns : List Str) (e : EV), R (n + j + 2) "_law_free" [v] S = .ok e S ∧ isL e (ns.map D.str) ∧ (∀ z ∈ ns, okZ z) ∧ ns.length ≤ 3 ^ n ∧ ∀ nm, okZ nm → (nm ∈ ns ↔ fr v sort nm = true) := by
  intro n
  induction n with
  | zero =>
    intro v sort S _ hsm hd hs hw
    obtain ⟨w, ss, args, rfl, _⟩ := pt_of hs hsm hw
    simp [dep] at hd
  | succ n ih =>
    intro v sort S h14 hsm hd hs hw
    obtain ⟨w, ss, args, rfl, P, N0⟩ := pt_of hs hsm hw
    rw [show n + 1 + j + 2 = (n + j + 2) + 1 by omega, R_law_free]
    unfold n_law_free
    have e1 : cmpV .Eq S (.d (.str w)) (.d (.str "name")) = some (decide (w = "name")) := eq_str P.okw (by decide +kernel)
    by_cases c : w = "name"
    · have hst := P.K.nmT c
      subst c hst
      have er : rowOf "term" "name" = some [.str "name"] := by decide +kernel
      have e2 := P.N.row
      rw [er] at e2
      cases e2
      obtain ⟨a, ea, hwa⟩ := P.N.sub 0 "name" rfl
      have hl := P.N.len
      cases args with
      | nil => cases ea
      | cons b args =>
        cases args with
        | cons _ _ => simp at hl
        | nil =>
          cases ea
          obtain ⟨y, rfl, oy⟩ := wr_name' (sms_mem P.sa List.mem_cons_self) hwa
          refine ⟨[y], .own [.str y], ?_, .inl rfl, fun z hz => by rw [List.mem_singleton.mp hz]; exact oy, Nat.one_le_pow _ _ (by decide), fun nm on => ?_⟩
          · have e1 := e1.trans (congrArg some (decide_eq_true rfl))
            simp only [Pl.runFn, List.length_cons, List.length_nil, Pl.startE_cons, Pl.startE_nil, Pl.repl_succ, List.replicate_zero, Nat.zero_add, Pl.execs, Pl.exec, Pl.evalT, Pl.evalE, Pl.evalVs, Pl.evalP, Pl.evalI, Pl.evalJ, List.getElem?_cons_zero, List.getElem?_cons_succ, Pl.Res.bind_ok, Pl.Res.bind_exc, Pl.Res.bind_stuck, Pl.Res.to_ok, Pl.Res.to_exc, Pl.Res.to_stuck, Pl.Res.calm_ok, Pl.SR.andThen_next, Pl.SR.andThen_ret, Pl.SR.andThen_brk, Pl.SR.andThen_cont, Pl.SR.andThen_exc, Pl.SR.andThen_stuck, Pl.gcE_self, Pl.gcX_self, Pl.optR_some, Pl.optR_none, Pl.EV.val_d, Pl.EV.val_own, Pl.EV.items_own, Pl.EV.items_brw, Pl.EV.items_lst, if_true, if_false, reduceIte, Bool.false_eq_true, Bool.not_true, Bool.not_false, List.set_cons_zero, List.set_cons_succ, Pl.wipeE, List.map_cons, List.map_nil, Pl.setE, Pl.bindT, Pl.bindNames, Nat.zero_lt_succ, Nat.succ_lt_succ_iff, Nat.lt_add_one, Pl.tru_bl, Pl.tru_int, Pl.its_tup, Pl.its_lst, Pl.its_own, Pl.its_brw, Pl.its_str, Pl.enum_tup, Pl.eq_int, Pl.ne_int, Pl.lt_int, Pl.le_int, Pl.gt_int, Pl.ge_int, Pl.add_int, Pl.sub_int, Pl.len_tup, Pl.len_own, Pl.len_brw, Pl.len_lst, Pl.idx_tup, Pl.idx_lst, Pl.idx_own, Pl.idx_brw, Pl.in_dic, Pl.nin_dic, Pl.idx_dic, Pl.is_non, Pl.isn_non, Pl.at_zero, Pl.at_one, sizeLine_eq, Nat.reduceAdd, Nat.reduceLeDiff, e1, at1]
          · rw [fr_name]
            simp
            exact eq_comm
    · have hnn : ¬ (sort = "term" ∧ w = "name") := fun q => c q.2
      have hfr := fun nm => fr_nd (nm := nm) N0 P.sa (tf_sK hs).2 hnn
      simp only [Pl.runFn, List.length_cons, List.length_nil, Pl.startE_cons, Pl.startE_nil, Pl.repl_succ, List.replicate_zero, Nat.zero_add, Pl.execs, Pl.exec, Pl.evalT, Pl.evalE, Pl.evalVs, Pl.evalP, Pl.evalI, Pl.evalJ, List.getElem?_cons_zero, List.getElem?_cons_succ, Pl.Res.bind_ok, Pl.Res.bind_exc, Pl.Res.bind_stuck, Pl.Res.to_ok, Pl.Res.to_exc, Pl.Res.to_stuck, Pl.Res.calm_ok, Pl.SR.andThen_next, Pl.SR.andThen_ret, Pl.SR.andThen_brk, Pl.SR.andThen_cont, Pl.SR.andThen_exc, Pl.SR.andThen_stuck, Pl.gcE_self, Pl.gcX_self, Pl.optR_some, Pl.optR_none, Pl.EV.val_d, Pl.EV.val_own, Pl.EV.items_own, Pl.EV.items_brw, Pl.EV.items_lst, if_true, if_false, reduceIte, Bool.false_eq_true, Bool.not_true, Bool.not_false, List.set_cons_zero, List.set_cons_succ, Pl.wipeE, List.map_cons, List.map_nil, Pl.setE, Pl.bindT, Pl.bindNames, Nat.zero_lt_succ, Nat.succ_lt_succ_iff, Nat.lt_add_one, Pl.tru_bl, Pl.tru_int, Pl.its_tup, Pl.its_lst, Pl.its_own, Pl.its_brw, Pl.its_str, Pl.enum_tup, Pl.eq_int, Pl.ne_int, Pl.lt_int, Pl.le_int, Pl.gt_int, Pl.ge_int, Pl.add_int, Pl.sub_int, Pl.len_tup, Pl.len_own, Pl.len_brw, Pl.len_lst, Pl.idx_tup, Pl.idx_lst, Pl.idx_own, Pl.idx_brw, Pl.in_dic, Pl.nin_dic, Pl.idx_dic, Pl.is_non, Pl.isn_non, Pl.at_zero, Pl.at_one, sizeLine_eq, Nat.reduceAdd, Nat.reduceLeDiff, e1, c, decide_false, P.s_parts (n + j + 1) S]
      generalize hf : forLoop _ _ _ _ _ = r
      have hq : ∃ (fs : List Str) (ρ : Pl.Env), r = .next ρ S ∧ ρ[1]? = some (some (.d (.lst (fs.map D.str)))) ∧ (∀ z ∈ fs, okZ z) ∧ fs.length ≤ 3 ^ (n + 1) ∧ ∀ nm, okZ nm → (nm ∈ fs ↔ (kps sort w).any (frK (.str w :: args) nm) = true) := by
        rw [← hf]
        refine for_inv (fun xs ρ S' => S = S' ∧ ∃ (done ks : List Kp) (fs : List Str) (a b : Option EV), xs = ks.map (fun q => .tup [.int q.1, bndV (.str w :: args) q.2.2]) ∧ kps sort w = done ++ ks ∧ (∀ z ∈ fs, okZ z) ∧ fs.length ≤ done.length * 3 ^ n ∧
            (∀ nm, okZ nm → (nm ∈ fs ↔ done.any (frK (.str w :: args) nm) = true)) ∧ ρ = [some (.d (.tup (.str w :: args))), some (.d (.lst (fs.map D.str))), a, b, none])
          (fun r => ∃ (fs : List Str) (ρ : Pl.Env), r = .next ρ S ∧ ρ[1]? = some (some (.d (.lst (fs.map D.str)))) ∧ (∀ z ∈ fs, okZ z) ∧ fs.length ≤ 3 ^ (n + 1) ∧ ∀ nm, okZ nm → (nm ∈ fs ↔ (kps sort w).any (frK (.str w :: args) nm) = true))
          _ _ S ⟨rfl, [], kps sort w, [], _, _, rfl, rfl, fun _ h => (by cases h), Nat.zero_le _, fun _ _ => by simp, rfl⟩ (fun _ _ _ _ => rfl) ?_ ?_
        · rintro ρ S' ⟨rfl, done, ks, fs, a, b, e, e2, h1, h2, h3, rfl⟩
          have : ks = [] := by cases ks with | nil => rfl | cons _ _ => cases e
          subst this
          rw [List.append_nil] at e2
          refine ⟨fs, _, rfl, rfl, h1, ?_, by rw [e2]; exact h3⟩
          have := P.klen
          rw [e2] at this
          have := Nat.mul_le_mul_right (3 ^ n) this
          rw [Nat.pow_succ]
          omega
        · rintro x xs ρ S' ⟨rfl, done, ks, fs, a, b, e, e2, h1, h2, h3, rfl⟩
          cases ks with
          | nil => cases e
          | cons q ks =>
            rw [List.map_cons] at e
            cases e
            have hqm : q ∈ kps sort w := by rw [e2]; simp
            obtain ⟨i, y, q1, q2, q3, q4, q5, q6⟩ := P.ch q hqm
            have hbd := P.bd q hqm
            obtain ⟨ns, ev, r1, r2, r3, r4, r5⟩ := ih y q.2.1 S (by omega) q5 (dep_in q6 hd) q4 q3
            have hty : args[i]? = some y := by simpa using q2
            have h3n : 3 ^ n ≤ 3 ^ 14 := Nat.pow_le_pow_right (by decide) (by omega)
            have h314 : 3 ^ 14 = 4782969 := by decide
            have hlen : ((fs.map D.str) ++ ((ns.filter fun z => !decide (bndV (.str w :: args) q.2.2 = .str z)).map D.str)).length ≤ 16777216 := by
              have := P.klen
              rw [e2, List.length_append, List.length_cons] at this
              have := List.length_filter_le (fun z => !decide (bndV (.str w :: args) q.2.2 = .str z)) ns
              have : done.length * 3 ^ n ≤ 2 * 3 ^ n := Nat.mul_le_mul_right _ (by omega)
              simp only [List.length_append, List.length_map]
              omega
            have hcomp : ∀ (tg : LT) (elt : Pl.Env → Sto → Res EV) (tst : Pl.Env → Sto → Res Bool) (ρ : Pl.Env), (∀ z ∈ ns, ∃ ρ1, bindT tg (.str z) ρ = some ρ1 ∧ tst ρ1 S = .ok (!decide (bndV (.str w :: args) q.2.2 = .str z)) S ∧ elt ρ1 S = .ok (.d (.str z)) S) → compLoop elt tst tg ρ (fun S => stays S (ns.map D.str) none) (ns.map D.str) S [] = .ok (.own ((ns.filter fun z => !decide (bndV (.str w :: args) q.2.2 = .str z)).map D.str)) S := by
              intro tg elt tst ρ h
              have h0 := comp_filter (elt := elt) (tst := tst) (tg := tg) (ρ := ρ) (src := fun S => stays S (ns.map D.str) none) (S := S) rfl (fun d => !decide (bndV (.str w :: args) q.2.2 = d)) id (ns.map D.str) [] (by rw [List.length_map]; show 0 + ns.length ≤ 16777216; omega) (fun x hx => by
                obtain ⟨z, hz, rfl⟩ := List.mem_map.mp hx
                obtain ⟨ρ1, b1, b2, b3⟩ := h z hz
                exact ⟨ρ1, b1, b2, fun _ => ⟨_, b3, rfl⟩⟩)
              rw [h0, List.nil_append, List.map_id, List.filter_map]
              rfl
            have fin : ∃ ρ' S', SR.next [some (EV.d (.tup (.str w :: args))), some (.d (.lst ((fs.map D.str) ++ ((ns.filter fun z => !decide (bndV (.str w :: args) q.2.2 = .str z)).map D.str)))), some (.d (.int ((i : Int) + 1))), some (.d (bndV (.str w :: args) q.2.2)), none] S = .next ρ' S' ∧ S = S' ∧
              ∃ (done ks' : List Kp) (fs : List Str) (a b : Option EV), ks.map (fun q => D.tup [.int q.1, bndV (.str w :: args) q.2.2]) = ks'.map (fun q => .tup [.int q.1, bndV (.str w :: args) q.2.2]) ∧ kps sort w = done ++ ks' ∧ (∀ z ∈ fs, okZ z) ∧ fs.length ≤ done.length * 3 ^ n ∧
            (∀ nm, okZ nm → (nm ∈ fs ↔ done.any (frK (.str w :: args) nm) = true)) ∧ ρ' = [some (.d (.tup (.str w :: args))), some (.d (.lst (fs.map D.str))), a, b, none] := by
              refine ⟨_, S, rfl, rfl, done ++ [q], ks, fs ++ ns.filter fun z => !decide (bndV (.str w :: args) q.2.2 = .str z), _, _, rfl, by rw [e2]; simp, ?_, ?_, ?_, by rw [List.map_append]⟩
              · intro z hz
                rcases List.mem_append.mp hz with hz | hz
                · exact h1 z hz
                · exact r3 z (List.mem_filter.mp hz).1
              · have := List.length_filter_le (fun z => !decide (bndV (.str w :: args) q.2.2 = .str z)) ns
                simp only [List.length_append, List.length_cons, List.length_nil, Nat.add_mul]
                omega
              · intro nm on
                rw [List.mem_append, h3 nm on, List.mem_filter, r5 nm on, List.any_append, Bool.or_eq_true]
                refine or_congr Iff.rfl ?_
                rw [List.any_cons, List.any_nil, Bool.or_false, frK, q1, Pl.at_one, q2, Option.getD_some, Bool.and_eq_true]
                exact and_comm
            rcases r2 with rfl | rfl
            · simp only [Pl.runFn, List.length_cons, List.length_nil, Pl.startE_cons, Pl.startE_nil, Pl.repl_succ, List.replicate_zero, Nat.zero_add, Pl.execs, Pl.exec, Pl.evalT, Pl.evalE, Pl.evalVs, Pl.evalP, Pl.evalI, Pl.evalJ, List.getElem?_cons_zero, List.getElem?_cons_succ, Pl.Res.bind_ok, Pl.Res.bind_exc, Pl.Res.bind_stuck, Pl.Res.to_ok, Pl.Res.to_exc, Pl.Res.to_stuck, Pl.Res.calm_ok, Pl.SR.andThen_next, Pl.SR.andThen_ret, Pl.SR.andThen_brk, Pl.SR.andThen_cont, Pl.SR.andThen_exc, Pl.SR.andThen_stuck, Pl.gcE_self, Pl.gcX_self, Pl.optR_some, Pl.optR_none, Pl.EV.val_d, Pl.EV.val_own, Pl.EV.items_own, Pl.EV.items_brw, Pl.EV.items_lst, if_true, if_false, reduceIte, Bool.false_eq_true, Bool.not_true, Bool.not_false, List.set_cons_zero, List.set_cons_succ, Pl.wipeE, List.map_cons, List.map_nil, Pl.setE, Pl.bindT, Pl.bindNames, Nat.zero_lt_succ, Nat.succ_lt_succ_iff, Nat.lt_add_one, Pl.tru_bl, Pl.tru_int, Pl.its_tup, Pl.its_lst, Pl.its_own, Pl.its_brw, Pl.its_str, Pl.enum_tup, Pl.eq_int, Pl.ne_int, Pl.lt_int, Pl.le_int, Pl.gt_int, Pl.ge_int, Pl.add_int, Pl.sub_int, Pl.len_tup, Pl.len_own, Pl.len_brw, Pl.len_lst, Pl.idx_tup, Pl.idx_lst, Pl.idx_own, Pl.idx_brw, Pl.in_dic, Pl.nin_dic, Pl.idx_dic, Pl.is_non, Pl.isn_non, Pl.at_zero, Pl.at_one, sizeLine_eq, Nat.reduceAdd, Nat.reduceLeDiff, q1, hty, r1]
              rw [hcomp _ _ _ _ fun z hz => ⟨_, rfl, by simp only [Pl.runFn, List.length_cons, List.length_nil, Pl.startE_cons, Pl.startE_nil, Pl.repl_succ, List.replicate_zero, Nat.zero_add, Pl.execs, Pl.exec, Pl.evalT, Pl.evalE, Pl.evalVs, Pl.evalP, Pl.evalI, Pl.evalJ, List.getElem?_cons_zero, List.getElem?_cons_succ, Pl.Res.bind_ok, Pl.Res.bind_exc, Pl.Res.bind_stuck, Pl.Res.to_ok, Pl.Res.to_exc, Pl.Res.to_stuck, Pl.Res.calm_ok, Pl.SR.andThen_next, Pl.SR.andThen_ret, Pl.SR.andThen_brk, Pl.SR.andThen_cont, Pl.SR.andThen_exc, Pl.SR.andThen_stuck, Pl.gcE_self, Pl.gcX_self, Pl.optR_some, Pl.optR_none, Pl.EV.val_d, Pl.EV.val_own, Pl.EV.items_own, Pl.EV.items_brw, Pl.EV.items_lst, if_true, if_false, reduceIte, Bool.false_eq_true, Bool.not_true, Bool.not_false, List.set_cons_zero, List.set_cons_succ, Pl.wipeE, List.map_cons, List.map_nil, Pl.setE, Pl.bindT, Pl.bindNames, Nat.zero_lt_succ, Nat.succ_lt_succ_iff, Nat.lt_add_one, Pl.tru_bl, Pl.tru_int, Pl.its_tup, Pl.its_lst, Pl.its_own, Pl.its_brw, Pl.its_str, Pl.enum_tup, Pl.eq_int, Pl.ne_int, Pl.lt_int, Pl.le_int, Pl.gt_int, Pl.ge_int, Pl.add_int, Pl.sub_int, Pl.len_tup, Pl.len_own, Pl.len_brw, Pl.len_lst, Pl.idx_tup, Pl.idx_lst, Pl.idx_own, Pl.idx_brw, Pl.in_dic, Pl.nin_dic, Pl.idx_dic, Pl.is_non, Pl.isn_non, Pl.at_zero, Pl.at_one, sizeLine_eq, Nat.reduceAdd, Nat.reduceLeDiff, ne_str_d (r3 z hz) hbd], rfl⟩]
              simp only [Pl.runFn, List.length_cons, List.length_nil, Pl.startE_cons, Pl.startE_nil, Pl.repl_succ, List.replicate_zero, Nat.zero_add, Pl.execs, Pl.exec, Pl.evalT, Pl.evalE, Pl.evalVs, Pl.evalP, Pl.evalI, Pl.evalJ, List.getElem?_cons_zero, List.getElem?_cons_succ, Pl.Res.bind_ok, Pl.Res.bind_exc, Pl.Res.bind_stuck, Pl.Res.to_ok, Pl.Res.to_exc, Pl.Res.to_stuck, Pl.Res.calm_ok, Pl.SR.andThen_next, Pl.SR.andThen_ret, Pl.SR.andThen_brk, Pl.SR.andThen_cont, Pl.SR.andThen_exc, Pl.SR.andThen_stuck, Pl.gcE_self, Pl.gcX_self, Pl.optR_some, Pl.optR_none, Pl.EV.val_d, Pl.EV.val_own, Pl.EV.items_own, Pl.EV.items_brw, Pl.EV.items_lst, if_true, if_false, reduceIte, Bool.false_eq_true, Bool.not_true, Bool.not_false, List.set_cons_zero, List.set_cons_succ, Pl.wipeE, List.map_cons, List.map_nil, Pl.setE, Pl.bindT, Pl.bindNames, Nat.zero_lt_succ, Nat.succ_lt_succ_iff, Nat.lt_add_one, Pl.tru_bl, Pl.tru_int, Pl.its_tup, Pl.its_lst, Pl.its_own, Pl.its_brw, Pl.its_str, Pl.enum_tup, Pl.eq_int, Pl.ne_int, Pl.lt_int, Pl.le_int, Pl.gt_int, Pl.ge_int, Pl.add_int, Pl.sub_int, Pl.len_tup, Pl.len_own, Pl.len_brw, Pl.len_lst, Pl.idx_tup, Pl.idx_lst, Pl.idx_own, Pl.idx_brw, Pl.in_dic, Pl.nin_dic, Pl.idx_dic, Pl.is_non, Pl.isn_non, Pl.at_zero, Pl.at_one, sizeLine_eq, Nat.reduceAdd, Nat.reduceLeDiff]
              rw [add_items (xs := fs.map D.str) (ys := (ns.filter fun z => !decide (bndV (.str w :: args) q.2.2 = .str z)).map D.str) rfl rfl, if_pos (by rw [← List.length_append]; exact hlen)]
              simp only [Pl.runFn, List.length_cons, List.length_nil, Pl.startE_cons, Pl.startE_nil, Pl.repl_succ, List.replicate_zero, Nat.zero_add, Pl.execs, Pl.exec, Pl.evalT, Pl.evalE, Pl.evalVs, Pl.evalP, Pl.evalI, Pl.evalJ, List.getElem?_cons_zero, List.getElem?_cons_succ, Pl.Res.bind_ok, Pl.Res.bind_exc, Pl.Res.bind_stuck, Pl.Res.to_ok, Pl.Res.to_exc, Pl.Res.to_stuck, Pl.Res.calm_ok, Pl.SR.andThen_next, Pl.SR.andThen_ret, Pl.SR.andThen_brk, Pl.SR.andThen_cont, Pl.SR.andThen_exc, Pl.SR.andThen_stuck, Pl.gcE_self, Pl.gcX_self, Pl.optR_some, Pl.optR_none, Pl.EV.val_d, Pl.EV.val_own, Pl.EV.items_own, Pl.EV.items_brw, Pl.EV.items_lst, if_true, if_false, reduceIte, Bool.false_eq_true, Bool.not_true, Bool.not_false, List.set_cons_zero, List.set_cons_succ, Pl.wipeE, List.map_cons, List.map_nil, Pl.setE, Pl.bindT, Pl.bindNames, Nat.zero_lt_succ, Nat.succ_lt_succ_iff, Nat.lt_add_one, Pl.tru_bl, Pl.tru_int, Pl.its_tup, Pl.its_lst, Pl.its_own, Pl.its_brw, Pl.its_str, Pl.enum_tup, Pl.eq_int, Pl.ne_int, Pl.lt_int, Pl.le_int, Pl.gt_int, Pl.ge_int, Pl.add_int, Pl.sub_int, Pl.len_tup, Pl.len_own, Pl.len_brw, Pl.len_lst, Pl.idx_tup, Pl.idx_lst, Pl.idx_own, Pl.idx_brw, Pl.in_dic, Pl.nin_dic, Pl.idx_dic, Pl.is_non, Pl.isn_non, Pl.at_zero, Pl.at_one, sizeLine_eq, Nat.reduceAdd, Nat.reduceLeDiff]
              exact .inl fin
            · simp only [Pl.runFn, List.length_cons, List.length_nil, Pl.startE_cons, Pl.startE_nil, Pl.repl_succ, List.replicate_zero, Nat.zero_add, Pl.execs, Pl.exec, Pl.evalT, Pl.evalE, Pl.evalVs, Pl.evalP, Pl.evalI, Pl.evalJ, List.getElem?_cons_zero, List.getElem?_cons_succ, Pl.Res.bind_ok, Pl.Res.bind_exc, Pl.Res.bind_stuck, Pl.Res.to_ok, Pl.Res.to_exc, Pl.Res.to_stuck, Pl.Res.calm_ok, Pl.SR.andThen_next, Pl.SR.andThen_ret, Pl.SR.andThen_brk, Pl.SR.andThen_cont, Pl.SR.andThen_exc, Pl.SR.andThen_stuck, Pl.gcE_self, Pl.gcX_self, Pl.optR_some, Pl.optR_none, Pl.EV.val_d, Pl.EV.val_own, Pl.EV.items_own, Pl.EV.items_brw, Pl.EV.items_lst, if_true, if_false, reduceIte, Bool.false_eq_true, Bool.not_true, Bool.not_false, List.set_cons_zero, List.set_cons_succ, Pl.wipeE, List.map_cons, List.map_nil, Pl.setE, Pl.bindT, Pl.bindNames, Nat.zero_lt_succ, Nat.succ_lt_succ_iff, Nat.lt_add_one, Pl.tru_bl, Pl.tru_int, Pl.its_tup, Pl.its_lst, Pl.its_own, Pl.its_brw, Pl.its_str, Pl.enum_tup, Pl.eq_int, Pl.ne_int, Pl.lt_int, Pl.le_int, Pl.gt_int, Pl.ge_int, Pl.add_int, Pl.sub_int, Pl.len_tup, Pl.len_own, Pl.len_brw, Pl.len_lst, Pl.idx_tup, Pl.idx_lst, Pl.idx_own, Pl.idx_brw, Pl.in_dic, Pl.nin_dic, Pl.idx_dic, Pl.is_non, Pl.isn_non, Pl.at_zero, Pl.at_one, sizeLine_eq, Nat.reduceAdd, Nat.reduceLeDiff, q1, hty, r1]
              rw [hcomp _ _ _ _ fun z hz => ⟨_, rfl, by simp only [Pl.runFn, List.length_cons, List.length_nil, Pl.startE_cons, Pl.startE_nil, Pl.repl_succ, List.replicate_zero, Nat.zero_add, Pl.execs, Pl.exec, Pl.evalT, Pl.evalE, Pl.evalVs, Pl.evalP, Pl.evalI, Pl.evalJ, List.getElem?_cons_zero, List.getElem?_cons_succ, Pl.Res.bind_ok, Pl.Res.bind_exc, Pl.Res.bind_stuck, Pl.Res.to_ok, Pl.Res.to_exc, Pl.Res.to_stuck, Pl.Res.calm_ok, Pl.SR.andThen_next, Pl.SR.andThen_ret, Pl.SR.andThen_brk, Pl.SR.andThen_cont, Pl.SR.andThen_exc, Pl.SR.andThen_stuck, Pl.gcE_self, Pl.gcX_self, Pl.optR_some, Pl.optR_none, Pl.EV.val_d, Pl.EV.val_own, Pl.EV.items_own, Pl.EV.items_brw, Pl.EV.items_lst, if_true, if_false, reduceIte, Bool.false_eq_true, Bool.not_true, Bool.not_false, List.set_cons_zero, List.set_cons_succ, Pl.wipeE, List.map_cons, List.map_nil, Pl.setE, Pl.bindT, Pl.bindNames, Nat.zero_lt_succ, Nat.succ_lt_succ_iff, Nat.lt_add_one, Pl.tru_bl, Pl.tru_int, Pl.its_tup, Pl.its_lst, Pl.its_own, Pl.its_brw, Pl.its_str, Pl.enum_tup, Pl.eq_int, Pl.ne_int, Pl.lt_int, Pl.le_int, Pl.gt_int, Pl.ge_int, Pl.add_int, Pl.sub_int, Pl.len_tup, Pl.len_own, Pl.len_brw, Pl.len_lst, Pl.idx_tup, Pl.idx_lst, Pl.idx_own, Pl.idx_brw, Pl.in_dic, Pl.nin_dic, Pl.idx_dic, Pl.is_non, Pl.isn_non, Pl.at_zero, Pl.at_one, sizeLine_eq, Nat.reduceAdd, Nat.reduceLeDiff, ne_str_d (r3 z hz) hbd], rfl⟩]
              simp only [Pl.runFn, List.length_cons, List.length_nil, Pl.startE_cons, Pl.startE_nil, Pl.repl_succ, List.replicate_zero, Nat.zero_add, Pl.execs, Pl.exec, Pl.evalT, Pl.evalE, Pl.evalVs, Pl.evalP, Pl.evalI, Pl.evalJ, List.getElem?_cons_zero, List.getElem?_cons_succ, Pl.Res.bind_ok, Pl.Res.bind_exc, Pl.Res.bind_stuck, Pl.Res.to_ok, Pl.Res.to_exc, Pl.Res.to_stuck, Pl.Res.calm_ok, Pl.SR.andThen_next, Pl.SR.andThen_ret, Pl.SR.andThen_brk, Pl.SR.andThen_cont, Pl.SR.andThen_exc, Pl.SR.andThen_stuck, Pl.gcE_self, Pl.gcX_self, Pl.optR_some, Pl.optR_none, Pl.EV.val_d, Pl.EV.val_own, Pl.EV.items_own, Pl.EV.items_brw, Pl.EV.items_lst, if_true, if_false, reduceIte, Bool.false_eq_true, Bool.not_true, Bool.not_false, List.set_cons_zero, List.set_cons_succ, Pl.wipeE, List.map_cons, List.map_nil, Pl.setE, Pl.bindT, Pl.bindNames, Nat.zero_lt_succ, Nat.succ_lt_succ_iff, Nat.lt_add_one, Pl.tru_bl, Pl.tru_int, Pl.its_tup, Pl.its_lst, Pl.its_own, Pl.its_brw, Pl.its_str, Pl.enum_tup, Pl.eq_int, Pl.ne_int, Pl.lt_int, Pl.le_int, Pl.gt_int, Pl.ge_int, Pl.add_int, Pl.sub_int, Pl.len_tup, Pl.len_own, Pl.len_brw, Pl.len_lst, Pl.idx_tup, Pl.idx_lst, Pl.idx_own, Pl.idx_brw, Pl.in_dic, Pl.nin_dic, Pl.idx_dic, Pl.is_non, Pl.isn_non, Pl.at_zero, Pl.at_one, sizeLine_eq, Nat.reduceAdd, Nat.reduceLeDiff]
              rw [add_items (xs := fs.map D.str) (ys := (ns.filter fun z => !decide (bndV (.str w :: args) q.2.2 = .str z)).map D.str) rfl rfl, if_pos (by rw [← List.length_append]; exact hlen)]
              simp only [Pl.runFn, List.length_cons, List.length_nil, Pl.startE_cons, Pl.startE_nil, Pl.repl_succ, List.replicate_zero, Nat.zero_add, Pl.execs, Pl.exec, Pl.evalT, Pl.evalE, Pl.evalVs, Pl.evalP, Pl.evalI, Pl.evalJ, List.getElem?_cons_zero, List.getElem?_cons_succ, Pl.Res.bind_ok, Pl.Res.bind_exc, Pl.Res.bind_stuck, Pl.Res.to_ok, Pl.Res.to_exc, Pl.Res.to_stuck, Pl.Res.calm_ok, Pl.SR.andThen_next, Pl.SR.andThen_ret, Pl.SR.andThen_brk, Pl.SR.andThen_cont, Pl.SR.andThen_exc, Pl.SR.andThen_stuck, Pl.gcE_self, Pl.gcX_self, Pl.optR_some, Pl.optR_none, Pl.EV.val_d, Pl.EV.val_own, Pl.EV.items_own, Pl.EV.items_brw, Pl.EV.items_lst, if_true, if_false, reduceIte, Bool.false_eq_true, Bool.not_true, Bool.not_false, List.set_cons_zero, List.set_cons_succ, Pl.wipeE, List.map_cons, List.map_nil, Pl.setE, Pl.bindT, Pl.bindNames, Nat.zero_lt_succ, Nat.succ_lt_succ_iff, Nat.lt_add_one, Pl.tru_bl, Pl.tru_int, Pl.its_tup, Pl.its_lst, Pl.its_own, Pl.its_brw, Pl.its_str, Pl.enum_tup, Pl.eq_int, Pl.ne_int, Pl.lt_int, Pl.le_int, Pl.gt_int, Pl.ge_int, Pl.add_int, Pl.sub_int, Pl.len_tup, Pl.len_own, Pl.len_brw, Pl.len_lst, Pl.idx_tup, Pl.idx_lst, Pl.idx_own, Pl.idx_brw, Pl.in_dic, Pl.nin_dic, Pl.idx_dic, Pl.is_non, Pl.isn_non, Pl.at_zero, Pl.at_one, sizeLine_eq, Nat.reduceAdd, Nat.reduceLeDiff]
              exact .inl fin
      obtain ⟨fs, ρ, rfl, h1, h2, h3, h4⟩ := hq
      refine ⟨fs, .d (.lst (fs.map D.str)), ?_, .inr rfl, h2, h3, fun nm on => by rw [h4 nm on, hfr nm]⟩
      simp only [Pl.runFn, List.length_cons, List.length_nil, Pl.startE_cons, Pl.startE_nil, Pl.repl_succ, List.replicate_zero, Nat.zero_add, Pl.execs, Pl.exec, Pl.evalT, Pl.evalE, Pl.evalVs, Pl.evalP, Pl.evalI, Pl.evalJ, List.getElem?_cons_zero, List.getElem?_cons_succ, Pl.Res.bind_ok, Pl.Res.bind_exc, Pl.Res.bind_stuck, Pl.Res.to_ok, Pl.Res.to_exc, Pl.Res.to_stuck, Pl.Res.calm_ok, Pl.SR.andThen_next, Pl.SR.andThen_ret, Pl.SR.andThen_brk, Pl.SR.andThen_cont, Pl.SR.andThen_exc, Pl.SR.andThen_stuck, Pl.gcE_self, Pl.gcX_self, Pl.optR_some, Pl.optR_none, Pl.EV.val_d, Pl.EV.val_own, Pl.EV.items_own, Pl.EV.items_brw, Pl.EV.items_lst, if_true, if_false, reduceIte, Bool.false_eq_true, Bool.not_true, Bool.not_false, List.set_cons_zero, List.set_cons_succ, Pl.wipeE, List.map_cons, List.map_nil, Pl.setE, Pl.bindT, Pl.bindNames, Nat.zero_lt_succ, Nat.succ_lt_succ_iff, Nat.lt_add_one, Pl.tru_bl, Pl.tru_int, Pl.its_tup, Pl.its_lst, Pl.its_own, Pl.its_brw, Pl.its_str, Pl.enum_tup, Pl.eq_int, Pl.ne_int, Pl.lt_int, Pl.le_int, Pl.gt_int, Pl.ge_int, Pl.add_int, Pl.sub_int, Pl.len_tup, Pl.len_own, Pl.len_brw, Pl.len_lst, Pl.idx_tup, Pl.idx_lst, Pl.idx_own, Pl.idx_brw, Pl.in_dic, Pl.nin_dic, Pl.idx_dic, Pl.is_non, Pl.isn_non, Pl.at_zero, Pl.at_one, sizeLine_eq, Nat.reduceAdd, Nat.reduceLeDiff, h1]
end K20
end

section
set_option Elab.async false
set_option linter.all false
set_option maxRecDepth 100000
set_option maxHeartbeats 4000000
/-! k20: _law_put. -/
namespace K20
open PySem hiding exec execs
open L2 Pl
theorem stepP_none {nm : Str} {t : D} {pt : D → Str → Option D} {xs : List D} : ∀ {ks : List Kp} {m : List D}, (∀ q ∈ ks, frK xs nm q = false) → stepP nm t pt xs ks m = some m
  | [], _, _ => rfl
  | q :: ks, m, h => by
    rw [stepP_skip (h q List.mem_cons_self)]
    exact stepP_none fun p hp => h p (List.mem_cons_of_mem _ hp)
theorem any_false {α : Type} {f : α → Bool} {l : List α} (h : l.any f = false) : ∀ x ∈ l, f x = false := by
  intro x hx
  cases e : f x with
  | false => rfl
  | true =>
    have := List.any_eq_true.mpr ⟨x, hx, e⟩
    rw [h] at this
    cases this
theorem ptn_law {n : Nat} {nm : Str} {t : D} {sort w : Str} {ss args : List D} (P : Pt sort w ss args) {m : Nat} (N0 : Nd (isWr m) sort w ss args) (hk : sort ≠ "kind") (hc : ¬ w = "name") :
    ptn nm t (n + 1) (.tup (.str w :: args)) sort = (stepP nm t (fun d s => ptn nm t n d s) (.str w :: args) (kps sort w) (.str w :: args)).map .tup := by
  have hnn : ¬ (sort = "term" ∧ w = "name") := fun q => hc q.2
  rw [ptn, ndPt, if_neg hnn]
  have hf := fr_nd (nm := nm) N0 P.sa hk hnn
  cases e : fr (.tup (.str w :: args)) sort nm with
  | true => rw [if_pos rfl]
  | false =>
    rw [if_neg Bool.false_ne_true]
    rw [e] at hf
    rw [stepP_none (any_false hf.symm)]
    rfl
theorem ptn_ne {nm : Str} {t : D} (ht : ∃ xs, t = .tup xs) : ∀ (n : Nat) {v : D} {sort : Str} {y : D}, (∃ xs, v = .tup xs) → ptn nm t n v sort = some y → ∃ xs, y = .tup xs
  | 0, v, sort, y, _, h => by cases h
  | n + 1, v, sort, y, hv, h => by
    rw [ptn] at h
    split at h
    · unfold ndPt at h
      split at h
      · split at h
        · cases h; exact ht
        · cases e : stepP nm t (fun d s => ptn nm t n d s) (.str _ :: _) (kps sort _) (.str _ :: _) with
          | none => rw [e] at h; cases h
          | some l => rw [e] at h; cases h; exact ⟨l, rfl⟩
      · cases h
    · cases h; exact hv
theorem s_law_put (j : Nat) {nm : Str} {t : D} {fl : List Str} (hn : okZ nm) (ht : ∃ xs, t = .tup xs) (hfl : ∀ z ∈ fl, okZ z) (hft : ∀ y, okZ y → (y ∈ fl ↔ fr t "term" y = true)) : ∀ (n : Nat) (v : D) (sort : Str) (S : Sto), n ≤ 14 → sm v = true → dep v ≤ n → sort ∈ tf → wr v sort = true →
    R (n + j + 3) "_law_put" [v, .str nm, t, .lst (fl.map D.str)] S = .ok (.d ((ptn nm t (n + 1) v sort).getD .non)) S := by
  intro n
  induction n with
  | zero =>
    intro v sort S _ hsm hd hs hw
    obtain ⟨w, ss, args, rfl, _⟩ := pt_of hs hsm hw
    simp [dep] at hd
  | succ n ih =>
    intro v sort S h14 hsm hd hs hw
    obtain ⟨w, ss, args, rfl, P, N0⟩ := pt_of hs hsm hw
    rw [show n + 1 + j + 3 = (n + j + 3) + 1 by omega, R_law_put]
    unfold n_law_put
    have e1 : cmpV .Eq S (.d (.str w)) (.d (.str "name")) = some (decide (w = "name")) := eq_str P.okw (by decide +kernel)
    by_cases c : w = "name"
    · have hst := P.K.nmT c
      subst c hst
      have er : rowOf "term" "name" = some [.str "name"] := by decide +kernel
      have e2 := P.N.row
      rw [er] at e2
      cases e2
      obtain ⟨a, ea, hwa⟩ := P.N.sub 0 "name" rfl
      have hl := P.N.len
      cases args with
      | nil => cases ea
      | cons b args =>
        cases args with
        | cons _ _ => simp at hl
        | nil =>
          cases ea
          obtain ⟨y, rfl, oy⟩ := wr_name' (sms_mem P.sa List.mem_cons_self) hwa
          have e1 := e1.trans (congrArg some (decide_eq_true rfl))
          simp only [Pl.runFn, List.length_cons, List.length_nil, Pl.startE_cons, Pl.startE_nil, Pl.repl_succ, List.replicate_zero, Nat.zero_add, Pl.execs, Pl.exec, Pl.evalT, Pl.evalE, Pl.evalVs, Pl.evalP, Pl.evalI, Pl.evalJ, List.getElem?_cons_zero, List.getElem?_cons_succ, Pl.Res.bind_ok, Pl.Res.bind_exc, Pl.Res.bind_stuck, Pl.Res.to_ok, Pl.Res.to_exc, Pl.Res.to_stuck, Pl.Res.calm_ok, Pl.SR.andThen_next, Pl.SR.andThen_ret, Pl.SR.andThen_brk, Pl.SR.andThen_cont, Pl.SR.andThen_exc, Pl.SR.andThen_stuck, Pl.gcE_self, Pl.gcX_self, Pl.optR_some, Pl.optR_none, Pl.EV.val_d, Pl.EV.val_own, Pl.EV.items_own, Pl.EV.items_brw, Pl.EV.items_lst, if_true, if_false, reduceIte, Bool.false_eq_true, Bool.not_true, Bool.not_false, List.set_cons_zero, List.set_cons_succ, Pl.wipeE, List.map_cons, List.map_nil, Pl.setE, Pl.bindT, Pl.bindNames, Nat.zero_lt_succ, Nat.succ_lt_succ_iff, Nat.lt_add_one, Pl.tru_bl, Pl.tru_int, Pl.its_tup, Pl.its_lst, Pl.its_own, Pl.its_brw, Pl.its_str, Pl.enum_tup, Pl.eq_int, Pl.ne_int, Pl.lt_int, Pl.le_int, Pl.gt_int, Pl.ge_int, Pl.add_int, Pl.sub_int, Pl.len_tup, Pl.len_own, Pl.len_brw, Pl.len_lst, Pl.idx_tup, Pl.idx_lst, Pl.idx_own, Pl.idx_brw, Pl.in_dic, Pl.nin_dic, Pl.idx_dic, Pl.is_non, Pl.isn_non, Pl.at_zero, Pl.at_one, sizeLine_eq, Nat.reduceAdd, Nat.reduceLeDiff, e1, at1, eq_str oy hn]
          rw [ptn, fr_name, ndPt, if_pos (show (Str.ofString "term" = Str.ofString "term" ∧ Str.ofString "name" = Str.ofString "name") from ⟨rfl, rfl⟩)]
          by_cases e : y = nm
          · subst e
            simp only [Pl.runFn, List.length_cons, List.length_nil, Pl.startE_cons, Pl.startE_nil, Pl.repl_succ, List.replicate_zero, Nat.zero_add, Pl.execs, Pl.exec, Pl.evalT, Pl.evalE, Pl.evalVs, Pl.evalP, Pl.evalI, Pl.evalJ, List.getElem?_cons_zero, List.getElem?_cons_succ, Pl.Res.bind_ok, Pl.Res.bind_exc, Pl.Res.bind_stuck, Pl.Res.to_ok, Pl.Res.to_exc, Pl.Res.to_stuck, Pl.Res.calm_ok, Pl.SR.andThen_next, Pl.SR.andThen_ret, Pl.SR.andThen_brk, Pl.SR.andThen_cont, Pl.SR.andThen_exc, Pl.SR.andThen_stuck, Pl.gcE_self, Pl.gcX_self, Pl.optR_some, Pl.optR_none, Pl.EV.val_d, Pl.EV.val_own, Pl.EV.items_own, Pl.EV.items_brw, Pl.EV.items_lst, if_true, if_false, reduceIte, Bool.false_eq_true, Bool.not_true, Bool.not_false, List.set_cons_zero, List.set_cons_succ, Pl.wipeE, List.map_cons, List.map_nil, Pl.setE, Pl.bindT, Pl.bindNames, Nat.zero_lt_succ, Nat.succ_lt_succ_iff, Nat.lt_add_one, Pl.tru_bl, Pl.tru_int, Pl.its_tup, Pl.its_lst, Pl.its_own, Pl.its_brw, Pl.its_str, Pl.enum_tup, Pl.eq_int, Pl.ne_int, Pl.lt_int, Pl.le_int, Pl.gt_int, Pl.ge_int, Pl.add_int, Pl.sub_int, Pl.len_tup, Pl.len_own, Pl.len_brw, Pl.len_lst, Pl.idx_tup, Pl.idx_lst, Pl.idx_own, Pl.idx_brw, Pl.in_dic, Pl.nin_dic, Pl.idx_dic, Pl.is_non, Pl.isn_non, Pl.at_zero, Pl.at_one, sizeLine_eq, Nat.reduceAdd, Nat.reduceLeDiff, decide_true, List.head?_cons, Option.getD_some]
          · have h2 : ¬ (some (D.str y) = some (D.str nm)) := fun z => e (D.str.inj (Option.some.inj z))
            simp only [Pl.runFn, List.length_cons, List.length_nil, Pl.startE_cons, Pl.startE_nil, Pl.repl_succ, List.replicate_zero, Nat.zero_add, Pl.execs, Pl.exec, Pl.evalT, Pl.evalE, Pl.evalVs, Pl.evalP, Pl.evalI, Pl.evalJ, List.getElem?_cons_zero, List.getElem?_cons_succ, Pl.Res.bind_ok, Pl.Res.bind_exc, Pl.Res.bind_stuck, Pl.Res.to_ok, Pl.Res.to_exc, Pl.Res.to_stuck, Pl.Res.calm_ok, Pl.SR.andThen_next, Pl.SR.andThen_ret, Pl.SR.andThen_brk, Pl.SR.andThen_cont, Pl.SR.andThen_exc, Pl.SR.andThen_stuck, Pl.gcE_self, Pl.gcX_self, Pl.optR_some, Pl.optR_none, Pl.EV.val_d, Pl.EV.val_own, Pl.EV.items_own, Pl.EV.items_brw, Pl.EV.items_lst, if_true, if_false, reduceIte, Bool.false_eq_true, Bool.not_true, Bool.not_false, List.set_cons_zero, List.set_cons_succ, Pl.wipeE, List.map_cons, List.map_nil, Pl.setE, Pl.bindT, Pl.bindNames, Nat.zero_lt_succ, Nat.succ_lt_succ_iff, Nat.lt_add_one, Pl.tru_bl, Pl.tru_int, Pl.its_tup, Pl.its_lst, Pl.its_own, Pl.its_brw, Pl.its_str, Pl.enum_tup, Pl.eq_int, Pl.ne_int, Pl.lt_int, Pl.le_int, Pl.gt_int, Pl.ge_int, Pl.add_int, Pl.sub_int, Pl.len_tup, Pl.len_own, Pl.len_brw, Pl.len_lst, Pl.idx_tup, Pl.idx_lst, Pl.idx_own, Pl.idx_brw, Pl.in_dic, Pl.nin_dic, Pl.idx_dic, Pl.is_non, Pl.isn_non, Pl.at_zero, Pl.at_one, sizeLine_eq, Nat.reduceAdd, Nat.reduceLeDiff, e, h2, decide_false, List.head?_cons, Option.getD_some]
    · rw [ptn_law P N0 (tf_sK hs).2 c]
      simp only [Pl.runFn, List.length_cons, List.length_nil, Pl.startE_cons, Pl.startE_nil, Pl.repl_succ, List.replicate_zero, Nat.zero_add, Pl.execs, Pl.exec, Pl.evalT, Pl.evalE, Pl.evalVs, Pl.evalP, Pl.evalI, Pl.evalJ, List.getElem?_cons_zero, List.getElem?_cons_succ, Pl.Res.bind_ok, Pl.Res.bind_exc, Pl.Res.bind_stuck, Pl.Res.to_ok, Pl.Res.to_exc, Pl.Res.to_stuck, Pl.Res.calm_ok, Pl.SR.andThen_next, Pl.SR.andThen_ret, Pl.SR.andThen_brk, Pl.SR.andThen_cont, Pl.SR.andThen_exc, Pl.SR.andThen_stuck, Pl.gcE_self, Pl.gcX_self, Pl.optR_some, Pl.optR_none, Pl.EV.val_d, Pl.EV.val_own, Pl.EV.items_own, Pl.EV.items_brw, Pl.EV.items_lst, if_true, if_false, reduceIte, Bool.false_eq_true, Bool.not_true, Bool.not_false, List.set_cons_zero, List.set_cons_succ, Pl.wipeE, List.map_cons, List.map_nil, Pl.setE, Pl.bindT, Pl.bindNames, Nat.zero_lt_succ, Nat.succ_lt_succ_iff, Nat.lt_add_one, Pl.tru_bl, Pl.tru_int, Pl.its_tup, Pl.its_lst, Pl.its_own, Pl.its_brw, Pl.its_str, Pl.enum_tup, Pl.eq_int, Pl.ne_int, Pl.lt_int, Pl.le_int, Pl.gt_int, Pl.ge_int, Pl.add_int, Pl.sub_int, Pl.len_tup, Pl.len_own, Pl.len_brw, Pl.len_lst, Pl.idx_tup, Pl.idx_lst, Pl.idx_own, Pl.idx_brw, Pl.in_dic, Pl.nin_dic, Pl.idx_dic, Pl.is_non, Pl.isn_non, Pl.at_zero, Pl.at_one, sizeLine_eq, Nat.reduceAdd, Nat.reduceLeDiff, e1, c, decide_false, list_tup, P.s_parts (n + j + 2) S]
      generalize hfl' : forLoop _ _ _ _ _ = r
      let tot := stepP nm t (fun d s => ptn nm t (n + 1) d s) (.str w :: args) (kps sort w) (.str w :: args)
      have hq : (∃ l ρ, r = .next ρ S ∧ ρ[4]? = some (some (.own l)) ∧ tot = some l) ∨ (tot = none ∧ r = .ret (.d .non) S) := by
        rw [← hfl']
        refine for_inv (fun xs ρ S' => S = S' ∧ ∃ (ks : List Kp) (l : List D) (a b : Option EV), xs = ks.map (fun q => .tup [.int q.1, bndV (.str w :: args) q.2.2]) ∧ (∀ q ∈ ks, q ∈ kps sort w) ∧ l.length = args.length + 1 ∧ tot = stepP nm t (fun d s => ptn nm t (n + 1) d s) (.str w :: args) ks l ∧
            ρ = [some (.d (.tup (.str w :: args))), some (.d (.str nm)), some (.d t), some (.d (.lst (fl.map D.str))), some (.own l), a, b])
          (fun r => (∃ l ρ, r = .next ρ S ∧ ρ[4]? = some (some (.own l)) ∧ tot = some l) ∨ (tot = none ∧ r = .ret (.d .non) S))
          _ _ S ⟨rfl, kps sort w, .str w :: args, _, _, rfl, fun _ h => h, rfl, rfl, rfl⟩ (fun _ _ _ _ => rfl) ?_ ?_
        · rintro ρ S' ⟨rfl, ks, l, a, b, e, _, hl, e3, rfl⟩
          have : ks = [] := by cases ks with | nil => rfl | cons _ _ => cases e
          subst this
          exact .inl ⟨l, _, rfl, rfl, e3⟩
        · rintro x xs ρ S' ⟨rfl, ks, l, a, b, e, hin, hl, e3, rfl⟩
          cases ks with
          | nil => cases e
          | cons q ks =>
            rw [List.map_cons] at e
            cases e
            have hqm : q ∈ kps sort w := hin q List.mem_cons_self
            have on : ∀ p ∈ ks, p ∈ kps sort w := fun p hp => hin p (List.mem_cons_of_mem _ hp)
            obtain ⟨i, y, q1, q2, q3, q4, q5, q6⟩ := P.ch q hqm
            have hbd := P.bd q hqm
            have hyd := dep_in q6 hd
            obtain ⟨ns, ev, r1, r2, r3, r4, r5⟩ := s_law_free j (n + 1) y q.2.1 S h14 q5 (by omega) q4 q3
            rw [show n + 1 + j + 2 = n + j + 3 by omega] at r1
            have hin' : cmpV .In S (.d (.str nm)) ev = some (fr y q.2.1 nm) := by
              have : decide (nm ∈ ns) = fr y q.2.1 nm := by
                rw [Bool.eq_iff_iff, decide_eq_true_eq]
                exact r5 nm hn
              rcases r2 with rfl | rfl
              · rw [in_own hn r3, this]
              · rw [in_lst hn r3, this]
            have hty : args[i]? = some y := by simpa using q2
            have hi : i < args.length := (List.getElem?_eq_some_iff.mp hty).1
            have hkk : frK (.str w :: args) nm q = (!decide (bndV (.str w :: args) q.2.2 = .str nm) && fr y q.2.1 nm) := by
              rw [frK, q1, Pl.at_one, q2]; rfl
            have hix : ixN l.length ((i : Int) + 1) = some (i + 1) := by
              rw [show ((i : Int) + 1) = ((i + 1 : Nat) : Int) by omega, ixN_in (by omega)]
            have hput := ih y q.2.1 S (by omega) q5 hyd q4 q3
            have gy : (atI (D.str w :: args) ((i : Int) + 1)).getD .non = y := by rw [Pl.at_one, q2]; rfl
            rw [stepP, hkk] at e3
            have hnt := ne_told (S := S) hn hbd
            by_cases c6 : bndV (.str w :: args) q.2.2 = .str nm
            · rw [c6] at e3 hnt ⊢
              rw [decide_eq_true rfl] at hnt e3
              rw [show (!true && fr y q.2.1 nm) = false from rfl, if_neg Bool.false_ne_true] at e3
              simp only [Pl.runFn, List.length_cons, List.length_nil, Pl.startE_cons, Pl.startE_nil, Pl.repl_succ, List.replicate_zero, Nat.zero_add, Pl.execs, Pl.exec, Pl.evalT, Pl.evalE, Pl.evalVs, Pl.evalP, Pl.evalI, Pl.evalJ, List.getElem?_cons_zero, List.getElem?_cons_succ, Pl.Res.bind_ok, Pl.Res.bind_exc, Pl.Res.bind_stuck, Pl.Res.to_ok, Pl.Res.to_exc, Pl.Res.to_stuck, Pl.Res.calm_ok, Pl.SR.andThen_next, Pl.SR.andThen_ret, Pl.SR.andThen_brk, Pl.SR.andThen_cont, Pl.SR.andThen_exc, Pl.SR.andThen_stuck, Pl.gcE_self, Pl.gcX_self, Pl.optR_some, Pl.optR_none, Pl.EV.val_d, Pl.EV.val_own, Pl.EV.items_own, Pl.EV.items_brw, Pl.EV.items_lst, if_true, if_false, reduceIte, Bool.false_eq_true, Bool.not_true, Bool.not_false, List.set_cons_zero, List.set_cons_succ, Pl.wipeE, List.map_cons, List.map_nil, Pl.setE, Pl.bindT, Pl.bindNames, Nat.zero_lt_succ, Nat.succ_lt_succ_iff, Nat.lt_add_one, Pl.tru_bl, Pl.tru_int, Pl.its_tup, Pl.its_lst, Pl.its_own, Pl.its_brw, Pl.its_str, Pl.enum_tup, Pl.eq_int, Pl.ne_int, Pl.lt_int, Pl.le_int, Pl.gt_int, Pl.ge_int, Pl.add_int, Pl.sub_int, Pl.len_tup, Pl.len_own, Pl.len_brw, Pl.len_lst, Pl.idx_tup, Pl.idx_lst, Pl.idx_own, Pl.idx_brw, Pl.in_dic, Pl.nin_dic, Pl.idx_dic, Pl.is_non, Pl.isn_non, Pl.at_zero, Pl.at_one, sizeLine_eq, Nat.reduceAdd, Nat.reduceLeDiff, hnt, q1]
              exact .inl ⟨_, _, rfl, rfl, ks, l, _, _, rfl, on, hl, e3, rfl⟩
            · rw [decide_eq_false c6] at hnt e3
              cases c7 : fr y q.2.1 nm with
              | false =>
                rw [c7] at e3 hin'
                rw [show (!false && false) = false from rfl, if_neg Bool.false_ne_true] at e3
                simp only [Pl.runFn, List.length_cons, List.length_nil, Pl.startE_cons, Pl.startE_nil, Pl.repl_succ, List.replicate_zero, Nat.zero_add, Pl.execs, Pl.exec, Pl.evalT, Pl.evalE, Pl.evalVs, Pl.evalP, Pl.evalI, Pl.evalJ, List.getElem?_cons_zero, List.getElem?_cons_succ, Pl.Res.bind_ok, Pl.Res.bind_exc, Pl.Res.bind_stuck, Pl.Res.to_ok, Pl.Res.to_exc, Pl.Res.to_stuck, Pl.Res.calm_ok, Pl.SR.andThen_next, Pl.SR.andThen_ret, Pl.SR.andThen_brk, Pl.SR.andThen_cont, Pl.SR.andThen_exc, Pl.SR.andThen_stuck, Pl.gcE_self, Pl.gcX_self, Pl.optR_some, Pl.optR_none, Pl.EV.val_d, Pl.EV.val_own, Pl.EV.items_own, Pl.EV.items_brw, Pl.EV.items_lst, if_true, if_false, reduceIte, Bool.false_eq_true, Bool.not_true, Bool.not_false, List.set_cons_zero, List.set_cons_succ, Pl.wipeE, List.map_cons, List.map_nil, Pl.setE, Pl.bindT, Pl.bindNames, Nat.zero_lt_succ, Nat.succ_lt_succ_iff, Nat.lt_add_one, Pl.tru_bl, Pl.tru_int, Pl.its_tup, Pl.its_lst, Pl.its_own, Pl.its_brw, Pl.its_str, Pl.enum_tup, Pl.eq_int, Pl.ne_int, Pl.lt_int, Pl.le_int, Pl.gt_int, Pl.ge_int, Pl.add_int, Pl.sub_int, Pl.len_tup, Pl.len_own, Pl.len_brw, Pl.len_lst, Pl.idx_tup, Pl.idx_lst, Pl.idx_own, Pl.idx_brw, Pl.in_dic, Pl.nin_dic, Pl.idx_dic, Pl.is_non, Pl.isn_non, Pl.at_zero, Pl.at_one, sizeLine_eq, Nat.reduceAdd, Nat.reduceLeDiff, hnt, q1, hty, r1, hin']
                exact .inl ⟨_, _, rfl, rfl, ks, l, _, _, rfl, on, hl, e3, rfl⟩
              | true =>
                rw [c7] at e3 hin'
                rw [show (!false && true) = true from rfl, if_pos rfl, q1, gy, show ((i : Int) + 1).toNat = i + 1 by omega] at e3
                have hbf : cmpV .In S (.d (bndV (.str w :: args) q.2.2)) (.d (.lst (fl.map D.str))) = some (tfD t (bndV (.str w :: args) q.2.2)) := by
                  rcases hbd with h | ⟨z, h, oz⟩
                  · rw [h, in_non hfl]; rfl
                  · rw [h, in_lst oz hfl]
                    show some (decide (z ∈ fl)) = some (fr t "term" z)
                    congr 1
                    rw [Bool.eq_iff_iff, decide_eq_true_eq]
                    exact hft z oz
                cases c8 : tfD t (bndV (.str w :: args) q.2.2) with
                | true =>
                  rw [c8, if_pos rfl] at e3
                  rw [c8] at hbf
                  simp only [Pl.runFn, List.length_cons, List.length_nil, Pl.startE_cons, Pl.startE_nil, Pl.repl_succ, List.replicate_zero, Nat.zero_add, Pl.execs, Pl.exec, Pl.evalT, Pl.evalE, Pl.evalVs, Pl.evalP, Pl.evalI, Pl.evalJ, List.getElem?_cons_zero, List.getElem?_cons_succ, Pl.Res.bind_ok, Pl.Res.bind_exc, Pl.Res.bind_stuck, Pl.Res.to_ok, Pl.Res.to_exc, Pl.Res.to_stuck, Pl.Res.calm_ok, Pl.SR.andThen_next, Pl.SR.andThen_ret, Pl.SR.andThen_brk, Pl.SR.andThen_cont, Pl.SR.andThen_exc, Pl.SR.andThen_stuck, Pl.gcE_self, Pl.gcX_self, Pl.optR_some, Pl.optR_none, Pl.EV.val_d, Pl.EV.val_own, Pl.EV.items_own, Pl.EV.items_brw, Pl.EV.items_lst, if_true, if_false, reduceIte, Bool.false_eq_true, Bool.not_true, Bool.not_false, List.set_cons_zero, List.set_cons_succ, Pl.wipeE, List.map_cons, List.map_nil, Pl.setE, Pl.bindT, Pl.bindNames, Nat.zero_lt_succ, Nat.succ_lt_succ_iff, Nat.lt_add_one, Pl.tru_bl, Pl.tru_int, Pl.its_tup, Pl.its_lst, Pl.its_own, Pl.its_brw, Pl.its_str, Pl.enum_tup, Pl.eq_int, Pl.ne_int, Pl.lt_int, Pl.le_int, Pl.gt_int, Pl.ge_int, Pl.add_int, Pl.sub_int, Pl.len_tup, Pl.len_own, Pl.len_brw, Pl.len_lst, Pl.idx_tup, Pl.idx_lst, Pl.idx_own, Pl.idx_brw, Pl.in_dic, Pl.nin_dic, Pl.idx_dic, Pl.is_non, Pl.isn_non, Pl.at_zero, Pl.at_one, sizeLine_eq, Nat.reduceAdd, Nat.reduceLeDiff, hnt, q1, hty, r1, hin', hbf]
                  exact .inr (.inl ⟨_, _, rfl, .inr ⟨e3, rfl⟩⟩)
                | false =>
                  rw [c8, if_neg Bool.false_ne_true] at e3
                  rw [c8] at hbf
                  cases hpt : ptn nm t (n + 1) y q.2.1 with
                  | none =>
                    rw [hpt] at e3 hput
                    have hget : (l.set (i + 1) .non)[i + 1]? = some (D.non) := by rw [List.getElem?_set_self (by omega)]
                    simp only [Pl.runFn, List.length_cons, List.length_nil, Pl.startE_cons, Pl.startE_nil, Pl.repl_succ, List.replicate_zero, Nat.zero_add, Pl.execs, Pl.exec, Pl.evalT, Pl.evalE, Pl.evalVs, Pl.evalP, Pl.evalI, Pl.evalJ, List.getElem?_cons_zero, List.getElem?_cons_succ, Pl.Res.bind_ok, Pl.Res.bind_exc, Pl.Res.bind_stuck, Pl.Res.to_ok, Pl.Res.to_exc, Pl.Res.to_stuck, Pl.Res.calm_ok, Pl.SR.andThen_next, Pl.SR.andThen_ret, Pl.SR.andThen_brk, Pl.SR.andThen_cont, Pl.SR.andThen_exc, Pl.SR.andThen_stuck, Pl.gcE_self, Pl.gcX_self, Pl.optR_some, Pl.optR_none, Pl.EV.val_d, Pl.EV.val_own, Pl.EV.items_own, Pl.EV.items_brw, Pl.EV.items_lst, if_true, if_false, reduceIte, Bool.false_eq_true, Bool.not_true, Bool.not_false, List.set_cons_zero, List.set_cons_succ, Pl.wipeE, List.map_cons, List.map_nil, Pl.setE, Pl.bindT, Pl.bindNames, Nat.zero_lt_succ, Nat.succ_lt_succ_iff, Nat.lt_add_one, Pl.tru_bl, Pl.tru_int, Pl.its_tup, Pl.its_lst, Pl.its_own, Pl.its_brw, Pl.its_str, Pl.enum_tup, Pl.eq_int, Pl.ne_int, Pl.lt_int, Pl.le_int, Pl.gt_int, Pl.ge_int, Pl.add_int, Pl.sub_int, Pl.len_tup, Pl.len_own, Pl.len_brw, Pl.len_lst, Pl.idx_tup, Pl.idx_lst, Pl.idx_own, Pl.idx_brw, Pl.in_dic, Pl.nin_dic, Pl.idx_dic, Pl.is_non, Pl.isn_non, Pl.at_zero, Pl.at_one, sizeLine_eq, Nat.reduceAdd, Nat.reduceLeDiff, hnt, q1, hty, r1, hin', hbf, slotL, hput, putL, hix, Option.map_some, Option.getD_none, hget, decide_true]
                    exact .inr (.inl ⟨_, _, rfl, .inr ⟨e3, rfl⟩⟩)
                  | some y' =>
                    rw [hpt] at e3 hput
                    obtain ⟨ys, rfl⟩ := ptn_ne ht (n + 1) (by obtain ⟨w', _, args', e5, _⟩ := wr_nd (tf_sK q4).1 q3; exact ⟨_, e5⟩) hpt
                    have hget : (l.set (i + 1) (.tup ys))[i + 1]? = some (D.tup ys) := by rw [List.getElem?_set_self (by omega)]
                    simp only [Pl.runFn, List.length_cons, List.length_nil, Pl.startE_cons, Pl.startE_nil, Pl.repl_succ, List.replicate_zero, Nat.zero_add, Pl.execs, Pl.exec, Pl.evalT, Pl.evalE, Pl.evalVs, Pl.evalP, Pl.evalI, Pl.evalJ, List.getElem?_cons_zero, List.getElem?_cons_succ, Pl.Res.bind_ok, Pl.Res.bind_exc, Pl.Res.bind_stuck, Pl.Res.to_ok, Pl.Res.to_exc, Pl.Res.to_stuck, Pl.Res.calm_ok, Pl.SR.andThen_next, Pl.SR.andThen_ret, Pl.SR.andThen_brk, Pl.SR.andThen_cont, Pl.SR.andThen_exc, Pl.SR.andThen_stuck, Pl.gcE_self, Pl.gcX_self, Pl.optR_some, Pl.optR_none, Pl.EV.val_d, Pl.EV.val_own, Pl.EV.items_own, Pl.EV.items_brw, Pl.EV.items_lst, if_true, if_false, reduceIte, Bool.false_eq_true, Bool.not_true, Bool.not_false, List.set_cons_zero, List.set_cons_succ, Pl.wipeE, List.map_cons, List.map_nil, Pl.setE, Pl.bindT, Pl.bindNames, Nat.zero_lt_succ, Nat.succ_lt_succ_iff, Nat.lt_add_one, Pl.tru_bl, Pl.tru_int, Pl.its_tup, Pl.its_lst, Pl.its_own, Pl.its_brw, Pl.its_str, Pl.enum_tup, Pl.eq_int, Pl.ne_int, Pl.lt_int, Pl.le_int, Pl.gt_int, Pl.ge_int, Pl.add_int, Pl.sub_int, Pl.len_tup, Pl.len_own, Pl.len_brw, Pl.len_lst, Pl.idx_tup, Pl.idx_lst, Pl.idx_own, Pl.idx_brw, Pl.in_dic, Pl.nin_dic, Pl.idx_dic, Pl.is_non, Pl.isn_non, Pl.at_zero, Pl.at_one, sizeLine_eq, Nat.reduceAdd, Nat.reduceLeDiff, hnt, q1, hty, r1, hin', hbf, slotL, hput, putL, hix, Option.map_some, Option.getD_some, hget, EV.d.injEq, reduceCtorEq, decide_false]
                    exact .inl ⟨_, _, rfl, rfl, ks, l.set (i + 1) (.tup ys), _, _, rfl, on, by rw [List.length_set]; exact hl, e3, rfl⟩
      rcases hq with ⟨l, ρ, rfl, h4, e⟩ | ⟨e, rfl⟩
      · simp only [Pl.runFn, List.length_cons, List.length_nil, Pl.startE_cons, Pl.startE_nil, Pl.repl_succ, List.replicate_zero, Nat.zero_add, Pl.execs, Pl.exec, Pl.evalT, Pl.evalE, Pl.evalVs, Pl.evalP, Pl.evalI, Pl.evalJ, List.getElem?_cons_zero, List.getElem?_cons_succ, Pl.Res.bind_ok, Pl.Res.bind_exc, Pl.Res.bind_stuck, Pl.Res.to_ok, Pl.Res.to_exc, Pl.Res.to_stuck, Pl.Res.calm_ok, Pl.SR.andThen_next, Pl.SR.andThen_ret, Pl.SR.andThen_brk, Pl.SR.andThen_cont, Pl.SR.andThen_exc, Pl.SR.andThen_stuck, Pl.gcE_self, Pl.gcX_self, Pl.optR_some, Pl.optR_none, Pl.EV.val_d, Pl.EV.val_own, Pl.EV.items_own, Pl.EV.items_brw, Pl.EV.items_lst, if_true, if_false, reduceIte, Bool.false_eq_true, Bool.not_true, Bool.not_false, List.set_cons_zero, List.set_cons_succ, Pl.wipeE, List.map_cons, List.map_nil, Pl.setE, Pl.bindT, Pl.bindNames, Nat.zero_lt_succ, Nat.succ_lt_succ_iff, Nat.lt_add_one, Pl.tru_bl, Pl.tru_int, Pl.its_tup, Pl.its_lst, Pl.its_own, Pl.its_brw, Pl.its_str, Pl.enum_tup, Pl.eq_int, Pl.ne_int, Pl.lt_int, Pl.le_int, Pl.gt_int, Pl.ge_int, Pl.add_int, Pl.sub_int, Pl.len_tup, Pl.len_own, Pl.len_brw, Pl.len_lst, Pl.idx_tup, Pl.idx_lst, Pl.idx_own, Pl.idx_brw, Pl.in_dic, Pl.nin_dic, Pl.idx_dic, Pl.is_non, Pl.isn_non, Pl.at_zero, Pl.at_one, sizeLine_eq, Nat.reduceAdd, Nat.reduceLeDiff, h4, tuple_brw]
        rw [show stepP nm t (fun d s => ptn nm t (n + 1) d s) (.str w :: args) (kps sort w) (.str w :: args) = some l from e]
        simp only [Pl.runFn, List.length_cons, List.length_nil, Pl.startE_cons, Pl.startE_nil, Pl.repl_succ, List.replicate_zero, Nat.zero_add, Pl.execs, Pl.exec, Pl.evalT, Pl.evalE, Pl.evalVs, Pl.evalP, Pl.evalI, Pl.evalJ, List.getElem?_cons_zero, List.getElem?_cons_succ, Pl.Res.bind_ok, Pl.Res.bind_exc, Pl.Res.bind_stuck, Pl.Res.to_ok, Pl.Res.to_exc, Pl.Res.to_stuck, Pl.Res.calm_ok, Pl.SR.andThen_next, Pl.SR.andThen_ret, Pl.SR.andThen_brk, Pl.SR.andThen_cont, Pl.SR.andThen_exc, Pl.SR.andThen_stuck, Pl.gcE_self, Pl.gcX_self, Pl.optR_some, Pl.optR_none, Pl.EV.val_d, Pl.EV.val_own, Pl.EV.items_own, Pl.EV.items_brw, Pl.EV.items_lst, if_true, if_false, reduceIte, Bool.false_eq_true, Bool.not_true, Bool.not_false, List.set_cons_zero, List.set_cons_succ, Pl.wipeE, List.map_cons, List.map_nil, Pl.setE, Pl.bindT, Pl.bindNames, Nat.zero_lt_succ, Nat.succ_lt_succ_iff, Nat.lt_add_one, Pl.tru_bl, Pl.tru_int, Pl.its_tup, Pl.its_lst, Pl.its_own, Pl.its_brw, Pl.its_str, Pl.enum_tup, Pl.eq_int, Pl.ne_int, Pl.lt_int, Pl.le_int, Pl.gt_int, Pl.ge_int, Pl.add_int, Pl.sub_int, Pl.len_tup, Pl.len_own, Pl.len_brw, Pl.len_lst, Pl.idx_tup, Pl.idx_lst, Pl.idx_own, Pl.idx_brw, Pl.in_dic, Pl.nin_dic, Pl.idx_dic, Pl.is_non, Pl.isn_non, Pl.at_zero, Pl.at_one, sizeLine_eq, Nat.reduceAdd, Nat.reduceLeDiff, Option.map_some, Option.getD_some]
      · simp only [Pl.runFn, List.length_cons, List.length_nil, Pl.startE_cons, Pl.startE_nil, Pl.repl_succ, List.replicate_zero, Nat.zero_add, Pl.execs, Pl.exec, Pl.evalT, Pl.evalE, Pl.evalVs, Pl.evalP, Pl.evalI, Pl.evalJ, List.getElem?_cons_zero, List.getElem?_cons_succ, Pl.Res.bind_ok, Pl.Res.bind_exc, Pl.Res.bind_stuck, Pl.Res.to_ok, Pl.Res.to_exc, Pl.Res.to_stuck, Pl.Res.calm_ok, Pl.SR.andThen_next, Pl.SR.andThen_ret, Pl.SR.andThen_brk, Pl.SR.andThen_cont, Pl.SR.andThen_exc, Pl.SR.andThen_stuck, Pl.gcE_self, Pl.gcX_self, Pl.optR_some, Pl.optR_none, Pl.EV.val_d, Pl.EV.val_own, Pl.EV.items_own, Pl.EV.items_brw, Pl.EV.items_lst, if_true, if_false, reduceIte, Bool.false_eq_true, Bool.not_true, Bool.not_false, List.set_cons_zero, List.set_cons_succ, Pl.wipeE, List.map_cons, List.map_nil, Pl.setE, Pl.bindT, Pl.bindNames, Nat.zero_lt_succ, Nat.succ_lt_succ_iff, Nat.lt_add_one, Pl.tru_bl, Pl.tru_int, Pl.its_tup, Pl.its_lst, Pl.its_own, Pl.its_brw, Pl.its_str, Pl.enum_tup, Pl.eq_int, Pl.ne_int, Pl.lt_int, Pl.le_int, Pl.gt_int, Pl.ge_int, Pl.add_int, Pl.sub_int, Pl.len_tup, Pl.len_own, Pl.len_brw, Pl.len_lst, Pl.idx_tup, Pl.idx_lst, Pl.idx_own, Pl.idx_brw, Pl.in_dic, Pl.nin_dic, Pl.idx_dic, Pl.is_non, Pl.isn_non, Pl.at_zero, Pl.at_one, sizeLine_eq, Nat.reduceAdd, Nat.reduceLeDiff]
        rw [show stepP nm t (fun d s => ptn nm t (n + 1) d s) (.str w :: args) (kps sort w) (.str w :: args) = none from e]
        rfl
end K20
end

section
set_option Elab.async false
set_option linter.all false
set_option maxRecDepth 100000
set_option maxHeartbeats 4000000
/-! k20: _law_broken. -/
namespace K20
open PySem hiding exec execs
open L2 Pl
/-- not written, neither as a term nor as a formula -/
def Bad (u : D) : Prop := ∀ s ∈ tf, wr u s = false
theorem bad_row {w : Str} {args : List D} (h : ∀ s ∈ tf, ∀ ss, rowOf s w = some ss → ss.length ≠ args.length ∨ ∃ (i : Nat) (z : Str) (a : D), ss[i]? = some (D.str z) ∧ args[i]? = some a ∧ wr a z = false) : Bad (.tup (.str w :: args)) := by
  intro s hs
  cases e : wr (.tup (.str w :: args)) s with
  | false => rfl
  | true =>
    obtain ⟨w', ss, args', e1, N, _⟩ := wr_nd (tf_sK hs).1 e
    cases e1
    rcases h s hs ss N.row with h | ⟨i, z, a, h1, h2, h3⟩
    · exact (h N.len).elim
    · obtain ⟨a', h4, h5⟩ := N.sub i z h1
      rw [h2] at h4
      cases h4
      rw [h3] at h5
      cases h5
theorem bad_not {u : D} (h : ∀ w args, u ≠ .tup (.str w :: args)) : Bad u := by
  intro s hs
  cases e : wr u s with
  | false => rfl
  | true =>
    obtain ⟨w', ss, args', e1, N, _⟩ := wr_nd (tf_sK hs).1 e
    exact (h _ _ e1).elim
/-- a word is of one sort -/
theorem one_b : (tf.all fun s => tf.all fun s' => decide (s = s') || match tab s with
    | some (ws, _) => ws.all fun w => decide (rowOf s' w = none)
    | none => false) = true := by decide +kernel
theorem row_one {s s' w : Str} {ss ss' : List D} (hs : s ∈ tf) (hs' : s' ∈ tf) (h : rowOf s w = some ss) (h' : rowOf s' w = some ss') : s = s' ∧ ss = ss' := by
  have q := List.all_eq_true.mp (List.all_eq_true.mp one_b s hs) s' hs'
  rw [Bool.or_eq_true] at q
  rcases q with q | q
  · have e := of_decide_eq_true q
    subst e
    rw [h] at h'
    exact ⟨rfl, Option.some.inj h'⟩
  · split at q
    · rename_i ws rs e
      obtain ⟨ws', rs', _, t2, t3, _⟩ := tab_in (tf_sK hs).1
      rw [e] at t2
      cases t2
      have hw : w ∈ ws := by
        have h2 := h
        unfold rowOf at h2
        rw [e] at h2
        simp only at h2
        split at h2
        · rename_i e5
          have := lookS ws rs w t3
          rw [e5] at this
          exact List.contains_iff_mem.mp this.symm
        · cases h2
      have := of_decide_eq_true (List.all_eq_true.mp q w hw)
      rw [this] at h'
      cases h'
    · cases q
/-- with another length, or with a broken part -/
theorem bad_len {sort w : Str} {ss args args' : List D} (hs : sort ∈ tf) (N : Nd wr sort w ss args) (h : args'.length ≠ args.length) : Bad (.tup (.str w :: args')) := bad_row fun s hs' ss' e => by
  obtain ⟨rfl, rfl⟩ := row_one hs hs' N.row e
  exact .inl fun q => h (by rw [← q, N.len])
theorem bad_part {sort w : Str} {ss args : List D} {i : Nat} {z : Str} {u : D} (hs : sort ∈ tf) (N : Nd wr sort w ss args) (hi : ss[i]? = some (.str z)) (hz : z ∈ tf) (hu : Bad u) : Bad (.tup (.str w :: args.set i u)) := bad_row fun s hs' ss' e => by
  obtain ⟨rfl, rfl⟩ := row_one hs hs' N.row e
  refine .inr ⟨i, z, u, hi, ?_, hu z hz⟩
  rw [List.getElem?_set_self]
  rw [← N.len]
  exact (List.getElem?_eq_some_iff.mp hi).1
theorem bad_word {w : Str} {args : List D} (h : ∀ s ∈ tf, rowOf s w = none) : Bad (.tup (.str w :: args)) := bad_row fun s hs ss e => by
  rw [h s hs] at e
  cases e
def badNames : List D := [.str "", .str "X", .str "x1", .str "abcdefghi", .str "a b", .int 3, .tup [.str "x"]]
def badKinds : List D := [.tup [.str "ones"], .tup [.str "told", .tup [.int 1]], .tup [.str "told", .lst [.int 1], .tup []], .tup [.str "both", .tup [.str "one"]], .tup [.str "sets", .tup [.str "star"]], .lst [.str "one"], .tup [.str "told", .tup [.str "x"], .tup []]]
def badThings : List D := [.tup [], .int 3, .str "x", .tup [.str "x"], .tup [.int 3, .str "x"], .non, .tup [.str "NAME", .str "x"]]
theorem badNames_ok : (badNames.all fun d => sm d && decide (dep d ≤ 3) && !wr d "name") = true := by decide +kernel
theorem badKinds_ok : (badKinds.all fun d => sm d && decide (dep d ≤ 3) && !wr d "kind") = true := by decide +kernel
theorem badThings_ok : (badThings.all fun d => sm d && decide (dep d ≤ 3) && tf.all fun s => !wr d s) = true := by decide +kernel
structure BrOk (n : Nat) (u : D) : Prop where
  s : sm u = true
  d : dep u ≤ n + 4
  b : Bad u
theorem fwords_ok : (((shL true).map (·.1)).all fun z => PyData.strOk z) = true := by decide +kernel
end K20
end

section
set_option Elab.async false
set_option linter.all false
set_option maxRecDepth 100000
set_option maxHeartbeats 4000000
/-! k20: _law_broken, the walk. -/
namespace K20
open PySem hiding exec execs
open L2 Pl
theorem sms_of {xs : List D} (h : ∀ x ∈ xs, sm x = true) : sms xs = true := by
  induction xs with
  | nil => rfl
  | cons x xs ih =>
    rw [sms, h x List.mem_cons_self, ih fun y hy => h y (List.mem_cons_of_mem _ hy)]
    rfl
theorem deps_of {n : Nat} {xs : List D} (h : ∀ x ∈ xs, dep x ≤ n) : deps xs ≤ n := by
  induction xs with
  | nil => exact Nat.zero_le _
  | cons x xs ih =>
    rw [deps]
    exact Nat.max_le.mpr ⟨h x List.mem_cons_self, ih fun y hy => h y (List.mem_cons_of_mem _ hy)⟩
theorem br_mk {n : Nat} {W : Str} {xs : List D} (hW : sm (.str W) = true) (hs : ∀ x ∈ xs, sm x = true) (hl : xs.length ≤ 50) (hd : ∀ x ∈ xs, dep x ≤ n + 3) (hb : Bad (.tup (.str W :: xs))) : BrOk n (.tup (.str W :: xs)) := by
  refine ⟨?_, ?_, hb⟩
  · rw [sm, sms, hW, sms_of hs]
    exact Bool.and_eq_true_iff.mpr ⟨decide_eq_true (by rw [List.length_cons]; omega), rfl⟩
  · rw [dep, deps]
    have := deps_of hd
    have e : dep (.str W) = 0 := rfl
    omega
theorem bad_at {s0 W : Str} {ss args : List D} (h0 : s0 ∈ tf) (hr : rowOf s0 W = some ss) (i : Nat) (z : Str) (a : D) (h1 : ss[i]? = some (.str z)) (h2 : args[i]? = some a) (h3 : wr a z = false) : Bad (.tup (.str W :: args)) := bad_row fun s hs ss' e => by
  obtain ⟨rfl, rfl⟩ := row_one h0 hs hr e
  exact .inr ⟨i, z, a, h1, h2, h3⟩
theorem bn {d : D} (h : d ∈ badNames) : sm d = true ∧ dep d ≤ 3 ∧ wr d "name" = false := by
  have q := List.all_eq_true.mp badNames_ok d h
  simp only [Bool.and_eq_true, decide_eq_true_eq, Bool.not_eq_true'] at q
  exact ⟨q.1.1, q.1.2, q.2⟩
theorem bk {d : D} (h : d ∈ badKinds) : sm d = true ∧ dep d ≤ 3 ∧ wr d "kind" = false := by
  have q := List.all_eq_true.mp badKinds_ok d h
  simp only [Bool.and_eq_true, decide_eq_true_eq, Bool.not_eq_true'] at q
  exact ⟨q.1.1, q.1.2, q.2⟩
theorem bt {n : Nat} {d : D} (h : d ∈ badThings) : BrOk n d := by
  have q := List.all_eq_true.mp badThings_ok d h
  simp only [Bool.and_eq_true, decide_eq_true_eq, List.all_eq_true, Bool.not_eq_true'] at q
  exact ⟨q.1.1, by omega, q.2⟩
theorem atI_in (L : List D) {r : Int} (h0 : 0 ≤ r) (h1 : r < (L.length : Int)) : ∃ v, atI L r = some v ∧ v ∈ L := by
  obtain ⟨n, rfl⟩ : ∃ n : Nat, r = (n : Int) := ⟨r.toNat, by omega⟩
  rw [Pl.atI_nat]
  exact ⟨L[n], List.getElem?_eq_getElem (by omega), List.getElem_mem _⟩
section
variable {n : Nat} {v : D} (sv : sm v = true) (dv : dep v ≤ n)
include sv dv
theorem br_all {d : D} (h : d ∈ badNames) : BrOk n (.tup [.str "all", d, .tup [.str "one"], v]) := by
  obtain ⟨h1, h2, h3⟩ := bn h
  refine br_mk (by decide +kernel) ?_ (by simp) ?_ (bad_at (s0 := "formula") (ss := [.str "name", .str "kind", .str "formula"]) (by decide +kernel) (by decide +kernel) 0 "name" d rfl rfl h3)
  · simp only [List.mem_cons, List.not_mem_nil, or_false]; rintro x (rfl | rfl | rfl) <;> first | assumption | decide +kernel
  · simp only [List.mem_cons, List.not_mem_nil, or_false]; rintro x (rfl | rfl | rfl) <;> first | omega | (show 1 ≤ _; omega)
theorem br_the {d : D} (h : d ∈ badNames) : BrOk n (.tup [.str "the", d, .tup [.str "one"], .tup [.str "true"]]) := by
  obtain ⟨h1, h2, h3⟩ := bn h
  refine br_mk (by decide +kernel) ?_ (by simp) ?_ (bad_at (s0 := "term") (ss := [.str "name", .str "kind", .str "formula"]) (by decide +kernel) (by decide +kernel) 0 "name" d rfl rfl h3)
  · simp only [List.mem_cons, List.not_mem_nil, or_false]; rintro x (rfl | rfl | rfl) <;> first | assumption | decide +kernel
  · simp only [List.mem_cons, List.not_mem_nil, or_false]; rintro x (rfl | rfl | rfl) <;> first | omega | (show 1 ≤ _; omega)
theorem br_name {d : D} (h : d ∈ badNames) : BrOk n (.tup [.str "name", d]) := by
  obtain ⟨h1, h2, h3⟩ := bn h
  refine br_mk (by decide +kernel) ?_ (by simp) ?_ (bad_at (s0 := "term") (ss := [.str "name"]) (by decide +kernel) (by decide +kernel) 0 "name" d rfl rfl h3)
  · simp only [List.mem_cons, List.not_mem_nil, or_false]; rintro x rfl; assumption
  · simp only [List.mem_cons, List.not_mem_nil, or_false]; rintro x rfl; omega
theorem br_pair : BrOk n (.tup [.str "pair", v, .tup [.str "true"]]) := by
  refine br_mk (by decide +kernel) ?_ (by simp) ?_ (bad_at (s0 := "term") (ss := [.str "term", .str "term"]) (by decide +kernel) (by decide +kernel) 1 "term" (.tup [.str "true"]) rfl rfl (by decide +kernel))
  · simp only [List.mem_cons, List.not_mem_nil, or_false]; rintro x (rfl | rfl) <;> first | assumption | decide +kernel
  · simp only [List.mem_cons, List.not_mem_nil, or_false]; rintro x (rfl | rfl) <;> first | omega | (show 1 ≤ _; omega)
theorem br_some {d : D} (h : d ∈ badKinds) : BrOk n (.tup [.str "some", .str "x", d, v]) := by
  obtain ⟨h1, h2, h3⟩ := bk h
  refine br_mk (by decide +kernel) ?_ (by simp) ?_ (bad_at (s0 := "formula") (ss := [.str "name", .str "kind", .str "formula"]) (by decide +kernel) (by decide +kernel) 1 "kind" d rfl rfl h3)
  · simp only [List.mem_cons, List.not_mem_nil, or_false]; rintro x (rfl | rfl | rfl) <;> first | assumption | decide +kernel
  · simp only [List.mem_cons, List.not_mem_nil, or_false]; rintro x (rfl | rfl | rfl) <;> first | omega | (show 0 ≤ _; omega)
theorem br_left {d : D} (h : d ∈ badKinds) : BrOk n (.tup [.str "left", v, d]) := by
  obtain ⟨h1, h2, h3⟩ := bk h
  refine br_mk (by decide +kernel) ?_ (by simp) ?_ (bad_at (s0 := "term") (ss := [.str "term", .str "kind"]) (by decide +kernel) (by decide +kernel) 1 "kind" d rfl rfl h3)
  · simp only [List.mem_cons, List.not_mem_nil, or_false]; rintro x (rfl | rfl) <;> assumption
  · simp only [List.mem_cons, List.not_mem_nil, or_false]; rintro x (rfl | rfl) <;> omega
end
/-! ### slices -/
theorem cut_to {α : Type} (xs : List α) (k : Nat) (h : k ≤ xs.length) : cut xs none (some (k : Int)) = xs.take k := by
  unfold cut
  rw [HT.sIx_nat, HT.sIx_none, Nat.min_eq_left h]
  simp
theorem cut_from {α : Type} (xs : List α) (k : Nat) (h : k ≤ xs.length) : cut xs (some (k : Int)) none = xs.drop k := by
  unfold cut
  rw [HT.sIx_nat, HT.sIx_none, Nat.min_eq_left h]
  rw [List.take_of_length_le]
  simp
theorem cut_last {α : Type} (xs : List α) : cut xs none (some (-1)) = xs.take (xs.length - 1) := by
  unfold cut
  rw [HT.sIx_none]
  have : HT.sIx xs.length xs.length (some (-1)) = xs.length - 1 := by
    show (if (-1 : Int) < 0 then ((-1 : Int) + (xs.length : Int)).toNat else min (-1 : Int).toNat xs.length) = _
    rw [if_pos (by decide)]
    omega
  rw [this]
  simp
theorem Pt.alen {sort w : Str} {ss args : List D} (P : Pt sort w ss args) : args.length ≤ 5 := by
  have := (row_sorts P.N.hs P.N.row).1
  rw [← P.N.len]
  exact this
/-! ### a base case -/
def fW : List Str := (shL true).map (·.1)
def bB : List LS := n_law_broken.body
theorem comp_words {elt : Pl.Env → Sto → Res EV} {tst : Pl.Env → Sto → Res Bool} {tg : LT} {ρ : Pl.Env} {src : Sto → Bool} {S : Sto} (hs : src S = true)
    (h : ∀ p ∈ shL true, ∃ ρ1, bindT tg (.tup [.str p.1, .str p.2]) ρ = some ρ1 ∧ tst ρ1 S = .ok true S ∧ elt ρ1 S = .ok (.d (.str p.1)) S) : compLoop elt tst tg ρ src (shD true) S [] = .ok (.own (fW.map D.str)) S := by
  have h0 := comp_map hs (fun d => match d with | .tup (a :: _) => a | _ => .non) (shD true) [] (by decide) (fun x hx => by
    unfold shD at hx
    obtain ⟨p, hp, rfl⟩ := List.mem_map.mp hx
    obtain ⟨ρ1, a, b, c⟩ := h p hp
    exact ⟨ρ1, _, a, b, c, rfl⟩)
  rw [h0]
  rfl
theorem br_mid (k n : Nat) {sort w : Str} {ss args : List D} {S : Sto} (hs : sort ∈ tf) (P : Pt sort w ss args) (hsm : sm (.tup (.str w :: args)) = true) (hd : dep (.tup (.str w :: args)) ≤ n) (hS : BS S) (pD : List D) :
    (∃ e u S', Pl.execs gd (R (k + 1)) ((bB.drop 3).take 7) [some (.d (.ref 0)), some (.d (.tup (.str w :: args))), some (.d (.lst pD)), none, none, none, none, none, none] S = .ret e S' ∧ e.val = some u ∧ BS S' ∧ BrOk n u) ∨
    ∃ r S', Pl.execs gd (R (k + 1)) ((bB.drop 3).take 7) [some (.d (.ref 0)), some (.d (.tup (.str w :: args))), some (.d (.lst pD)), none, none, none, none, none, none] S = .next [some (.d (.ref 0)), some (.d (.tup (.str w :: args))), some (.d (.lst pD)), some (.d (.int r)), none, none, none, none, none] S' ∧ BS S' ∧
      (r = 2 ∨ r = 5 ∨ r = 6 ∨ r = 7 ∨ r = 8) := by
  obtain ⟨r, S1, h9, hB, r0, r1⟩ := s_law_draw k (many := 9) (by decide) (by decide) hS
  obtain ⟨q, S2, h7, hB2, q0, q1⟩ := s_law_draw k (many := 7) (by decide) (by decide) hB
  obtain ⟨m1, m2⟩ := sm_tup hsm
  have al := P.alen
  have hxs : ∀ x ∈ D.str w :: args, sm x = true ∧ dep x ≤ n + 3 := fun x hx => ⟨sms_mem m2 hx, by
    have := deps_mem hx
    simp only [dep] at hd
    omega⟩
  have hw := hxs _ List.mem_cons_self
  have ha : ∀ x ∈ args, sm x = true ∧ dep x ≤ n + 3 := fun x hx => hxs x (List.mem_cons_of_mem _ hx)
  obtain ⟨t, et, mt⟩ := atI_in badThings q0 q1
  unfold badThings at et
  unfold bB n_law_broken
  simp only [List.drop_succ_cons, List.drop_zero, List.take_succ_cons, List.take_zero]
  obtain rfl | rfl | rfl | rfl | rfl | h5 : r = 0 ∨ r = 1 ∨ r = 2 ∨ r = 3 ∨ r = 4 ∨ 5 ≤ r := by omega
  · left
    simp only [Pl.runFn, List.length_cons, List.length_nil, Pl.startE_cons, Pl.startE_nil, Pl.repl_succ, List.replicate_zero, Nat.zero_add, Pl.execs, Pl.exec, Pl.evalT, Pl.evalE, Pl.evalVs, Pl.evalP, Pl.evalI, Pl.evalJ, List.getElem?_cons_zero, List.getElem?_cons_succ, Pl.Res.bind_ok, Pl.Res.bind_exc, Pl.Res.bind_stuck, Pl.Res.to_ok, Pl.Res.to_exc, Pl.Res.to_stuck, Pl.Res.calm_ok, Pl.SR.andThen_next, Pl.SR.andThen_ret, Pl.SR.andThen_brk, Pl.SR.andThen_cont, Pl.SR.andThen_exc, Pl.SR.andThen_stuck, Pl.gcE_self, Pl.gcX_self, Pl.optR_some, Pl.optR_none, Pl.EV.val_d, Pl.EV.val_own, Pl.EV.items_own, Pl.EV.items_brw, Pl.EV.items_lst, if_true, if_false, reduceIte, Bool.false_eq_true, Bool.not_true, Bool.not_false, List.set_cons_zero, List.set_cons_succ, Pl.wipeE, List.map_cons, List.map_nil, Pl.setE, Pl.bindT, Pl.bindNames, Nat.zero_lt_succ, Nat.succ_lt_succ_iff, Nat.lt_add_one, Pl.tru_bl, Pl.tru_int, Pl.its_tup, Pl.its_lst, Pl.its_own, Pl.its_brw, Pl.its_str, Pl.enum_tup, Pl.eq_int, Pl.ne_int, Pl.lt_int, Pl.le_int, Pl.gt_int, Pl.ge_int, Pl.add_int, Pl.sub_int, Pl.len_tup, Pl.len_own, Pl.len_brw, Pl.len_lst, Pl.idx_tup, Pl.idx_lst, Pl.idx_own, Pl.idx_brw, Pl.in_dic, Pl.nin_dic, Pl.idx_dic, Pl.is_non, Pl.isn_non, Pl.at_zero, Pl.at_one, sizeLine_eq, Nat.reduceAdd, Nat.reduceLeDiff, h9, decide_true, list_tup]
    refine ⟨_, .lst (.str w :: args), S1, rfl, rfl, hB, hsm, ?_, bad_not fun _ _ e => by cases e⟩
    simp only [dep] at hd ⊢
    omega
  · left
    have hl : args.length + 1 + 1 ≤ 16777216 := by omega
    simp only [Pl.runFn, List.length_cons, List.length_nil, Pl.startE_cons, Pl.startE_nil, Pl.repl_succ, List.replicate_zero, Nat.zero_add, Pl.execs, Pl.exec, Pl.evalT, Pl.evalE, Pl.evalVs, Pl.evalP, Pl.evalI, Pl.evalJ, List.getElem?_cons_zero, List.getElem?_cons_succ, Pl.Res.bind_ok, Pl.Res.bind_exc, Pl.Res.bind_stuck, Pl.Res.to_ok, Pl.Res.to_exc, Pl.Res.to_stuck, Pl.Res.calm_ok, Pl.SR.andThen_next, Pl.SR.andThen_ret, Pl.SR.andThen_brk, Pl.SR.andThen_cont, Pl.SR.andThen_exc, Pl.SR.andThen_stuck, Pl.gcE_self, Pl.gcX_self, Pl.optR_some, Pl.optR_none, Pl.EV.val_d, Pl.EV.val_own, Pl.EV.items_own, Pl.EV.items_brw, Pl.EV.items_lst, if_true, if_false, reduceIte, Bool.false_eq_true, Bool.not_true, Bool.not_false, List.set_cons_zero, List.set_cons_succ, Pl.wipeE, List.map_cons, List.map_nil, Pl.setE, Pl.bindT, Pl.bindNames, Nat.zero_lt_succ, Nat.succ_lt_succ_iff, Nat.lt_add_one, Pl.tru_bl, Pl.tru_int, Pl.its_tup, Pl.its_lst, Pl.its_own, Pl.its_brw, Pl.its_str, Pl.enum_tup, Pl.eq_int, Pl.ne_int, Pl.lt_int, Pl.le_int, Pl.gt_int, Pl.ge_int, Pl.add_int, Pl.sub_int, Pl.len_tup, Pl.len_own, Pl.len_brw, Pl.len_lst, Pl.idx_tup, Pl.idx_lst, Pl.idx_own, Pl.idx_brw, Pl.in_dic, Pl.nin_dic, Pl.idx_dic, Pl.is_non, Pl.isn_non, Pl.at_zero, Pl.at_one, sizeLine_eq, Nat.reduceAdd, Nat.reduceLeDiff, h9, decide_true, decide_false, Int.reduceEq, add_tup, hl]
    refine ⟨_, .tup (.str w :: (args ++ [.tup [.str "star"]])), S1, rfl, rfl, hB, br_mk hw.1 ?_ (by simp; omega) ?_ (bad_len hs P.N (by simp))⟩
    · intro x hx
      rcases List.mem_append.mp hx with hx | hx
      · exact (ha x hx).1
      · rw [List.mem_singleton.mp hx]; decide +kernel
    · intro x hx
      rcases List.mem_append.mp hx with hx | hx
      · exact (ha x hx).2
      · rw [List.mem_singleton.mp hx]; show 1 ≤ _; omega
  · cases args with
    | nil =>
      right
      refine ⟨2, S1, ?_, hB, .inl rfl⟩
      simp only [Pl.runFn, List.length_cons, List.length_nil, Pl.startE_cons, Pl.startE_nil, Pl.repl_succ, List.replicate_zero, Nat.zero_add, Pl.execs, Pl.exec, Pl.evalT, Pl.evalE, Pl.evalVs, Pl.evalP, Pl.evalI, Pl.evalJ, List.getElem?_cons_zero, List.getElem?_cons_succ, Pl.Res.bind_ok, Pl.Res.bind_exc, Pl.Res.bind_stuck, Pl.Res.to_ok, Pl.Res.to_exc, Pl.Res.to_stuck, Pl.Res.calm_ok, Pl.SR.andThen_next, Pl.SR.andThen_ret, Pl.SR.andThen_brk, Pl.SR.andThen_cont, Pl.SR.andThen_exc, Pl.SR.andThen_stuck, Pl.gcE_self, Pl.gcX_self, Pl.optR_some, Pl.optR_none, Pl.EV.val_d, Pl.EV.val_own, Pl.EV.items_own, Pl.EV.items_brw, Pl.EV.items_lst, if_true, if_false, reduceIte, Bool.false_eq_true, Bool.not_true, Bool.not_false, List.set_cons_zero, List.set_cons_succ, Pl.wipeE, List.map_cons, List.map_nil, Pl.setE, Pl.bindT, Pl.bindNames, Nat.zero_lt_succ, Nat.succ_lt_succ_iff, Nat.lt_add_one, Pl.tru_bl, Pl.tru_int, Pl.its_tup, Pl.its_lst, Pl.its_own, Pl.its_brw, Pl.its_str, Pl.enum_tup, Pl.eq_int, Pl.ne_int, Pl.lt_int, Pl.le_int, Pl.gt_int, Pl.ge_int, Pl.add_int, Pl.sub_int, Pl.len_tup, Pl.len_own, Pl.len_brw, Pl.len_lst, Pl.idx_tup, Pl.idx_lst, Pl.idx_own, Pl.idx_brw, Pl.in_dic, Pl.nin_dic, Pl.idx_dic, Pl.is_non, Pl.isn_non, Pl.at_zero, Pl.at_one, sizeLine_eq, Nat.reduceAdd, Nat.reduceLeDiff, h9, decide_true, decide_false, Int.reduceEq, Int.reduceLT, Int.natCast_one, show ((1 : Nat) : Int) = 1 from rfl]
    | cons a as =>
      left
      have hl : (1 : Int) < ((as.length + 1 + 1 : Nat) : Int) := by omega
      have hc : ∀ S : Sto, sliceV S (.d (.tup (.str w :: a :: as))) none (some (-1)) = some (.d (.tup (.str w :: (a :: as).take as.length))) := fun S => by
        show some (EV.d (.tup (cut (.str w :: a :: as) none (some (-1))))) = _
        rw [cut_last]
        rfl
      simp only [Pl.runFn, List.length_cons, List.length_nil, Pl.startE_cons, Pl.startE_nil, Pl.repl_succ, List.replicate_zero, Nat.zero_add, Pl.execs, Pl.exec, Pl.evalT, Pl.evalE, Pl.evalVs, Pl.evalP, Pl.evalI, Pl.evalJ, List.getElem?_cons_zero, List.getElem?_cons_succ, Pl.Res.bind_ok, Pl.Res.bind_exc, Pl.Res.bind_stuck, Pl.Res.to_ok, Pl.Res.to_exc, Pl.Res.to_stuck, Pl.Res.calm_ok, Pl.SR.andThen_next, Pl.SR.andThen_ret, Pl.SR.andThen_brk, Pl.SR.andThen_cont, Pl.SR.andThen_exc, Pl.SR.andThen_stuck, Pl.gcE_self, Pl.gcX_self, Pl.optR_some, Pl.optR_none, Pl.EV.val_d, Pl.EV.val_own, Pl.EV.items_own, Pl.EV.items_brw, Pl.EV.items_lst, if_true, if_false, reduceIte, Bool.false_eq_true, Bool.not_true, Bool.not_false, List.set_cons_zero, List.set_cons_succ, Pl.wipeE, List.map_cons, List.map_nil, Pl.setE, Pl.bindT, Pl.bindNames, Nat.zero_lt_succ, Nat.succ_lt_succ_iff, Nat.lt_add_one, Pl.tru_bl, Pl.tru_int, Pl.its_tup, Pl.its_lst, Pl.its_own, Pl.its_brw, Pl.its_str, Pl.enum_tup, Pl.eq_int, Pl.ne_int, Pl.lt_int, Pl.le_int, Pl.gt_int, Pl.ge_int, Pl.add_int, Pl.sub_int, Pl.len_tup, Pl.len_own, Pl.len_brw, Pl.len_lst, Pl.idx_tup, Pl.idx_lst, Pl.idx_own, Pl.idx_brw, Pl.in_dic, Pl.nin_dic, Pl.idx_dic, Pl.is_non, Pl.isn_non, Pl.at_zero, Pl.at_one, sizeLine_eq, Nat.reduceAdd, Nat.reduceLeDiff, h9, decide_true, decide_false, Int.reduceEq, hl, hc]
      refine ⟨_, .tup (.str w :: (a :: as).take as.length), S1, rfl, rfl, hB, br_mk hw.1 (fun x hx => (ha x (List.mem_of_mem_take hx)).1) ?_ (fun x hx => (ha x (List.mem_of_mem_take hx)).2) (bad_len hs P.N ?_)⟩
      · rw [List.length_take, List.length_cons]; rw [List.length_cons] at al; omega
      · rw [List.length_take, List.length_cons]; omega
  · left
    have hl : 1 + args.length ≤ 16777216 := by omega
    have hc : ∀ S : Sto, sliceV S (.d (.tup (.str w :: args))) (some 1) none = some (.d (.tup args)) := fun S => by
      show some (EV.d (.tup (cut (.str w :: args) (some ((1 : Nat) : Int)) none))) = _
      rw [cut_from _ _ (by rw [List.length_cons]; omega)]
      rfl
    simp only [Pl.runFn, List.length_cons, List.length_nil, Pl.startE_cons, Pl.startE_nil, Pl.repl_succ, List.replicate_zero, Nat.zero_add, Pl.execs, Pl.exec, Pl.evalT, Pl.evalE, Pl.evalVs, Pl.evalP, Pl.evalI, Pl.evalJ, List.getElem?_cons_zero, List.getElem?_cons_succ, Pl.Res.bind_ok, Pl.Res.bind_exc, Pl.Res.bind_stuck, Pl.Res.to_ok, Pl.Res.to_exc, Pl.Res.to_stuck, Pl.Res.calm_ok, Pl.SR.andThen_next, Pl.SR.andThen_ret, Pl.SR.andThen_brk, Pl.SR.andThen_cont, Pl.SR.andThen_exc, Pl.SR.andThen_stuck, Pl.gcE_self, Pl.gcX_self, Pl.optR_some, Pl.optR_none, Pl.EV.val_d, Pl.EV.val_own, Pl.EV.items_own, Pl.EV.items_brw, Pl.EV.items_lst, if_true, if_false, reduceIte, Bool.false_eq_true, Bool.not_true, Bool.not_false, List.set_cons_zero, List.set_cons_succ, Pl.wipeE, List.map_cons, List.map_nil, Pl.setE, Pl.bindT, Pl.bindNames, Nat.zero_lt_succ, Nat.succ_lt_succ_iff, Nat.lt_add_one, Pl.tru_bl, Pl.tru_int, Pl.its_tup, Pl.its_lst, Pl.its_own, Pl.its_brw, Pl.its_str, Pl.enum_tup, Pl.eq_int, Pl.ne_int, Pl.lt_int, Pl.le_int, Pl.gt_int, Pl.ge_int, Pl.add_int, Pl.sub_int, Pl.len_tup, Pl.len_own, Pl.len_brw, Pl.len_lst, Pl.idx_tup, Pl.idx_lst, Pl.idx_own, Pl.idx_brw, Pl.in_dic, Pl.nin_dic, Pl.idx_dic, Pl.is_non, Pl.isn_non, Pl.at_zero, Pl.at_one, sizeLine_eq, Nat.reduceAdd, Nat.reduceLeDiff, h9, decide_true, decide_false, Int.reduceEq, hc, add_tup, hl, List.cons_append, List.nil_append]
    exact ⟨_, .tup (.str (Str.ofString "names") :: args), S1, rfl, rfl, hB, br_mk (by decide +kernel) (fun x hx => (ha x hx).1) (by omega) (fun x hx => (ha x hx).2) (bad_word (by decide +kernel))⟩
  · left
    simp only [Pl.runFn, List.length_cons, List.length_nil, Pl.startE_cons, Pl.startE_nil, Pl.repl_succ, List.replicate_zero, Nat.zero_add, Pl.execs, Pl.exec, Pl.evalT, Pl.evalE, Pl.evalVs, Pl.evalP, Pl.evalI, Pl.evalJ, List.getElem?_cons_zero, List.getElem?_cons_succ, Pl.Res.bind_ok, Pl.Res.bind_exc, Pl.Res.bind_stuck, Pl.Res.to_ok, Pl.Res.to_exc, Pl.Res.to_stuck, Pl.Res.calm_ok, Pl.SR.andThen_next, Pl.SR.andThen_ret, Pl.SR.andThen_brk, Pl.SR.andThen_cont, Pl.SR.andThen_exc, Pl.SR.andThen_stuck, Pl.gcE_self, Pl.gcX_self, Pl.optR_some, Pl.optR_none, Pl.EV.val_d, Pl.EV.val_own, Pl.EV.items_own, Pl.EV.items_brw, Pl.EV.items_lst, if_true, if_false, reduceIte, Bool.false_eq_true, Bool.not_true, Bool.not_false, List.set_cons_zero, List.set_cons_succ, Pl.wipeE, List.map_cons, List.map_nil, Pl.setE, Pl.bindT, Pl.bindNames, Nat.zero_lt_succ, Nat.succ_lt_succ_iff, Nat.lt_add_one, Pl.tru_bl, Pl.tru_int, Pl.its_tup, Pl.its_lst, Pl.its_own, Pl.its_brw, Pl.its_str, Pl.enum_tup, Pl.eq_int, Pl.ne_int, Pl.lt_int, Pl.le_int, Pl.gt_int, Pl.ge_int, Pl.add_int, Pl.sub_int, Pl.len_tup, Pl.len_own, Pl.len_brw, Pl.len_lst, Pl.idx_tup, Pl.idx_lst, Pl.idx_own, Pl.idx_brw, Pl.in_dic, Pl.nin_dic, Pl.idx_dic, Pl.is_non, Pl.isn_non, Pl.at_zero, Pl.at_one, sizeLine_eq, Nat.reduceAdd, Nat.reduceLeDiff, h9, decide_true, decide_false, Int.reduceEq, h7, et]
    exact ⟨_, t, S2, rfl, rfl, hB2, bt mt⟩
  · right
    have n0 : ¬ r = 0 := by omega
    have n1 : ¬ r = 1 := by omega
    have n2 : ¬ r = 2 := by omega
    have n3 : ¬ r = 3 := by omega
    have n4 : ¬ r = 4 := by omega
    refine ⟨r, S1, ?_, hB, by omega⟩
    simp only [Pl.runFn, List.length_cons, List.length_nil, Pl.startE_cons, Pl.startE_nil, Pl.repl_succ, List.replicate_zero, Nat.zero_add, Pl.execs, Pl.exec, Pl.evalT, Pl.evalE, Pl.evalVs, Pl.evalP, Pl.evalI, Pl.evalJ, List.getElem?_cons_zero, List.getElem?_cons_succ, Pl.Res.bind_ok, Pl.Res.bind_exc, Pl.Res.bind_stuck, Pl.Res.to_ok, Pl.Res.to_exc, Pl.Res.to_stuck, Pl.Res.calm_ok, Pl.SR.andThen_next, Pl.SR.andThen_ret, Pl.SR.andThen_brk, Pl.SR.andThen_cont, Pl.SR.andThen_exc, Pl.SR.andThen_stuck, Pl.gcE_self, Pl.gcX_self, Pl.optR_some, Pl.optR_none, Pl.EV.val_d, Pl.EV.val_own, Pl.EV.items_own, Pl.EV.items_brw, Pl.EV.items_lst, if_true, if_false, reduceIte, Bool.false_eq_true, Bool.not_true, Bool.not_false, List.set_cons_zero, List.set_cons_succ, Pl.wipeE, List.map_cons, List.map_nil, Pl.setE, Pl.bindT, Pl.bindNames, Nat.zero_lt_succ, Nat.succ_lt_succ_iff, Nat.lt_add_one, Pl.tru_bl, Pl.tru_int, Pl.its_tup, Pl.its_lst, Pl.its_own, Pl.its_brw, Pl.its_str, Pl.enum_tup, Pl.eq_int, Pl.ne_int, Pl.lt_int, Pl.le_int, Pl.gt_int, Pl.ge_int, Pl.add_int, Pl.sub_int, Pl.len_tup, Pl.len_own, Pl.len_brw, Pl.len_lst, Pl.idx_tup, Pl.idx_lst, Pl.idx_own, Pl.idx_brw, Pl.in_dic, Pl.nin_dic, Pl.idx_dic, Pl.is_non, Pl.isn_non, Pl.at_zero, Pl.at_one, sizeLine_eq, Nat.reduceAdd, Nat.reduceLeDiff, h9, decide_false, n0, n1, n2, n3, n4]
theorem br_tail (k n : Nat) {sort w : Str} {ss args : List D} {S : Sto} {r : Int} (P : Pt sort w ss args) (hsm : sm (.tup (.str w :: args)) = true) (hd : dep (.tup (.str w :: args)) ≤ n) (hS : BS S) (pD : List D) (hr : r = 2 ∨ r = 5 ∨ r = 6 ∨ r = 7 ∨ r = 8) :
    ∃ u S', Pl.execs gd (R (k + 1)) (bB.drop 10) [some (.d (.ref 0)), some (.d (.tup (.str w :: args))), some (.d (.lst pD)), some (.d (.int r)), none, none, none, none, none] S = .ret (.d u) S' ∧ BS S' ∧ BrOk n u := by
  obtain ⟨q, S1, h7, hB, q0, q1⟩ := s_law_draw k (many := 7) (by decide) (by decide) hS
  obtain ⟨q', S2, h2, hB2, q0', q1'⟩ := s_law_draw k (many := 2) (by decide) (by decide) hB
  obtain ⟨g, S3, h7b, hB3, g0, g1⟩ := s_law_draw k (many := 7) (by decide) (by decide) hB
  have hin : ∀ S : Sto, cmpV .In S (.d (.str w)) (.own (fW.map D.str)) = some (decide (w ∈ fW)) := fun S => in_own P.okw (fun z hz => List.all_eq_true.mp fwords_ok z hz)
  obtain ⟨b, eb, mb⟩ := atI_in badNames q0 q1
  obtain ⟨c, ec, mc⟩ := atI_in badKinds g0 g1
  unfold badNames at eb
  unfold badKinds at ec
  have i0 : ∀ x y z : D, atI [x, y, z] 0 = some x := fun _ _ _ => rfl
  have i1 : ∀ x y z : D, atI [x, y, z] 1 = some y := fun _ _ _ => rfl
  have i2 : ∀ x y z : D, atI [x, y, z] 2 = some z := fun _ _ _ => rfl
  have i3 : ∀ x y z : D, atI [x, y, z] (-3) = some x := fun _ _ _ => rfl
  have i4 : ∀ x y z : D, atI [x, y, z] (-2) = some y := fun _ _ _ => rfl
  unfold bB n_law_broken
  simp only [List.drop_succ_cons, List.drop_zero]
  by_cases hf : w ∈ fW
  · by_cases h : r < 7
    · refine ⟨.tup [.str "all", b, .tup [.str "one"], .tup (.str w :: args)], S1, ?_, hB, br_all hsm hd mb⟩
      simp only [Pl.runFn, List.length_cons, List.length_nil, Pl.startE_cons, Pl.startE_nil, Pl.repl_succ, List.replicate_zero, Nat.zero_add, Pl.execs, Pl.exec, Pl.evalT, Pl.evalE, Pl.evalVs, Pl.evalP, Pl.evalI, Pl.evalJ, List.getElem?_cons_zero, List.getElem?_cons_succ, Pl.Res.bind_ok, Pl.Res.bind_exc, Pl.Res.bind_stuck, Pl.Res.to_ok, Pl.Res.to_exc, Pl.Res.to_stuck, Pl.Res.calm_ok, Pl.SR.andThen_next, Pl.SR.andThen_ret, Pl.SR.andThen_brk, Pl.SR.andThen_cont, Pl.SR.andThen_exc, Pl.SR.andThen_stuck, Pl.gcE_self, Pl.gcX_self, Pl.optR_some, Pl.optR_none, Pl.EV.val_d, Pl.EV.val_own, Pl.EV.items_own, Pl.EV.items_brw, Pl.EV.items_lst, if_true, if_false, reduceIte, Bool.false_eq_true, Bool.not_true, Bool.not_false, List.set_cons_zero, List.set_cons_succ, Pl.wipeE, List.map_cons, List.map_nil, Pl.setE, Pl.bindT, Pl.bindNames, Nat.zero_lt_succ, Nat.succ_lt_succ_iff, Nat.lt_add_one, Pl.tru_bl, Pl.tru_int, Pl.its_tup, Pl.its_lst, Pl.its_own, Pl.its_brw, Pl.its_str, Pl.enum_tup, Pl.eq_int, Pl.ne_int, Pl.lt_int, Pl.le_int, Pl.gt_int, Pl.ge_int, Pl.add_int, Pl.sub_int, Pl.len_tup, Pl.len_own, Pl.len_brw, Pl.len_lst, Pl.idx_tup, Pl.idx_lst, Pl.idx_own, Pl.idx_brw, Pl.in_dic, Pl.nin_dic, Pl.idx_dic, Pl.is_non, Pl.isn_non, Pl.at_zero, Pl.at_one, sizeLine_eq, Nat.reduceAdd, Nat.reduceLeDiff, h7, eb, h, decide_true, s_law_shapes]
      rw [comp_words rfl fun p hp => ⟨_, rfl, rfl, by simp only [Pl.runFn, List.length_cons, List.length_nil, Pl.startE_cons, Pl.startE_nil, Pl.repl_succ, List.replicate_zero, Nat.zero_add, Pl.execs, Pl.exec, Pl.evalT, Pl.evalE, Pl.evalVs, Pl.evalP, Pl.evalI, Pl.evalJ, List.getElem?_cons_zero, List.getElem?_cons_succ, Pl.Res.bind_ok, Pl.Res.bind_exc, Pl.Res.bind_stuck, Pl.Res.to_ok, Pl.Res.to_exc, Pl.Res.to_stuck, Pl.Res.calm_ok, Pl.SR.andThen_next, Pl.SR.andThen_ret, Pl.SR.andThen_brk, Pl.SR.andThen_cont, Pl.SR.andThen_exc, Pl.SR.andThen_stuck, Pl.gcE_self, Pl.gcX_self, Pl.optR_some, Pl.optR_none, Pl.EV.val_d, Pl.EV.val_own, Pl.EV.items_own, Pl.EV.items_brw, Pl.EV.items_lst, if_true, if_false, reduceIte, Bool.false_eq_true, Bool.not_true, Bool.not_false, List.set_cons_zero, List.set_cons_succ, Pl.wipeE, List.map_cons, List.map_nil, Pl.setE, Pl.bindT, Pl.bindNames, Nat.zero_lt_succ, Nat.succ_lt_succ_iff, Nat.lt_add_one, Pl.tru_bl, Pl.tru_int, Pl.its_tup, Pl.its_lst, Pl.its_own, Pl.its_brw, Pl.its_str, Pl.enum_tup, Pl.eq_int, Pl.ne_int, Pl.lt_int, Pl.le_int, Pl.gt_int, Pl.ge_int, Pl.add_int, Pl.sub_int, Pl.len_tup, Pl.len_own, Pl.len_brw, Pl.len_lst, Pl.idx_tup, Pl.idx_lst, Pl.idx_own, Pl.idx_brw, Pl.in_dic, Pl.nin_dic, Pl.idx_dic, Pl.is_non, Pl.isn_non, Pl.at_zero, Pl.at_one, sizeLine_eq, Nat.reduceAdd, Nat.reduceLeDiff]⟩]
      simp only [Pl.runFn, List.length_cons, List.length_nil, Pl.startE_cons, Pl.startE_nil, Pl.repl_succ, List.replicate_zero, Nat.zero_add, Pl.execs, Pl.exec, Pl.evalT, Pl.evalE, Pl.evalVs, Pl.evalP, Pl.evalI, Pl.evalJ, List.getElem?_cons_zero, List.getElem?_cons_succ, Pl.Res.bind_ok, Pl.Res.bind_exc, Pl.Res.bind_stuck, Pl.Res.to_ok, Pl.Res.to_exc, Pl.Res.to_stuck, Pl.Res.calm_ok, Pl.SR.andThen_next, Pl.SR.andThen_ret, Pl.SR.andThen_brk, Pl.SR.andThen_cont, Pl.SR.andThen_exc, Pl.SR.andThen_stuck, Pl.gcE_self, Pl.gcX_self, Pl.optR_some, Pl.optR_none, Pl.EV.val_d, Pl.EV.val_own, Pl.EV.items_own, Pl.EV.items_brw, Pl.EV.items_lst, if_true, if_false, reduceIte, Bool.false_eq_true, Bool.not_true, Bool.not_false, List.set_cons_zero, List.set_cons_succ, Pl.wipeE, List.map_cons, List.map_nil, Pl.setE, Pl.bindT, Pl.bindNames, Nat.zero_lt_succ, Nat.succ_lt_succ_iff, Nat.lt_add_one, Pl.tru_bl, Pl.tru_int, Pl.its_tup, Pl.its_lst, Pl.its_own, Pl.its_brw, Pl.its_str, Pl.enum_tup, Pl.eq_int, Pl.ne_int, Pl.lt_int, Pl.le_int, Pl.gt_int, Pl.ge_int, Pl.add_int, Pl.sub_int, Pl.len_tup, Pl.len_own, Pl.len_brw, Pl.len_lst, Pl.idx_tup, Pl.idx_lst, Pl.idx_own, Pl.idx_brw, Pl.in_dic, Pl.nin_dic, Pl.idx_dic, Pl.is_non, Pl.isn_non, Pl.at_zero, Pl.at_one, sizeLine_eq, Nat.reduceAdd, Nat.reduceLeDiff, hin, hf, decide_true]
    · refine ⟨.tup [.str "some", .str "x", c, .tup (.str w :: args)], S3, ?_, hB3, br_some hsm hd mc⟩
      simp only [Pl.runFn, List.length_cons, List.length_nil, Pl.startE_cons, Pl.startE_nil, Pl.repl_succ, List.replicate_zero, Nat.zero_add, Pl.execs, Pl.exec, Pl.evalT, Pl.evalE, Pl.evalVs, Pl.evalP, Pl.evalI, Pl.evalJ, List.getElem?_cons_zero, List.getElem?_cons_succ, Pl.Res.bind_ok, Pl.Res.bind_exc, Pl.Res.bind_stuck, Pl.Res.to_ok, Pl.Res.to_exc, Pl.Res.to_stuck, Pl.Res.calm_ok, Pl.SR.andThen_next, Pl.SR.andThen_ret, Pl.SR.andThen_brk, Pl.SR.andThen_cont, Pl.SR.andThen_exc, Pl.SR.andThen_stuck, Pl.gcE_self, Pl.gcX_self, Pl.optR_some, Pl.optR_none, Pl.EV.val_d, Pl.EV.val_own, Pl.EV.items_own, Pl.EV.items_brw, Pl.EV.items_lst, if_true, if_false, reduceIte, Bool.false_eq_true, Bool.not_true, Bool.not_false, List.set_cons_zero, List.set_cons_succ, Pl.wipeE, List.map_cons, List.map_nil, Pl.setE, Pl.bindT, Pl.bindNames, Nat.zero_lt_succ, Nat.succ_lt_succ_iff, Nat.lt_add_one, Pl.tru_bl, Pl.tru_int, Pl.its_tup, Pl.its_lst, Pl.its_own, Pl.its_brw, Pl.its_str, Pl.enum_tup, Pl.eq_int, Pl.ne_int, Pl.lt_int, Pl.le_int, Pl.gt_int, Pl.ge_int, Pl.add_int, Pl.sub_int, Pl.len_tup, Pl.len_own, Pl.len_brw, Pl.len_lst, Pl.idx_tup, Pl.idx_lst, Pl.idx_own, Pl.idx_brw, Pl.in_dic, Pl.nin_dic, Pl.idx_dic, Pl.is_non, Pl.isn_non, Pl.at_zero, Pl.at_one, sizeLine_eq, Nat.reduceAdd, Nat.reduceLeDiff, h7, eb, h, decide_false, h7b, ec, s_law_shapes]
      rw [comp_words rfl fun p hp => ⟨_, rfl, rfl, by simp only [Pl.runFn, List.length_cons, List.length_nil, Pl.startE_cons, Pl.startE_nil, Pl.repl_succ, List.replicate_zero, Nat.zero_add, Pl.execs, Pl.exec, Pl.evalT, Pl.evalE, Pl.evalVs, Pl.evalP, Pl.evalI, Pl.evalJ, List.getElem?_cons_zero, List.getElem?_cons_succ, Pl.Res.bind_ok, Pl.Res.bind_exc, Pl.Res.bind_stuck, Pl.Res.to_ok, Pl.Res.to_exc, Pl.Res.to_stuck, Pl.Res.calm_ok, Pl.SR.andThen_next, Pl.SR.andThen_ret, Pl.SR.andThen_brk, Pl.SR.andThen_cont, Pl.SR.andThen_exc, Pl.SR.andThen_stuck, Pl.gcE_self, Pl.gcX_self, Pl.optR_some, Pl.optR_none, Pl.EV.val_d, Pl.EV.val_own, Pl.EV.items_own, Pl.EV.items_brw, Pl.EV.items_lst, if_true, if_false, reduceIte, Bool.false_eq_true, Bool.not_true, Bool.not_false, List.set_cons_zero, List.set_cons_succ, Pl.wipeE, List.map_cons, List.map_nil, Pl.setE, Pl.bindT, Pl.bindNames, Nat.zero_lt_succ, Nat.succ_lt_succ_iff, Nat.lt_add_one, Pl.tru_bl, Pl.tru_int, Pl.its_tup, Pl.its_lst, Pl.its_own, Pl.its_brw, Pl.its_str, Pl.enum_tup, Pl.eq_int, Pl.ne_int, Pl.lt_int, Pl.le_int, Pl.gt_int, Pl.ge_int, Pl.add_int, Pl.sub_int, Pl.len_tup, Pl.len_own, Pl.len_brw, Pl.len_lst, Pl.idx_tup, Pl.idx_lst, Pl.idx_own, Pl.idx_brw, Pl.in_dic, Pl.nin_dic, Pl.idx_dic, Pl.is_non, Pl.isn_non, Pl.at_zero, Pl.at_one, sizeLine_eq, Nat.reduceAdd, Nat.reduceLeDiff]⟩]
      simp only [Pl.runFn, List.length_cons, List.length_nil, Pl.startE_cons, Pl.startE_nil, Pl.repl_succ, List.replicate_zero, Nat.zero_add, Pl.execs, Pl.exec, Pl.evalT, Pl.evalE, Pl.evalVs, Pl.evalP, Pl.evalI, Pl.evalJ, List.getElem?_cons_zero, List.getElem?_cons_succ, Pl.Res.bind_ok, Pl.Res.bind_exc, Pl.Res.bind_stuck, Pl.Res.to_ok, Pl.Res.to_exc, Pl.Res.to_stuck, Pl.Res.calm_ok, Pl.SR.andThen_next, Pl.SR.andThen_ret, Pl.SR.andThen_brk, Pl.SR.andThen_cont, Pl.SR.andThen_exc, Pl.SR.andThen_stuck, Pl.gcE_self, Pl.gcX_self, Pl.optR_some, Pl.optR_none, Pl.EV.val_d, Pl.EV.val_own, Pl.EV.items_own, Pl.EV.items_brw, Pl.EV.items_lst, if_true, if_false, reduceIte, Bool.false_eq_true, Bool.not_true, Bool.not_false, List.set_cons_zero, List.set_cons_succ, Pl.wipeE, List.map_cons, List.map_nil, Pl.setE, Pl.bindT, Pl.bindNames, Nat.zero_lt_succ, Nat.succ_lt_succ_iff, Nat.lt_add_one, Pl.tru_bl, Pl.tru_int, Pl.its_tup, Pl.its_lst, Pl.its_own, Pl.its_brw, Pl.its_str, Pl.enum_tup, Pl.eq_int, Pl.ne_int, Pl.lt_int, Pl.le_int, Pl.gt_int, Pl.ge_int, Pl.add_int, Pl.sub_int, Pl.len_tup, Pl.len_own, Pl.len_brw, Pl.len_lst, Pl.idx_tup, Pl.idx_lst, Pl.idx_own, Pl.idx_brw, Pl.in_dic, Pl.nin_dic, Pl.idx_dic, Pl.is_non, Pl.isn_non, Pl.at_zero, Pl.at_one, sizeLine_eq, Nat.reduceAdd, Nat.reduceLeDiff, hin, hf, decide_true]
  · by_cases h : r < 7
    · have hu : ∃ u, atI [D.tup [.str "the", b, .tup [.str "one"], .tup [.str "true"]], .tup [.str "name", b], .tup [.str "pair", .tup (.str w :: args), .tup [.str "true"]]] (r - 5 + q') = some u ∧ BrOk n u := by
        have hq : q' = 0 ∨ q' = 1 := by omega
        rcases hr with rfl | rfl | rfl | rfl | rfl
        · rcases hq with rfl | rfl
          · exact ⟨_, i3 _ _ _, br_the hsm hd mb⟩
          · exact ⟨_, i4 _ _ _, br_name hsm hd mb⟩
        · rcases hq with rfl | rfl
          · exact ⟨_, i0 _ _ _, br_the hsm hd mb⟩
          · exact ⟨_, i1 _ _ _, br_name hsm hd mb⟩
        · rcases hq with rfl | rfl
          · exact ⟨_, i1 _ _ _, br_name hsm hd mb⟩
          · exact ⟨_, i2 _ _ _, br_pair hsm hd⟩
        · omega
        · omega
      obtain ⟨u, eu, hu⟩ := hu
      refine ⟨u, S2, ?_, hB2, hu⟩
      simp only [Pl.runFn, List.length_cons, List.length_nil, Pl.startE_cons, Pl.startE_nil, Pl.repl_succ, List.replicate_zero, Nat.zero_add, Pl.execs, Pl.exec, Pl.evalT, Pl.evalE, Pl.evalVs, Pl.evalP, Pl.evalI, Pl.evalJ, List.getElem?_cons_zero, List.getElem?_cons_succ, Pl.Res.bind_ok, Pl.Res.bind_exc, Pl.Res.bind_stuck, Pl.Res.to_ok, Pl.Res.to_exc, Pl.Res.to_stuck, Pl.Res.calm_ok, Pl.SR.andThen_next, Pl.SR.andThen_ret, Pl.SR.andThen_brk, Pl.SR.andThen_cont, Pl.SR.andThen_exc, Pl.SR.andThen_stuck, Pl.gcE_self, Pl.gcX_self, Pl.optR_some, Pl.optR_none, Pl.EV.val_d, Pl.EV.val_own, Pl.EV.items_own, Pl.EV.items_brw, Pl.EV.items_lst, if_true, if_false, reduceIte, Bool.false_eq_true, Bool.not_true, Bool.not_false, List.set_cons_zero, List.set_cons_succ, Pl.wipeE, List.map_cons, List.map_nil, Pl.setE, Pl.bindT, Pl.bindNames, Nat.zero_lt_succ, Nat.succ_lt_succ_iff, Nat.lt_add_one, Pl.tru_bl, Pl.tru_int, Pl.its_tup, Pl.its_lst, Pl.its_own, Pl.its_brw, Pl.its_str, Pl.enum_tup, Pl.eq_int, Pl.ne_int, Pl.lt_int, Pl.le_int, Pl.gt_int, Pl.ge_int, Pl.add_int, Pl.sub_int, Pl.len_tup, Pl.len_own, Pl.len_brw, Pl.len_lst, Pl.idx_tup, Pl.idx_lst, Pl.idx_own, Pl.idx_brw, Pl.in_dic, Pl.nin_dic, Pl.idx_dic, Pl.is_non, Pl.isn_non, Pl.at_zero, Pl.at_one, sizeLine_eq, Nat.reduceAdd, Nat.reduceLeDiff, h7, eb, h, decide_true, s_law_shapes]
      rw [comp_words rfl fun p hp => ⟨_, rfl, rfl, by simp only [Pl.runFn, List.length_cons, List.length_nil, Pl.startE_cons, Pl.startE_nil, Pl.repl_succ, List.replicate_zero, Nat.zero_add, Pl.execs, Pl.exec, Pl.evalT, Pl.evalE, Pl.evalVs, Pl.evalP, Pl.evalI, Pl.evalJ, List.getElem?_cons_zero, List.getElem?_cons_succ, Pl.Res.bind_ok, Pl.Res.bind_exc, Pl.Res.bind_stuck, Pl.Res.to_ok, Pl.Res.to_exc, Pl.Res.to_stuck, Pl.Res.calm_ok, Pl.SR.andThen_next, Pl.SR.andThen_ret, Pl.SR.andThen_brk, Pl.SR.andThen_cont, Pl.SR.andThen_exc, Pl.SR.andThen_stuck, Pl.gcE_self, Pl.gcX_self, Pl.optR_some, Pl.optR_none, Pl.EV.val_d, Pl.EV.val_own, Pl.EV.items_own, Pl.EV.items_brw, Pl.EV.items_lst, if_true, if_false, reduceIte, Bool.false_eq_true, Bool.not_true, Bool.not_false, List.set_cons_zero, List.set_cons_succ, Pl.wipeE, List.map_cons, List.map_nil, Pl.setE, Pl.bindT, Pl.bindNames, Nat.zero_lt_succ, Nat.succ_lt_succ_iff, Nat.lt_add_one, Pl.tru_bl, Pl.tru_int, Pl.its_tup, Pl.its_lst, Pl.its_own, Pl.its_brw, Pl.its_str, Pl.enum_tup, Pl.eq_int, Pl.ne_int, Pl.lt_int, Pl.le_int, Pl.gt_int, Pl.ge_int, Pl.add_int, Pl.sub_int, Pl.len_tup, Pl.len_own, Pl.len_brw, Pl.len_lst, Pl.idx_tup, Pl.idx_lst, Pl.idx_own, Pl.idx_brw, Pl.in_dic, Pl.nin_dic, Pl.idx_dic, Pl.is_non, Pl.isn_non, Pl.at_zero, Pl.at_one, sizeLine_eq, Nat.reduceAdd, Nat.reduceLeDiff]⟩]
      simp only [Pl.runFn, List.length_cons, List.length_nil, Pl.startE_cons, Pl.startE_nil, Pl.repl_succ, List.replicate_zero, Nat.zero_add, Pl.execs, Pl.exec, Pl.evalT, Pl.evalE, Pl.evalVs, Pl.evalP, Pl.evalI, Pl.evalJ, List.getElem?_cons_zero, List.getElem?_cons_succ, Pl.Res.bind_ok, Pl.Res.bind_exc, Pl.Res.bind_stuck, Pl.Res.to_ok, Pl.Res.to_exc, Pl.Res.to_stuck, Pl.Res.calm_ok, Pl.SR.andThen_next, Pl.SR.andThen_ret, Pl.SR.andThen_brk, Pl.SR.andThen_cont, Pl.SR.andThen_exc, Pl.SR.andThen_stuck, Pl.gcE_self, Pl.gcX_self, Pl.optR_some, Pl.optR_none, Pl.EV.val_d, Pl.EV.val_own, Pl.EV.items_own, Pl.EV.items_brw, Pl.EV.items_lst, if_true, if_false, reduceIte, Bool.false_eq_true, Bool.not_true, Bool.not_false, List.set_cons_zero, List.set_cons_succ, Pl.wipeE, List.map_cons, List.map_nil, Pl.setE, Pl.bindT, Pl.bindNames, Nat.zero_lt_succ, Nat.succ_lt_succ_iff, Nat.lt_add_one, Pl.tru_bl, Pl.tru_int, Pl.its_tup, Pl.its_lst, Pl.its_own, Pl.its_brw, Pl.its_str, Pl.enum_tup, Pl.eq_int, Pl.ne_int, Pl.lt_int, Pl.le_int, Pl.gt_int, Pl.ge_int, Pl.add_int, Pl.sub_int, Pl.len_tup, Pl.len_own, Pl.len_brw, Pl.len_lst, Pl.idx_tup, Pl.idx_lst, Pl.idx_own, Pl.idx_brw, Pl.in_dic, Pl.nin_dic, Pl.idx_dic, Pl.is_non, Pl.isn_non, Pl.at_zero, Pl.at_one, sizeLine_eq, Nat.reduceAdd, Nat.reduceLeDiff, hin, hf, decide_false, h2, eu]
    · refine ⟨.tup [.str "left", .tup (.str w :: args), c], S3, ?_, hB3, br_left hsm hd mc⟩
      simp only [Pl.runFn, List.length_cons, List.length_nil, Pl.startE_cons, Pl.startE_nil, Pl.repl_succ, List.replicate_zero, Nat.zero_add, Pl.execs, Pl.exec, Pl.evalT, Pl.evalE, Pl.evalVs, Pl.evalP, Pl.evalI, Pl.evalJ, List.getElem?_cons_zero, List.getElem?_cons_succ, Pl.Res.bind_ok, Pl.Res.bind_exc, Pl.Res.bind_stuck, Pl.Res.to_ok, Pl.Res.to_exc, Pl.Res.to_stuck, Pl.Res.calm_ok, Pl.SR.andThen_next, Pl.SR.andThen_ret, Pl.SR.andThen_brk, Pl.SR.andThen_cont, Pl.SR.andThen_exc, Pl.SR.andThen_stuck, Pl.gcE_self, Pl.gcX_self, Pl.optR_some, Pl.optR_none, Pl.EV.val_d, Pl.EV.val_own, Pl.EV.items_own, Pl.EV.items_brw, Pl.EV.items_lst, if_true, if_false, reduceIte, Bool.false_eq_true, Bool.not_true, Bool.not_false, List.set_cons_zero, List.set_cons_succ, Pl.wipeE, List.map_cons, List.map_nil, Pl.setE, Pl.bindT, Pl.bindNames, Nat.zero_lt_succ, Nat.succ_lt_succ_iff, Nat.lt_add_one, Pl.tru_bl, Pl.tru_int, Pl.its_tup, Pl.its_lst, Pl.its_own, Pl.its_brw, Pl.its_str, Pl.enum_tup, Pl.eq_int, Pl.ne_int, Pl.lt_int, Pl.le_int, Pl.gt_int, Pl.ge_int, Pl.add_int, Pl.sub_int, Pl.len_tup, Pl.len_own, Pl.len_brw, Pl.len_lst, Pl.idx_tup, Pl.idx_lst, Pl.idx_own, Pl.idx_brw, Pl.in_dic, Pl.nin_dic, Pl.idx_dic, Pl.is_non, Pl.isn_non, Pl.at_zero, Pl.at_one, sizeLine_eq, Nat.reduceAdd, Nat.reduceLeDiff, h7, eb, h, decide_false, h7b, ec, s_law_shapes]
      rw [comp_words rfl fun p hp => ⟨_, rfl, rfl, by simp only [Pl.runFn, List.length_cons, List.length_nil, Pl.startE_cons, Pl.startE_nil, Pl.repl_succ, List.replicate_zero, Nat.zero_add, Pl.execs, Pl.exec, Pl.evalT, Pl.evalE, Pl.evalVs, Pl.evalP, Pl.evalI, Pl.evalJ, List.getElem?_cons_zero, List.getElem?_cons_succ, Pl.Res.bind_ok, Pl.Res.bind_exc, Pl.Res.bind_stuck, Pl.Res.to_ok, Pl.Res.to_exc, Pl.Res.to_stuck, Pl.Res.calm_ok, Pl.SR.andThen_next, Pl.SR.andThen_ret, Pl.SR.andThen_brk, Pl.SR.andThen_cont, Pl.SR.andThen_exc, Pl.SR.andThen_stuck, Pl.gcE_self, Pl.gcX_self, Pl.optR_some, Pl.optR_none, Pl.EV.val_d, Pl.EV.val_own, Pl.EV.items_own, Pl.EV.items_brw, Pl.EV.items_lst, if_true, if_false, reduceIte, Bool.false_eq_true, Bool.not_true, Bool.not_false, List.set_cons_zero, List.set_cons_succ, Pl.wipeE, List.map_cons, List.map_nil, Pl.setE, Pl.bindT, Pl.bindNames, Nat.zero_lt_succ, Nat.succ_lt_succ_iff, Nat.lt_add_one, Pl.tru_bl, Pl.tru_int, Pl.its_tup, Pl.its_lst, Pl.its_own, Pl.its_brw, Pl.its_str, Pl.enum_tup, Pl.eq_int, Pl.ne_int, Pl.lt_int, Pl.le_int, Pl.gt_int, Pl.ge_int, Pl.add_int, Pl.sub_int, Pl.len_tup, Pl.len_own, Pl.len_brw, Pl.len_lst, Pl.idx_tup, Pl.idx_lst, Pl.idx_own, Pl.idx_brw, Pl.in_dic, Pl.nin_dic, Pl.idx_dic, Pl.is_non, Pl.isn_non, Pl.at_zero, Pl.at_one, sizeLine_eq, Nat.reduceAdd, Nat.reduceLeDiff]⟩]
      simp only [Pl.runFn, List.length_cons, List.length_nil, Pl.startE_cons, Pl.startE_nil, Pl.repl_succ, List.replicate_zero, Nat.zero_add, Pl.execs, Pl.exec, Pl.evalT, Pl.evalE, Pl.evalVs, Pl.evalP, Pl.evalI, Pl.evalJ, List.getElem?_cons_zero, List.getElem?_cons_succ, Pl.Res.bind_ok, Pl.Res.bind_exc, Pl.Res.bind_stuck, Pl.Res.to_ok, Pl.Res.to_exc, Pl.Res.to_stuck, Pl.Res.calm_ok, Pl.SR.andThen_next, Pl.SR.andThen_ret, Pl.SR.andThen_brk, Pl.SR.andThen_cont, Pl.SR.andThen_exc, Pl.SR.andThen_stuck, Pl.gcE_self, Pl.gcX_self, Pl.optR_some, Pl.optR_none, Pl.EV.val_d, Pl.EV.val_own, Pl.EV.items_own, Pl.EV.items_brw, Pl.EV.items_lst, if_true, if_false, reduceIte, Bool.false_eq_true, Bool.not_true, Bool.not_false, List.set_cons_zero, List.set_cons_succ, Pl.wipeE, List.map_cons, List.map_nil, Pl.setE, Pl.bindT, Pl.bindNames, Nat.zero_lt_succ, Nat.succ_lt_succ_iff, Nat.lt_add_one, Pl.tru_bl, Pl.tru_int, Pl.its_tup, Pl.its_lst, Pl.its_own, Pl.its_brw, Pl.its_str, Pl.enum_tup, Pl.eq_int, Pl.ne_int, Pl.lt_int, Pl.le_int, Pl.gt_int, Pl.ge_int, Pl.add_int, Pl.sub_int, Pl.len_tup, Pl.len_own, Pl.len_brw, Pl.len_lst, Pl.idx_tup, Pl.idx_lst, Pl.idx_own, Pl.idx_brw, Pl.in_dic, Pl.nin_dic, Pl.idx_dic, Pl.is_non, Pl.isn_non, Pl.at_zero, Pl.at_one, sizeLine_eq, Nat.reduceAdd, Nat.reduceLeDiff, hin, hf, decide_false]
end K20
end

section
set_option Elab.async false
set_option linter.all false
set_option maxRecDepth 100000
set_option maxHeartbeats 4000000
/-! k20: _law_broken, whole. -/
namespace K20
open PySem hiding exec execs
open L2 Pl
abbrev pDof (sort w : Str) (xs : List D) : List D := (kps sort w).map fun q => .tup [.int q.1, bndV xs q.2.2]
theorem bB_cut : bB = bB.take 2 ++ ((bB.drop 2).take 1 ++ ((bB.drop 3).take 7 ++ bB.drop 10)) := rfl
theorem br_head (k : Nat) {sort w : Str} {ss args : List D} (P : Pt sort w ss args) (S : Sto) : Pl.execs gd (R (k + 1)) (bB.take 2) [some (.d (.ref 0)), some (.d (.tup (.str w :: args))), none, none, none, none, none, none, none] S =
    .next [some (.d (.ref 0)), some (.d (.tup (.str w :: args))), some (.d (.lst (pDof sort w (.str w :: args)))), none, none, none, none, none, none] S := by
  unfold bB n_law_broken
  simp only [List.take_succ_cons, List.take_zero]
  simp only [Pl.runFn, List.length_cons, List.length_nil, Pl.startE_cons, Pl.startE_nil, Pl.repl_succ, List.replicate_zero, Nat.zero_add, Pl.execs, Pl.exec, Pl.evalT, Pl.evalE, Pl.evalVs, Pl.evalP, Pl.evalI, Pl.evalJ, List.getElem?_cons_zero, List.getElem?_cons_succ, Pl.Res.bind_ok, Pl.Res.bind_exc, Pl.Res.bind_stuck, Pl.Res.to_ok, Pl.Res.to_exc, Pl.Res.to_stuck, Pl.Res.calm_ok, Pl.SR.andThen_next, Pl.SR.andThen_ret, Pl.SR.andThen_brk, Pl.SR.andThen_cont, Pl.SR.andThen_exc, Pl.SR.andThen_stuck, Pl.gcE_self, Pl.gcX_self, Pl.optR_some, Pl.optR_none, Pl.EV.val_d, Pl.EV.val_own, Pl.EV.items_own, Pl.EV.items_brw, Pl.EV.items_lst, if_true, if_false, reduceIte, Bool.false_eq_true, Bool.not_true, Bool.not_false, List.set_cons_zero, List.set_cons_succ, Pl.wipeE, List.map_cons, List.map_nil, Pl.setE, Pl.bindT, Pl.bindNames, Nat.zero_lt_succ, Nat.succ_lt_succ_iff, Nat.lt_add_one, Pl.tru_bl, Pl.tru_int, Pl.its_tup, Pl.its_lst, Pl.its_own, Pl.its_brw, Pl.its_str, Pl.enum_tup, Pl.eq_int, Pl.ne_int, Pl.lt_int, Pl.le_int, Pl.gt_int, Pl.ge_int, Pl.add_int, Pl.sub_int, Pl.len_tup, Pl.len_own, Pl.len_brw, Pl.len_lst, Pl.idx_tup, Pl.idx_lst, Pl.idx_own, Pl.idx_brw, Pl.in_dic, Pl.nin_dic, Pl.idx_dic, Pl.is_non, Pl.isn_non, Pl.at_zero, Pl.at_one, sizeLine_eq, Nat.reduceAdd, Nat.reduceLeDiff, P.s_parts k S]
theorem take_drop_set {α : Type} (xs : List α) (i : Nat) (u : α) (h : i < xs.length) : xs.take i ++ [u] ++ xs.drop (i + 1) = xs.set i u := by
  rw [List.set_eq_take_append_cons_drop, if_pos h]
  simp
theorem br_rec (k n : Nat) {sort w : Str} {ss args : List D} {S : Sto} (hs : sort ∈ tf) (P : Pt sort w ss args) (hsm : sm (.tup (.str w :: args)) = true) (hd : dep (.tup (.str w :: args)) ≤ n + 1) (hS : BS S)
    (ih : ∀ (v : D) (sort : Str) (S : Sto), BS S → sm v = true → dep v ≤ n → sort ∈ tf → wr v sort = true → ∃ e u S', R (k + 1) "_law_broken" [.ref 0, v] S = .ok e S' ∧ e.val = some u ∧ BS S' ∧ BrOk n u) :
    (∃ u S', Pl.execs gd (R (k + 1)) ((bB.drop 2).take 1) [some (.d (.ref 0)), some (.d (.tup (.str w :: args))), some (.d (.lst (pDof sort w (.str w :: args)))), none, none, none, none, none, none] S = .ret (.d u) S' ∧ BS S' ∧ BrOk (n + 1) u) ∨
    ∃ S', Pl.execs gd (R (k + 1)) ((bB.drop 2).take 1) [some (.d (.ref 0)), some (.d (.tup (.str w :: args))), some (.d (.lst (pDof sort w (.str w :: args)))), none, none, none, none, none, none] S =
      .next [some (.d (.ref 0)), some (.d (.tup (.str w :: args))), some (.d (.lst (pDof sort w (.str w :: args)))), none, none, none, none, none, none] S' ∧ BS S' := by
  have hL : (pDof sort w (.str w :: args)).length = (kps sort w).length := List.length_map ..
  have kl := P.klen
  have al := P.alen
  obtain ⟨m1, m2⟩ := sm_tup hsm
  have hxs : ∀ x ∈ D.str w :: args, sm x = true ∧ dep x ≤ n + 1 + 3 := fun x hx => ⟨sms_mem m2 hx, by
    have := deps_mem hx
    simp only [dep] at hd
    omega⟩
  unfold bB n_law_broken
  simp only [List.drop_succ_cons, List.drop_zero, List.take_succ_cons, List.take_zero]
  by_cases h0 : (0 : Int) < ((pDof sort w (.str w :: args)).length : Int)
  · obtain ⟨r, S1, h3, hB, r0, r1⟩ := s_law_draw k (many := 3) (by decide) (by decide) hS
    by_cases h1 : 0 < r
    · left
      obtain ⟨q, S2, hq, hB2, q0, q1⟩ := s_law_draw k (many := ((pDof sort w (.str w :: args)).length : Int)) h0 (by omega) hB
      obtain ⟨m, rfl⟩ : ∃ m : Nat, q = (m : Int) := ⟨q.toNat, by omega⟩
      have hm : m < (kps sort w).length := by omega
      have hg : (pDof sort w (.str w :: args))[m]? = some (.tup [.int ((kps sort w)[m]).1, bndV (.str w :: args) ((kps sort w)[m]).2.2]) := by
        rw [List.getElem?_map, List.getElem?_eq_getElem hm]
        rfl
      have hkm : (kps sort w)[m] ∈ kps sort w := List.getElem_mem hm
      generalize (kps sort w)[m] = q at hg hkm
      obtain ⟨i, y, q1, q2, q3, q4, q5, q6⟩ := P.ch q hkm
      obtain ⟨_, i', z1, z2, _⟩ := P.K.kp q hkm
      have hii : i' = i := by omega
      subst hii
      obtain ⟨e, u, S3, he, hv, hB3, hu⟩ := ih y q.2.1 S2 hB2 q5 (dep_in q6 hd) q4 q3
      have hty : args[i']? = some y := by simpa using q2
      have hi : i' < args.length := (List.getElem?_eq_some_iff.mp hty).1
      rw [q1] at hg
      have c1 : ∀ S : Sto, sliceV S (.d (.tup (.str w :: args))) none (some ((i' : Int) + 1)) = some (.d (.tup ((D.str w :: args).take (i' + 1)))) := fun S => by
        show some (EV.d (.tup (cut (.str w :: args) none (some (((i' + 1 : Nat)) : Int))))) = _
        rw [cut_to _ _ (by rw [List.length_cons]; omega)]
      have c2 : ∀ S : Sto, sliceV S (.d (.tup (.str w :: args))) (some ((i' : Int) + 1 + 1)) none = some (.d (.tup ((D.str w :: args).drop (i' + 2)))) := fun S => by
        show some (EV.d (.tup (cut (.str w :: args) (some (((i' + 2 : Nat)) : Int)) none))) = _
        rw [cut_from _ _ (by rw [List.length_cons]; omega)]
      have l1 : ((D.str w :: args).take (i' + 1)).length + 1 ≤ 16777216 := by rw [List.length_take, List.length_cons]; omega
      have l2 : ((D.str w :: args).take (i' + 1) ++ [u]).length + ((D.str w :: args).drop (i' + 2)).length ≤ 16777216 := by
        rw [List.length_append, List.length_take, List.length_drop]
        simp only [List.length_cons, List.length_nil]
        omega
      have hset : (D.str w :: args).take (i' + 1) ++ [u] ++ (D.str w :: args).drop (i' + 2) = D.str w :: args.set i' u := by
        rw [take_drop_set (D.str w :: args) (i' + 1) u (by rw [List.length_cons]; omega)]
        rfl
      have hmem : ∀ x ∈ args.set i' u, x = u ∨ x ∈ args := fun x hx => (List.mem_or_eq_of_mem_set hx).symm
      refine ⟨.tup (.str w :: args.set i' u), S3, ?_, hB3, br_mk (hxs _ List.mem_cons_self).1 ?_ (by rw [List.length_set]; omega) ?_ (bad_part hs P.N z2 q4 hu.b)⟩
      · simp only [Pl.runFn, List.length_cons, List.length_nil, Pl.startE_cons, Pl.startE_nil, Pl.repl_succ, List.replicate_zero, Nat.zero_add, Pl.execs, Pl.exec, Pl.evalT, Pl.evalE, Pl.evalVs, Pl.evalP, Pl.evalI, Pl.evalJ, List.getElem?_cons_zero, List.getElem?_cons_succ, Pl.Res.bind_ok, Pl.Res.bind_exc, Pl.Res.bind_stuck, Pl.Res.to_ok, Pl.Res.to_exc, Pl.Res.to_stuck, Pl.Res.calm_ok, Pl.SR.andThen_next, Pl.SR.andThen_ret, Pl.SR.andThen_brk, Pl.SR.andThen_cont, Pl.SR.andThen_exc, Pl.SR.andThen_stuck, Pl.gcE_self, Pl.gcX_self, Pl.optR_some, Pl.optR_none, Pl.EV.val_d, Pl.EV.val_own, Pl.EV.items_own, Pl.EV.items_brw, Pl.EV.items_lst, if_true, if_false, reduceIte, Bool.false_eq_true, Bool.not_true, Bool.not_false, List.set_cons_zero, List.set_cons_succ, Pl.wipeE, List.map_cons, List.map_nil, Pl.setE, Pl.bindT, Pl.bindNames, Nat.zero_lt_succ, Nat.succ_lt_succ_iff, Nat.lt_add_one, Pl.tru_bl, Pl.tru_int, Pl.its_tup, Pl.its_lst, Pl.its_own, Pl.its_brw, Pl.its_str, Pl.enum_tup, Pl.eq_int, Pl.ne_int, Pl.lt_int, Pl.le_int, Pl.gt_int, Pl.ge_int, Pl.add_int, Pl.sub_int, Pl.len_tup, Pl.len_own, Pl.len_brw, Pl.len_lst, Pl.idx_tup, Pl.idx_lst, Pl.idx_own, Pl.idx_brw, Pl.in_dic, Pl.nin_dic, Pl.idx_dic, Pl.is_non, Pl.isn_non, Pl.at_zero, Pl.at_one, sizeLine_eq, Nat.reduceAdd, Nat.reduceLeDiff, h0, h1, decide_true, h3, hq, Pl.atI_nat, hg, c1, hty, he, hv]
        simp only [Pl.runFn, List.length_cons, List.length_nil, Pl.startE_cons, Pl.startE_nil, Pl.repl_succ, List.replicate_zero, Nat.zero_add, Pl.execs, Pl.exec, Pl.evalT, Pl.evalE, Pl.evalVs, Pl.evalP, Pl.evalI, Pl.evalJ, List.getElem?_cons_zero, List.getElem?_cons_succ, Pl.Res.bind_ok, Pl.Res.bind_exc, Pl.Res.bind_stuck, Pl.Res.to_ok, Pl.Res.to_exc, Pl.Res.to_stuck, Pl.Res.calm_ok, Pl.SR.andThen_next, Pl.SR.andThen_ret, Pl.SR.andThen_brk, Pl.SR.andThen_cont, Pl.SR.andThen_exc, Pl.SR.andThen_stuck, Pl.gcE_self, Pl.gcX_self, Pl.optR_some, Pl.optR_none, Pl.EV.val_d, Pl.EV.val_own, Pl.EV.items_own, Pl.EV.items_brw, Pl.EV.items_lst, if_true, if_false, reduceIte, Bool.false_eq_true, Bool.not_true, Bool.not_false, List.set_cons_zero, List.set_cons_succ, Pl.wipeE, List.map_cons, List.map_nil, Pl.setE, Pl.bindT, Pl.bindNames, Nat.zero_lt_succ, Nat.succ_lt_succ_iff, Nat.lt_add_one, Pl.tru_bl, Pl.tru_int, Pl.its_tup, Pl.its_lst, Pl.its_own, Pl.its_brw, Pl.its_str, Pl.enum_tup, Pl.eq_int, Pl.ne_int, Pl.lt_int, Pl.le_int, Pl.gt_int, Pl.ge_int, Pl.add_int, Pl.sub_int, Pl.len_tup, Pl.len_own, Pl.len_brw, Pl.len_lst, Pl.idx_tup, Pl.idx_lst, Pl.idx_own, Pl.idx_brw, Pl.in_dic, Pl.nin_dic, Pl.idx_dic, Pl.is_non, Pl.isn_non, Pl.at_zero, Pl.at_one, sizeLine_eq, Nat.reduceAdd, Nat.reduceLeDiff, add_tup, l1, c2]
        rw [if_pos l2, hset]
        simp only [Pl.runFn, List.length_cons, List.length_nil, Pl.startE_cons, Pl.startE_nil, Pl.repl_succ, List.replicate_zero, Nat.zero_add, Pl.execs, Pl.exec, Pl.evalT, Pl.evalE, Pl.evalVs, Pl.evalP, Pl.evalI, Pl.evalJ, List.getElem?_cons_zero, List.getElem?_cons_succ, Pl.Res.bind_ok, Pl.Res.bind_exc, Pl.Res.bind_stuck, Pl.Res.to_ok, Pl.Res.to_exc, Pl.Res.to_stuck, Pl.Res.calm_ok, Pl.SR.andThen_next, Pl.SR.andThen_ret, Pl.SR.andThen_brk, Pl.SR.andThen_cont, Pl.SR.andThen_exc, Pl.SR.andThen_stuck, Pl.gcE_self, Pl.gcX_self, Pl.optR_some, Pl.optR_none, Pl.EV.val_d, Pl.EV.val_own, Pl.EV.items_own, Pl.EV.items_brw, Pl.EV.items_lst, if_true, if_false, reduceIte, Bool.false_eq_true, Bool.not_true, Bool.not_false, List.set_cons_zero, List.set_cons_succ, Pl.wipeE, List.map_cons, List.map_nil, Pl.setE, Pl.bindT, Pl.bindNames, Nat.zero_lt_succ, Nat.succ_lt_succ_iff, Nat.lt_add_one, Pl.tru_bl, Pl.tru_int, Pl.its_tup, Pl.its_lst, Pl.its_own, Pl.its_brw, Pl.its_str, Pl.enum_tup, Pl.eq_int, Pl.ne_int, Pl.lt_int, Pl.le_int, Pl.gt_int, Pl.ge_int, Pl.add_int, Pl.sub_int, Pl.len_tup, Pl.len_own, Pl.len_brw, Pl.len_lst, Pl.idx_tup, Pl.idx_lst, Pl.idx_own, Pl.idx_brw, Pl.in_dic, Pl.nin_dic, Pl.idx_dic, Pl.is_non, Pl.isn_non, Pl.at_zero, Pl.at_one, sizeLine_eq, Nat.reduceAdd, Nat.reduceLeDiff]
      · intro x hx
        rcases hmem x hx with rfl | hx
        · exact hu.s
        · exact (hxs x (List.mem_cons_of_mem _ hx)).1
      · intro x hx
        rcases hmem x hx with rfl | hx
        · have := hu.d
          omega
        · exact (hxs x (List.mem_cons_of_mem _ hx)).2
    · right
      refine ⟨S1, ?_, hB⟩
      simp only [Pl.runFn, List.length_cons, List.length_nil, Pl.startE_cons, Pl.startE_nil, Pl.repl_succ, List.replicate_zero, Nat.zero_add, Pl.execs, Pl.exec, Pl.evalT, Pl.evalE, Pl.evalVs, Pl.evalP, Pl.evalI, Pl.evalJ, List.getElem?_cons_zero, List.getElem?_cons_succ, Pl.Res.bind_ok, Pl.Res.bind_exc, Pl.Res.bind_stuck, Pl.Res.to_ok, Pl.Res.to_exc, Pl.Res.to_stuck, Pl.Res.calm_ok, Pl.SR.andThen_next, Pl.SR.andThen_ret, Pl.SR.andThen_brk, Pl.SR.andThen_cont, Pl.SR.andThen_exc, Pl.SR.andThen_stuck, Pl.gcE_self, Pl.gcX_self, Pl.optR_some, Pl.optR_none, Pl.EV.val_d, Pl.EV.val_own, Pl.EV.items_own, Pl.EV.items_brw, Pl.EV.items_lst, if_true, if_false, reduceIte, Bool.false_eq_true, Bool.not_true, Bool.not_false, List.set_cons_zero, List.set_cons_succ, Pl.wipeE, List.map_cons, List.map_nil, Pl.setE, Pl.bindT, Pl.bindNames, Nat.zero_lt_succ, Nat.succ_lt_succ_iff, Nat.lt_add_one, Pl.tru_bl, Pl.tru_int, Pl.its_tup, Pl.its_lst, Pl.its_own, Pl.its_brw, Pl.its_str, Pl.enum_tup, Pl.eq_int, Pl.ne_int, Pl.lt_int, Pl.le_int, Pl.gt_int, Pl.ge_int, Pl.add_int, Pl.sub_int, Pl.len_tup, Pl.len_own, Pl.len_brw, Pl.len_lst, Pl.idx_tup, Pl.idx_lst, Pl.idx_own, Pl.idx_brw, Pl.in_dic, Pl.nin_dic, Pl.idx_dic, Pl.is_non, Pl.isn_non, Pl.at_zero, Pl.at_one, sizeLine_eq, Nat.reduceAdd, Nat.reduceLeDiff, h0, h1, decide_true, decide_false, h3]
  · right
    refine ⟨S, ?_, hS⟩
    simp only [Pl.runFn, List.length_cons, List.length_nil, Pl.startE_cons, Pl.startE_nil, Pl.repl_succ, List.replicate_zero, Nat.zero_add, Pl.execs, Pl.exec, Pl.evalT, Pl.evalE, Pl.evalVs, Pl.evalP, Pl.evalI, Pl.evalJ, List.getElem?_cons_zero, List.getElem?_cons_succ, Pl.Res.bind_ok, Pl.Res.bind_exc, Pl.Res.bind_stuck, Pl.Res.to_ok, Pl.Res.to_exc, Pl.Res.to_stuck, Pl.Res.calm_ok, Pl.SR.andThen_next, Pl.SR.andThen_ret, Pl.SR.andThen_brk, Pl.SR.andThen_cont, Pl.SR.andThen_exc, Pl.SR.andThen_stuck, Pl.gcE_self, Pl.gcX_self, Pl.optR_some, Pl.optR_none, Pl.EV.val_d, Pl.EV.val_own, Pl.EV.items_own, Pl.EV.items_brw, Pl.EV.items_lst, if_true, if_false, reduceIte, Bool.false_eq_true, Bool.not_true, Bool.not_false, List.set_cons_zero, List.set_cons_succ, Pl.wipeE, List.map_cons, List.map_nil, Pl.setE, Pl.bindT, Pl.bindNames, Nat.zero_lt_succ, Nat.succ_lt_succ_iff, Nat.lt_add_one, Pl.tru_bl, Pl.tru_int, Pl.its_tup, Pl.its_lst, Pl.its_own, Pl.its_brw, Pl.its_str, Pl.enum_tup, Pl.eq_int, Pl.ne_int, Pl.lt_int, Pl.le_int, Pl.gt_int, Pl.ge_int, Pl.add_int, Pl.sub_int, Pl.len_tup, Pl.len_own, Pl.len_brw, Pl.len_lst, Pl.idx_tup, Pl.idx_lst, Pl.idx_own, Pl.idx_brw, Pl.in_dic, Pl.nin_dic, Pl.idx_dic, Pl.is_non, Pl.isn_non, Pl.at_zero, Pl.at_one, sizeLine_eq, Nat.reduceAdd, Nat.reduceLeDiff, h0, decide_false]
theorem s_law_broken (j : Nat) : ∀ (n : Nat) (v : D) (sort : Str) (S : Sto), BS S → sm v = true → dep v ≤ n → sort ∈ tf → wr v sort = true → ∃ e u S', R (n + j + 3) "_law_broken" [.ref 0, v] S = .ok e S' ∧ e.val = some u ∧ BS S' ∧ BrOk n u := by
  intro n
  induction n with
  | zero =>
    intro v sort S hS hsm hd hs hw
    obtain ⟨w, ss, args, rfl, _⟩ := pt_of hs hsm hw
    simp [dep] at hd
  | succ n ih =>
    intro v sort S hS hsm hd hs hw
    obtain ⟨w, ss, args, rfl, P, N0⟩ := pt_of hs hsm hw
    rw [show n + 1 + j + 3 = (n + j + 3) + 1 by omega, R_law_broken]
    unfold runFn
    rw [if_pos (by rfl), show n_law_broken.body = bB from rfl, bB_cut]
    rw [show startE n_law_broken.N [D.ref 0, D.tup (.str w :: args)] = [some (.d (.ref 0)), some (.d (.tup (.str w :: args))), none, none, none, none, none, none, none] from rfl]
    rw [show n + j + 3 = (n + j + 2) + 1 from rfl, execs_app, br_head (n + j + 2) P S, SR.andThen_next, execs_app]
    rcases br_rec (n + j + 2) n hs P hsm hd hS ih with ⟨u, S1, h, hB, hu⟩ | ⟨S1, h, hB⟩
    · rw [h]
      exact ⟨.d u, u, S1, gcE_len _ (BS_len hS hB), rfl, hB, hu⟩
    · rw [h, SR.andThen_next, execs_app]
      rcases br_mid (n + j + 2) (n + 1) hs P hsm hd hB (pDof sort w (.str w :: args)) with ⟨e, u, S2, h2, hv, hB2, hu⟩ | ⟨r, S2, h2, hB2, hr⟩
      · rw [h2]
        exact ⟨e, u, S2, gcE_len _ (BS_len hS hB2), hv, hB2, hu⟩
      · rw [h2, SR.andThen_next]
        obtain ⟨u, S3, h3, hB3, hu⟩ := br_tail (n + j + 2) (n + 1) P hsm hd hB2 (pDof sort w (.str w :: args)) hr
        rw [h3]
        exact ⟨.d u, u, S3, gcE_len _ (BS_len hS hB3), rfl, hB3, hu⟩
end K20
end

section
set_option Elab.async false
set_option linter.all false
set_option maxRecDepth 100000
set_option maxHeartbeats 4000000
/-! k20: what putting in gives, _law_told. -/
namespace K20
open PySem hiding exec execs
open L2 Pl
structure Rl (t x y : D) : Prop where
  s : sm y = true
  g : gw y = true
  d : dep y ≤ dep x + dep t
  z : sz y ≤ sz x + nml x * sz t
theorem A2_set {α β : Type} {P : α → β → Prop} {y : β} : ∀ {as : List α} {bs : List β} {i : Nat} {a : α}, A2 P as bs → as[i]? = some a → P a y → A2 P as (bs.set i y)
  | a :: as, b :: bs, 0, _, q, e, h => by cases e; exact ⟨h, q.2⟩
  | a :: as, b :: bs, i + 1, _, q, e, h => ⟨q.1, A2_set (i := i) q.2 e h⟩
  | [], _, i, _, _, e, _ => by cases e
  | _ :: _, [], _, _, q, _, _ => q.elim
theorem A2_refl {t : D} : ∀ {xs : List D}, sms xs = true → gws xs = true → A2 (Rl t) xs xs
  | [], _, _ => trivial
  | x :: xs, h1, h2 => by
    obtain ⟨a1, a2⟩ := Bool.and_eq_true_iff.mp (show (sm x && sms xs) = true from h1)
    obtain ⟨b1, b2⟩ := Bool.and_eq_true_iff.mp (show (gw x && gws xs) = true from h2)
    exact ⟨⟨a1, b1, Nat.le_add_right _ _, Nat.le_add_right _ _⟩, A2_refl a2 b2⟩
theorem A2_sum {t : D} : ∀ {xs ys : List D}, A2 (Rl t) xs ys → sms ys = true ∧ gws ys = true ∧ deps ys ≤ deps xs + dep t ∧ szs ys ≤ szs xs + nmls xs * sz t
  | [], [], _ => ⟨rfl, rfl, Nat.zero_le _, Nat.zero_le _⟩
  | x :: xs, y :: ys, h => by
    obtain ⟨a1, a2, a3, a4⟩ := A2_sum h.2
    obtain ⟨b1, b2, b3, b4⟩ := h.1
    refine ⟨?_, ?_, ?_, ?_⟩
    · rw [sms, b1, a1]; rfl
    · rw [gws, b2, a2]; rfl
    · rw [deps, deps]; omega
    · rw [szs, szs, nmls, Nat.add_mul]; omega
  | [], _ :: _, q => q.elim
  | _ :: _, [], q => q.elim
theorem stepP_rel {nm : Str} {t : D} {pt : D → Str → Option D} {xs : List D} : ∀ {ks : List Kp} {m l : List D},
    (∀ q ∈ ks, ∃ (i : Nat) (a : D), q.1 = (i : Int) + 1 ∧ xs[i + 1]? = some a ∧ ∀ y, pt a q.2.1 = some y → Rl t a y) → A2 (Rl t) xs m → stepP nm t pt xs ks m = some l → A2 (Rl t) xs l
  | [], m, l, _, h, e => by cases e; exact h
  | q :: ks, m, l, hk, h, e => by
    have hk' := fun p hp => hk p (List.mem_cons_of_mem _ hp)
    obtain ⟨i, a, q1, q2, q3⟩ := hk q List.mem_cons_self
    rw [stepP] at e
    split at e
    · split at e
      · cases e
      · rw [q1, Pl.at_one, q2, show ((i : Int) + 1).toNat = i + 1 by omega] at e
        simp only [Option.getD_some] at e
        split at e
        · rename_i y ey
          exact stepP_rel hk' (A2_set h q2 (q3 y ey)) e
        · cases e
    · exact stepP_rel hk' h e
theorem ptn_rel {nm : Str} {t : D} (st : sm t = true) (gt : gw t = true) : ∀ (n : Nat) (v : D) (sort : Str) (y : D), sort ∈ tf → sm v = true → gw v = true → wr v sort = true → ptn nm t n v sort = some y → Rl t v y
  | 0, _, _, _, _, _, _, _, e => by cases e
  | n + 1, v, sort, y, hs, sv, gv, hw, e => by
    have rf : Rl t v v := ⟨sv, gv, Nat.le_add_right _ _, Nat.le_add_right _ _⟩
    obtain ⟨w, ss, args, rfl, P, N0⟩ := pt_of hs sv hw
    rw [ptn] at e
    split at e
    · rw [ndPt] at e
      split at e
      · rename_i h
        cases e
        refine ⟨st, gt, Nat.le_add_left _ _, ?_⟩
        rw [nml, h.2, if_pos (by rfl)]
        omega
      · rename_i h
        cases e2 : stepP nm t (fun d s => ptn nm t n d s) (.str w :: args) (kps sort w) (.str w :: args) with
        | none => rw [e2] at e; cases e
        | some l =>
          rw [e2] at e
          cases e
          have gx : gws (.str w :: args) = true := gv
          have hA : A2 (Rl t) (.str w :: args) l := stepP_rel (fun q hq => by
            obtain ⟨i, a, q1, q2, q3, q4, q5, q6⟩ := P.ch q hq
            have ga : gw a = true := by
              have : ∀ (xs : List D), gws xs = true → ∀ x ∈ xs, gw x = true := by
                intro xs
                induction xs with
                | nil => intro _ x hx; cases hx
                | cons z zs ih =>
                  intro h x hx
                  obtain ⟨h1, h2⟩ := Bool.and_eq_true_iff.mp (show (gw z && gws zs) = true from h)
                  rcases List.mem_cons.mp hx with rfl | hx
                  · exact h1
                  · exact ih h2 x hx
              exact this _ gx a q6
            exact ⟨i, a, q1, q2, fun y hy => ptn_rel st gt n a q.2.1 y q4 q5 ga q3 hy⟩) (A2_refl (sm_tup sv).2 gx) e2
          obtain ⟨a1, a2, a3, a4⟩ := A2_sum hA
          have hl := A2_len hA
          refine ⟨?_, a2, ?_, ?_⟩
          · rw [sm, a1]
            exact Bool.and_eq_true_iff.mpr ⟨decide_eq_true (by rw [← hl]; exact (sm_tup sv).1), rfl⟩
          · rw [dep, dep]; omega
          · rw [sz, sz, nml, if_neg ?_]
            · omega
            · intro q
              rw [List.head?_cons] at q
              have : w = "name" := D.str.inj (Option.some.inj q)
              exact h ⟨P.K.nmT this, this⟩
    · cases e; exact rf
/-! ### _law_told -/
def told (nm : Str) (v t : D) : D := if okP v t = true then (match ptn nm t 15 v (srt v) with
  | some y => .tup [.int 0, y]
  | none => .tup [.int 1, .str "refused"]) else .tup [.int 1, .str "form"]
theorem sub_ff : gd.sub "BadForm" "BadForm" = true := by decide +kernel
theorem sub_fd : gd.sub "BadForm" "BadDerivation" = false := by decide +kernel
theorem sub_df : gd.sub "BadDerivation" "BadForm" = false := by decide +kernel
theorem sub_dd : gd.sub "BadDerivation" "BadDerivation" = true := by decide +kernel
theorem sub_dp : gd.sub "BadDerivation" "ProofError" = true := by decide +kernel
theorem excs_proof : gd.excs.contains ("ProofError" : Str) = true := by decide +kernel
theorem s_law_told {nm : Str} {v t : D} (S : Sto) (hv : sm v = true) (hdv : dep v ≤ 14) (ht : sm t = true) (hdt : dep t ≤ 36) (hn : sm (.str nm) = true) (hi : isNm (.str nm) = true)
    (hp : okP v t = true → ∀ y, ptn nm t 15 v (srt v) = some y → sm y = true ∧ dep y ≤ 57) : R 59 "_law_told" [v, .str nm, t] S = .ok (.d (told nm v t)) S := by
  have h := s_put 14 36 S hv hdv ht hdt hn hi
  rw [show 14 + 36 + 8 = 58 from rfl] at h
  rw [show (59 : Nat) = 58 + 1 from rfl, R_law_told]
  unfold n_law_told told
  simp only [Pl.runFn, List.length_cons, List.length_nil, Pl.startE_cons, Pl.startE_nil, Pl.repl_succ, List.replicate_zero, Nat.zero_add, Pl.execs, Pl.exec, Pl.evalT, Pl.evalE, Pl.evalVs, Pl.evalP, Pl.evalI, Pl.evalJ, List.getElem?_cons_zero, List.getElem?_cons_succ, Pl.Res.bind_ok, Pl.Res.bind_exc, Pl.Res.bind_stuck, Pl.Res.to_ok, Pl.Res.to_exc, Pl.Res.to_stuck, Pl.Res.calm_ok, Pl.SR.andThen_next, Pl.SR.andThen_ret, Pl.SR.andThen_brk, Pl.SR.andThen_cont, Pl.SR.andThen_exc, Pl.SR.andThen_stuck, Pl.gcE_self, Pl.gcX_self, Pl.optR_some, Pl.optR_none, Pl.EV.val_d, Pl.EV.val_own, Pl.EV.items_own, Pl.EV.items_brw, Pl.EV.items_lst, if_true, if_false, reduceIte, Bool.false_eq_true, Bool.not_true, Bool.not_false, List.set_cons_zero, List.set_cons_succ, Pl.wipeE, List.map_cons, List.map_nil, Pl.setE, Pl.bindT, Pl.bindNames, Nat.zero_lt_succ, Nat.succ_lt_succ_iff, Nat.lt_add_one, Pl.tru_bl, Pl.tru_int, Pl.its_tup, Pl.its_lst, Pl.its_own, Pl.its_brw, Pl.its_str, Pl.enum_tup, Pl.eq_int, Pl.ne_int, Pl.lt_int, Pl.le_int, Pl.gt_int, Pl.ge_int, Pl.add_int, Pl.sub_int, Pl.len_tup, Pl.len_own, Pl.len_brw, Pl.len_lst, Pl.idx_tup, Pl.idx_lst, Pl.idx_own, Pl.idx_brw, Pl.in_dic, Pl.nin_dic, Pl.idx_dic, Pl.is_non, Pl.isn_non, Pl.at_zero, Pl.at_one, sizeLine_eq, Nat.reduceAdd, Nat.reduceLeDiff, h]
  cases c : okP v t with
  | false =>
    simp only [Pl.runFn, List.length_cons, List.length_nil, Pl.startE_cons, Pl.startE_nil, Pl.repl_succ, List.replicate_zero, Nat.zero_add, Pl.execs, Pl.exec, Pl.evalT, Pl.evalE, Pl.evalVs, Pl.evalP, Pl.evalI, Pl.evalJ, List.getElem?_cons_zero, List.getElem?_cons_succ, Pl.Res.bind_ok, Pl.Res.bind_exc, Pl.Res.bind_stuck, Pl.Res.to_ok, Pl.Res.to_exc, Pl.Res.to_stuck, Pl.Res.calm_ok, Pl.SR.andThen_next, Pl.SR.andThen_ret, Pl.SR.andThen_brk, Pl.SR.andThen_cont, Pl.SR.andThen_exc, Pl.SR.andThen_stuck, Pl.gcE_self, Pl.gcX_self, Pl.optR_some, Pl.optR_none, Pl.EV.val_d, Pl.EV.val_own, Pl.EV.items_own, Pl.EV.items_brw, Pl.EV.items_lst, if_true, if_false, reduceIte, Bool.false_eq_true, Bool.not_true, Bool.not_false, List.set_cons_zero, List.set_cons_succ, Pl.wipeE, List.map_cons, List.map_nil, Pl.setE, Pl.bindT, Pl.bindNames, Nat.zero_lt_succ, Nat.succ_lt_succ_iff, Nat.lt_add_one, Pl.tru_bl, Pl.tru_int, Pl.its_tup, Pl.its_lst, Pl.its_own, Pl.its_brw, Pl.its_str, Pl.enum_tup, Pl.eq_int, Pl.ne_int, Pl.lt_int, Pl.le_int, Pl.gt_int, Pl.ge_int, Pl.add_int, Pl.sub_int, Pl.len_tup, Pl.len_own, Pl.len_brw, Pl.len_lst, Pl.idx_tup, Pl.idx_lst, Pl.idx_own, Pl.idx_brw, Pl.in_dic, Pl.nin_dic, Pl.idx_dic, Pl.is_non, Pl.isn_non, Pl.at_zero, Pl.at_one, sizeLine_eq, Nat.reduceAdd, Nat.reduceLeDiff, handle, excs_form, excs_deriv, Bool.and_self, sub_ff, sub_fd, evalX, evalXs, Option.bind_some]
  | true =>
    cases e : ptn nm t 15 v (srt v) with
    | none =>
      simp only [Pl.runFn, List.length_cons, List.length_nil, Pl.startE_cons, Pl.startE_nil, Pl.repl_succ, List.replicate_zero, Nat.zero_add, Pl.execs, Pl.exec, Pl.evalT, Pl.evalE, Pl.evalVs, Pl.evalP, Pl.evalI, Pl.evalJ, List.getElem?_cons_zero, List.getElem?_cons_succ, Pl.Res.bind_ok, Pl.Res.bind_exc, Pl.Res.bind_stuck, Pl.Res.to_ok, Pl.Res.to_exc, Pl.Res.to_stuck, Pl.Res.calm_ok, Pl.SR.andThen_next, Pl.SR.andThen_ret, Pl.SR.andThen_brk, Pl.SR.andThen_cont, Pl.SR.andThen_exc, Pl.SR.andThen_stuck, Pl.gcE_self, Pl.gcX_self, Pl.optR_some, Pl.optR_none, Pl.EV.val_d, Pl.EV.val_own, Pl.EV.items_own, Pl.EV.items_brw, Pl.EV.items_lst, if_true, if_false, reduceIte, Bool.false_eq_true, Bool.not_true, Bool.not_false, List.set_cons_zero, List.set_cons_succ, Pl.wipeE, List.map_cons, List.map_nil, Pl.setE, Pl.bindT, Pl.bindNames, Nat.zero_lt_succ, Nat.succ_lt_succ_iff, Nat.lt_add_one, Pl.tru_bl, Pl.tru_int, Pl.its_tup, Pl.its_lst, Pl.its_own, Pl.its_brw, Pl.its_str, Pl.enum_tup, Pl.eq_int, Pl.ne_int, Pl.lt_int, Pl.le_int, Pl.gt_int, Pl.ge_int, Pl.add_int, Pl.sub_int, Pl.len_tup, Pl.len_own, Pl.len_brw, Pl.len_lst, Pl.idx_tup, Pl.idx_lst, Pl.idx_own, Pl.idx_brw, Pl.in_dic, Pl.nin_dic, Pl.idx_dic, Pl.is_non, Pl.isn_non, Pl.at_zero, Pl.at_one, sizeLine_eq, Nat.reduceAdd, Nat.reduceLeDiff, e, ptR, handle, excs_form, excs_deriv, excs_proof, Bool.and_self, sub_df, sub_dd, sub_dp, evalX, evalXs, Option.bind_some]
    | some y =>
      obtain ⟨sy, dy⟩ := hp c y e
      obtain ⟨ev, r1, r2⟩ := s_law_read 57 y S sy dy
      simp only [Pl.runFn, List.length_cons, List.length_nil, Pl.startE_cons, Pl.startE_nil, Pl.repl_succ, List.replicate_zero, Nat.zero_add, Pl.execs, Pl.exec, Pl.evalT, Pl.evalE, Pl.evalVs, Pl.evalP, Pl.evalI, Pl.evalJ, List.getElem?_cons_zero, List.getElem?_cons_succ, Pl.Res.bind_ok, Pl.Res.bind_exc, Pl.Res.bind_stuck, Pl.Res.to_ok, Pl.Res.to_exc, Pl.Res.to_stuck, Pl.Res.calm_ok, Pl.SR.andThen_next, Pl.SR.andThen_ret, Pl.SR.andThen_brk, Pl.SR.andThen_cont, Pl.SR.andThen_exc, Pl.SR.andThen_stuck, Pl.gcE_self, Pl.gcX_self, Pl.optR_some, Pl.optR_none, Pl.EV.val_d, Pl.EV.val_own, Pl.EV.items_own, Pl.EV.items_brw, Pl.EV.items_lst, if_true, if_false, reduceIte, Bool.false_eq_true, Bool.not_true, Bool.not_false, List.set_cons_zero, List.set_cons_succ, Pl.wipeE, List.map_cons, List.map_nil, Pl.setE, Pl.bindT, Pl.bindNames, Nat.zero_lt_succ, Nat.succ_lt_succ_iff, Nat.lt_add_one, Pl.tru_bl, Pl.tru_int, Pl.its_tup, Pl.its_lst, Pl.its_own, Pl.its_brw, Pl.its_str, Pl.enum_tup, Pl.eq_int, Pl.ne_int, Pl.lt_int, Pl.le_int, Pl.gt_int, Pl.ge_int, Pl.add_int, Pl.sub_int, Pl.len_tup, Pl.len_own, Pl.len_brw, Pl.len_lst, Pl.idx_tup, Pl.idx_lst, Pl.idx_own, Pl.idx_brw, Pl.in_dic, Pl.nin_dic, Pl.idx_dic, Pl.is_non, Pl.isn_non, Pl.at_zero, Pl.at_one, sizeLine_eq, Nat.reduceAdd, Nat.reduceLeDiff, e, ptR, r1, r2]
end K20
end

section
set_option Elab.async false
set_option linter.all false
set_option maxRecDepth 100000
set_option maxHeartbeats 8000000
/-! k20: the law. -/
namespace K20
open PySem hiding exec execs
open L2 Pl
theorem srt_eq {v : D} {b : Bool} (h : wr v (srtB b) = true) : srt v = srtB b := by
  unfold srt
  cases b with
  | false => rw [show wr v "term" = true from h, if_pos rfl]; rfl
  | true =>
    cases q : wr v "term" with
    | false => rw [if_neg Bool.false_ne_true]; rfl
    | true =>
      obtain ⟨w, ss, args, rfl, N, _⟩ := wr_nd (show (Str.ofString "term") ∈ sK by decide +kernel) q
      obtain ⟨w', ss', args', e, N', _⟩ := wr_nd (show (Str.ofString "formula") ∈ sK by decide +kernel) h
      cases e
      have := (row_one (s := "term") (s' := "formula") (by decide +kernel) (by decide +kernel) N.row N'.row).1
      exact absurd this (by decide +kernel)
theorem srtB_tf (b : Bool) : srtB b ∈ tf := by cases b <;> decide +kernel
theorem okP_good {v t : D} {b : Bool} (h : wr v (srtB b) = true) (ht : wr t "term" = true) : okP v t = true := by
  unfold okP
  rw [ht]
  cases b with
  | false => rw [show wr v "term" = true from h]; rfl
  | true => rw [show wr v "formula" = true from h]; simp
theorem okP_bad {v t : D} (h : Bad v) : okP v t = false := by
  unfold okP
  rw [h "term" (by decide +kernel), h "formula" (by decide +kernel)]
  rfl
theorem okP_badT {v t : D} (h : wr t "term" = false) : okP v t = false := by
  unfold okP
  rw [h, Bool.and_false]
theorem told_form {nm : Str} {v t : D} (h : okP v t = false) : told nm v t = .tup [.int 1, .str "form"] := by
  unfold told
  rw [h]
  rfl
theorem nm_facts {z : Str} (h : z ∈ nmL) : sm (.str z) = true ∧ isNm (.str z) = true ∧ okZ z := by
  have q := List.all_eq_true.mp nm_ok z h
  simp only [Bool.and_eq_true] at q
  exact ⟨q.1.1.2, q.2, (sm_str q.1.1.2).1⟩
def pForm : PyData := .tuple [.int 1, .str "form"]
theorem ne_form (S : Sto) : cmpV .NotEq S (.d (.tup [.int 1, .str "form"])) (.d (.tup [.int 1, .str "form"])) = some false := by
  rw [ne_py (p := pForm) (q := pForm) rfl rfl (by decide +kernel) (by decide +kernel)]
  exact congrArg some (by decide +kernel)
theorem ne_self {z : Str} (S : Sto) (h : okZ z) : cmpV .NotEq S (.d (.str z)) (.d (.str z)) = some false := by
  rw [ne_str h h, decide_eq_true rfl]
  rfl
theorem eqt_bad (t : D) : wr (.tup [.str "equal", t, t]) "term" = false := by
  cases q : wr (.tup [.str "equal", t, t]) "term" with
  | false => rfl
  | true =>
    obtain ⟨w, ss, args, e, N, _⟩ := wr_nd (show (Str.ofString "term") ∈ sK by decide +kernel) q
    cases e
    have := N.row
    rw [show rowOf "term" "equal" = none from by decide +kernel] at this
    cases this
theorem val_cases {e : EV} {u : D} (h : e.val = some u) : e = .d u ∨ ∃ xs, e = .own xs ∧ u = .lst xs := by
  cases e with
  | d x => cases h; exact .inl rfl
  | own xs => cases h; exact .inr ⟨xs, rfl, rfl⟩
  | brw xs => cases h
def lB : List LS := match n_law.body with
  | _ :: .forS _ _ b :: _ => b
  | _ => []
theorem law_turn (sc : D) (S : Sto) (hS : BS S) (a2 a3 a4 a5 a6 a7 a8 a9 a10 : Option EV) : ∃ b3 b4 b5 b6 b7 b8 b9 b10 S', Pl.execs gd (R 59) lB [some (.d sc), some (.d (.ref 0)), a2, a3, a4, a5, a6, a7, a8, a9, a10] S = .next [some (.d sc), some (.d (.ref 0)), a2, b3, b4, b5, b6, b7, b8, b9, b10] S' ∧ BS S' := by
  obtain ⟨r, S1, h1, hB1, _, _⟩ := s_law_draw 58 (many := 2) (by decide) (by decide) hS
  obtain ⟨v, S2, h2, hB2, gv⟩ := s_law_thing 4 49 (decide (r = 0)) S1 hB1
  obtain ⟨t, S3, h3, hB3, gt⟩ := s_law_thing 2 51 false S2 hB2
  obtain ⟨nm, S4, h4, hB4, mn⟩ := s_law_name 57 hB3
  obtain ⟨n1, n2, n3⟩ := nm_facts mn
  have wt : wr t "term" = true := gt.w
  have hvt := srt_eq gv.w
  have dv : dep v ≤ 8 := gv.d
  have dt : dep t ≤ 6 := gt.d
  have zv : sz v ≤ 88100 := gv.z
  have zt : sz t ≤ 8900 := gt.z
  have nv : nml v ≤ 401 := gv.n
  obtain ⟨kz, hk, okk⟩ := repr_own S4 (xs := [v, t]) (by rw [gws, gws, gv.g, gt.g]; rfl) (by rw [deps, deps, deps]; omega) (by rw [szs, szs, szs]; omega)
  obtain ⟨fl, ef, f1, f2, f3, f4, f5⟩ := s_law_free 43 14 t "term" S4 (Nat.le_refl _) gt.s (by omega) (by decide +kernel) wt
  have fv : ef.val = some (.lst (fl.map D.str)) := by rcases f2 with rfl | rfl <;> rfl
  have tt : ∃ xs, t = .tup xs := by
    obtain ⟨w, ss, args, e, _⟩ := wr_nd (show (Str.ofString "term") ∈ sK by decide +kernel) wt
    exact ⟨_, e⟩
  have vt : ∃ xs, v = .tup xs := by
    obtain ⟨w, ss, args, e, _⟩ := wr_nd (srtB_sK _) gv.w
    exact ⟨_, e⟩
  have hput := s_law_put 42 n3 tt f3 f5 14 v (srtB (decide (r = 0))) S4 (Nat.le_refl _) gv.s (by omega) (srtB_tf _) gv.w
  have hrl : ∀ y, ptn nm t 15 v (srtB (decide (r = 0))) = some y → Rl t v y := fun y hy => ptn_rel gt.s gt.g 15 v _ y (srtB_tf _) gv.s gv.g gv.w hy
  have htold := s_law_told S4 gv.s (by omega) gt.s (by omega) n1 n2 (fun _ y hy => by
    rw [hvt] at hy
    have := hrl y hy
    exact ⟨this.s, by have := this.d; omega⟩)
  obtain ⟨eu, u, S5, h5, hu5, hB5, bu⟩ := s_law_broken 48 8 v (srtB (decide (r = 0))) S4 hB4 gv.s (by omega) (srtB_tf _) gv.w
  obtain ⟨eu', u', S6, h6, hu6, hB6, bu'⟩ := s_law_broken 48 8 t "term" S5 hB5 gt.s (by omega) (by decide +kernel) wt
  have o1 : okP u t = false := okP_bad bu.b
  have o2 : okP v u' = false := okP_badT (bu'.b "term" (by decide +kernel))
  have o3 : okP v (.tup [.str "equal", t, t]) = false := okP_badT (eqt_bad t)
  have h7 := s_law_told (nm := nm) (v := u) (t := t) S5 bu.s (by have := bu.d; omega) gt.s (by omega) n1 n2 (fun h => by rw [o1] at h; cases h)
  have h8 := s_law_told (nm := nm) (v := v) (t := u') S6 gv.s (by omega) bu'.s (by have := bu'.d; omega) n1 n2 (fun h => by rw [o2] at h; cases h)
  have h9 := s_law_told (nm := nm) (v := v) (t := .tup [.str "equal", t, t]) S6 gv.s (by omega) (by
    rw [sm, sms, sms, sms, gt.s]; exact Bool.and_eq_true_iff.mpr ⟨decide_eq_true (by simp), by decide +kernel⟩) (by
    rw [dep, deps, deps, deps, deps]
    have : dep (.str "equal") = 0 := rfl
    omega) n1 n2 (fun h => by rw [o3] at h; cases h)
  rw [told_form o1] at h7
  rw [told_form o2] at h8
  rw [told_form o3] at h9
  rw [show (49 + 4 + 6 : Nat) = 59 from rfl] at h2
  rw [show (51 + 2 + 6 : Nat) = 59 from rfl] at h3
  rw [show ((4 : Nat) : Int) = 4 from rfl] at h2
  rw [show ((2 : Nat) : Int) = 2 from rfl] at h3
  rw [show (58 + 1 : Nat) = 59 from rfl] at h1
  rw [show (57 + 2 : Nat) = 59 from rfl] at h4
  rw [show (14 + 43 + 2 : Nat) = 59 from rfl] at f1
  rw [show (14 + 42 + 3 : Nat) = 59 from rfl] at hput
  rw [show (8 + 48 + 3 : Nat) = 59 from rfl] at h5 h6
  have hr2 := repr_own S4 (xs := [v, t]) (by rw [gws, gws, gv.g, gt.g]; rfl) (by rw [deps, deps, deps]; omega) (by rw [szs, szs, szs]; omega)
  unfold lB n_law
  simp only []
  unfold told at htold
  rw [okP_good gv.w wt, if_pos rfl, hvt] at htold
  cases e : ptn nm t 15 v (srtB (decide (r = 0))) with
  | none =>
    rw [e] at hput htold
    obtain ⟨z, hz, oz⟩ := repr_tup S4 (xs := [.int 1, .str "refused"]) (by decide +kernel) (by decide +kernel) (by decide +kernel)
    rcases val_cases hu5 with rfl | ⟨us, rfl, rfl⟩
    · simp only [Pl.runFn, List.length_cons, List.length_nil, Pl.startE_cons, Pl.startE_nil, Pl.repl_succ, List.replicate_zero, Nat.zero_add, Pl.execs, Pl.exec, Pl.evalT, Pl.evalE, Pl.evalVs, Pl.evalP, Pl.evalI, Pl.evalJ, List.getElem?_cons_zero, List.getElem?_cons_succ, Pl.Res.bind_ok, Pl.Res.bind_exc, Pl.Res.bind_stuck, Pl.Res.to_ok, Pl.Res.to_exc, Pl.Res.to_stuck, Pl.Res.calm_ok, Pl.SR.andThen_next, Pl.SR.andThen_ret, Pl.SR.andThen_brk, Pl.SR.andThen_cont, Pl.SR.andThen_exc, Pl.SR.andThen_stuck, Pl.gcE_self, Pl.gcX_self, Pl.optR_some, Pl.optR_none, Pl.EV.val_d, Pl.EV.val_own, Pl.EV.items_own, Pl.EV.items_brw, Pl.EV.items_lst, if_true, if_false, reduceIte, Bool.false_eq_true, Bool.not_true, Bool.not_false, List.set_cons_zero, List.set_cons_succ, Pl.wipeE, List.map_cons, List.map_nil, Pl.setE, Pl.bindT, Pl.bindNames, Nat.zero_lt_succ, Nat.succ_lt_succ_iff, Nat.lt_add_one, Pl.tru_bl, Pl.tru_int, Pl.its_tup, Pl.its_lst, Pl.its_own, Pl.its_brw, Pl.its_str, Pl.enum_tup, Pl.eq_int, Pl.ne_int, Pl.lt_int, Pl.le_int, Pl.gt_int, Pl.ge_int, Pl.add_int, Pl.sub_int, Pl.len_tup, Pl.len_own, Pl.len_brw, Pl.len_lst, Pl.idx_tup, Pl.idx_lst, Pl.idx_own, Pl.idx_brw, Pl.in_dic, Pl.nin_dic, Pl.idx_dic, Pl.is_non, Pl.isn_non, Pl.at_zero, Pl.at_one, sizeLine_eq, Nat.reduceAdd, Nat.reduceLeDiff, h1, h2, h3, h4, hk, f1, fv, hput, Option.getD_none, htold, decide_true, hz, ne_self S4 oz, ne_self S4 okk, h5, h7, ne_form, h6, hu6, h8, h9]
      exact ⟨_, _, _, _, _, _, _, _, S6, rfl, hB6⟩
    · simp only [Pl.runFn, List.length_cons, List.length_nil, Pl.startE_cons, Pl.startE_nil, Pl.repl_succ, List.replicate_zero, Nat.zero_add, Pl.execs, Pl.exec, Pl.evalT, Pl.evalE, Pl.evalVs, Pl.evalP, Pl.evalI, Pl.evalJ, List.getElem?_cons_zero, List.getElem?_cons_succ, Pl.Res.bind_ok, Pl.Res.bind_exc, Pl.Res.bind_stuck, Pl.Res.to_ok, Pl.Res.to_exc, Pl.Res.to_stuck, Pl.Res.calm_ok, Pl.SR.andThen_next, Pl.SR.andThen_ret, Pl.SR.andThen_brk, Pl.SR.andThen_cont, Pl.SR.andThen_exc, Pl.SR.andThen_stuck, Pl.gcE_self, Pl.gcX_self, Pl.optR_some, Pl.optR_none, Pl.EV.val_d, Pl.EV.val_own, Pl.EV.items_own, Pl.EV.items_brw, Pl.EV.items_lst, if_true, if_false, reduceIte, Bool.false_eq_true, Bool.not_true, Bool.not_false, List.set_cons_zero, List.set_cons_succ, Pl.wipeE, List.map_cons, List.map_nil, Pl.setE, Pl.bindT, Pl.bindNames, Nat.zero_lt_succ, Nat.succ_lt_succ_iff, Nat.lt_add_one, Pl.tru_bl, Pl.tru_int, Pl.its_tup, Pl.its_lst, Pl.its_own, Pl.its_brw, Pl.its_str, Pl.enum_tup, Pl.eq_int, Pl.ne_int, Pl.lt_int, Pl.le_int, Pl.gt_int, Pl.ge_int, Pl.add_int, Pl.sub_int, Pl.len_tup, Pl.len_own, Pl.len_brw, Pl.len_lst, Pl.idx_tup, Pl.idx_lst, Pl.idx_own, Pl.idx_brw, Pl.in_dic, Pl.nin_dic, Pl.idx_dic, Pl.is_non, Pl.isn_non, Pl.at_zero, Pl.at_one, sizeLine_eq, Nat.reduceAdd, Nat.reduceLeDiff, h1, h2, h3, h4, hk, f1, fv, hput, Option.getD_none, htold, decide_true, hz, ne_self S4 oz, ne_self S4 okk, h5, h7, ne_form, h6, hu6, h8, h9]
      exact ⟨_, _, _, _, _, _, _, _, S6, rfl, hB6⟩
  | some y =>
    rw [e] at hput htold
    have q := hrl y e
    obtain ⟨ys, rfl⟩ := ptn_ne tt 15 vt e
    obtain ⟨z, hz, oz⟩ := repr_tup S4 (xs := [.int 0, .tup ys]) (by rw [gws, gws, q.g]; decide +kernel) (by
      rw [deps, deps, deps]
      have := q.d
      have : dep (.int 0) = 0 := rfl
      omega) (by
      rw [szs, szs, szs]
      have h1 := q.z
      have : nml v * sz t ≤ 401 * 8900 := Nat.mul_le_mul nv zt
      have : sz (.int 0) = 30 := rfl
      omega)
    rcases val_cases hu5 with rfl | ⟨us, rfl, rfl⟩
    · simp only [Pl.runFn, List.length_cons, List.length_nil, Pl.startE_cons, Pl.startE_nil, Pl.repl_succ, List.replicate_zero, Nat.zero_add, Pl.execs, Pl.exec, Pl.evalT, Pl.evalE, Pl.evalVs, Pl.evalP, Pl.evalI, Pl.evalJ, List.getElem?_cons_zero, List.getElem?_cons_succ, Pl.Res.bind_ok, Pl.Res.bind_exc, Pl.Res.bind_stuck, Pl.Res.to_ok, Pl.Res.to_exc, Pl.Res.to_stuck, Pl.Res.calm_ok, Pl.SR.andThen_next, Pl.SR.andThen_ret, Pl.SR.andThen_brk, Pl.SR.andThen_cont, Pl.SR.andThen_exc, Pl.SR.andThen_stuck, Pl.gcE_self, Pl.gcX_self, Pl.optR_some, Pl.optR_none, Pl.EV.val_d, Pl.EV.val_own, Pl.EV.items_own, Pl.EV.items_brw, Pl.EV.items_lst, if_true, if_false, reduceIte, Bool.false_eq_true, Bool.not_true, Bool.not_false, List.set_cons_zero, List.set_cons_succ, Pl.wipeE, List.map_cons, List.map_nil, Pl.setE, Pl.bindT, Pl.bindNames, Nat.zero_lt_succ, Nat.succ_lt_succ_iff, Nat.lt_add_one, Pl.tru_bl, Pl.tru_int, Pl.its_tup, Pl.its_lst, Pl.its_own, Pl.its_brw, Pl.its_str, Pl.enum_tup, Pl.eq_int, Pl.ne_int, Pl.lt_int, Pl.le_int, Pl.gt_int, Pl.ge_int, Pl.add_int, Pl.sub_int, Pl.len_tup, Pl.len_own, Pl.len_brw, Pl.len_lst, Pl.idx_tup, Pl.idx_lst, Pl.idx_own, Pl.idx_brw, Pl.in_dic, Pl.nin_dic, Pl.idx_dic, Pl.is_non, Pl.isn_non, Pl.at_zero, Pl.at_one, sizeLine_eq, Nat.reduceAdd, Nat.reduceLeDiff, h1, h2, h3, h4, hk, f1, fv, hput, Option.getD_some, htold, EV.d.injEq, reduceCtorEq, decide_false, hz, ne_self S4 oz, ne_self S4 okk, h5, h7, ne_form, h6, hu6, h8, h9]
      exact ⟨_, _, _, _, _, _, _, _, S6, rfl, hB6⟩
    · simp only [Pl.runFn, List.length_cons, List.length_nil, Pl.startE_cons, Pl.startE_nil, Pl.repl_succ, List.replicate_zero, Nat.zero_add, Pl.execs, Pl.exec, Pl.evalT, Pl.evalE, Pl.evalVs, Pl.evalP, Pl.evalI, Pl.evalJ, List.getElem?_cons_zero, List.getElem?_cons_succ, Pl.Res.bind_ok, Pl.Res.bind_exc, Pl.Res.bind_stuck, Pl.Res.to_ok, Pl.Res.to_exc, Pl.Res.to_stuck, Pl.Res.calm_ok, Pl.SR.andThen_next, Pl.SR.andThen_ret, Pl.SR.andThen_brk, Pl.SR.andThen_cont, Pl.SR.andThen_exc, Pl.SR.andThen_stuck, Pl.gcE_self, Pl.gcX_self, Pl.optR_some, Pl.optR_none, Pl.EV.val_d, Pl.EV.val_own, Pl.EV.items_own, Pl.EV.items_brw, Pl.EV.items_lst, if_true, if_false, reduceIte, Bool.false_eq_true, Bool.not_true, Bool.not_false, List.set_cons_zero, List.set_cons_succ, Pl.wipeE, List.map_cons, List.map_nil, Pl.setE, Pl.bindT, Pl.bindNames, Nat.zero_lt_succ, Nat.succ_lt_succ_iff, Nat.lt_add_one, Pl.tru_bl, Pl.tru_int, Pl.its_tup, Pl.its_lst, Pl.its_own, Pl.its_brw, Pl.its_str, Pl.enum_tup, Pl.eq_int, Pl.ne_int, Pl.lt_int, Pl.le_int, Pl.gt_int, Pl.ge_int, Pl.add_int, Pl.sub_int, Pl.len_tup, Pl.len_own, Pl.len_brw, Pl.len_lst, Pl.idx_tup, Pl.idx_lst, Pl.idx_own, Pl.idx_brw, Pl.in_dic, Pl.nin_dic, Pl.idx_dic, Pl.is_non, Pl.isn_non, Pl.at_zero, Pl.at_one, sizeLine_eq, Nat.reduceAdd, Nat.reduceLeDiff, h1, h2, h3, h4, hk, f1, fv, hput, Option.getD_some, htold, EV.d.injEq, reduceCtorEq, decide_false, hz, ne_self S4 oz, ne_self S4 okk, h5, h7, ne_form, h6, hu6, h8, h9]
      exact ⟨_, _, _, _, _, _, _, _, S6, rfl, hB6⟩
theorem rng4 : rngD 0 (4 : Int).toNat = [.int 0, .int 1, .int 2, .int 3] := by decide +kernel
theorem ans : Ans := by
  intro ns _ _
  obtain ⟨a, b, hst, ha, hb, hb2⟩ := s_law_stream 57 ns []
  rw [show (57 + 2 : Nat) = 59 from rfl] at hst
  have hB : BS [.lst [.int a, .int b]] := ⟨a, b, rfl, ha, hb, hb2⟩
  show ∃ S, R 60 "law" [.lst (ns.map D.int)] [] = .ok (.d (.bl true)) S
  rw [show (60 : Nat) = 59 + 1 from rfl, R_law]
  unfold runFn
  rw [if_pos (by rfl)]
  rw [show n_law.body = [.set (.name 1) (.share (.call "_law_stream" [(.var 0), (.cst (.int 0))])), .forS (.name 2) (.rng1 (.cst (.int 4))) lB, .ret (.cst (.bl true))] from rfl]
  rw [show startE n_law.N [D.lst (ns.map D.int)] = [some (.d (.lst (ns.map D.int))), none, none, none, none, none, none, none, none, none, none] from rfl]
  generalize hl : lB = body
  simp only [Pl.runFn, List.length_cons, List.length_nil, Pl.startE_cons, Pl.startE_nil, Pl.repl_succ, List.replicate_zero, Nat.zero_add, Pl.execs, Pl.exec, Pl.evalT, Pl.evalE, Pl.evalVs, Pl.evalP, Pl.evalI, Pl.evalJ, List.getElem?_cons_zero, List.getElem?_cons_succ, Pl.Res.bind_ok, Pl.Res.bind_exc, Pl.Res.bind_stuck, Pl.Res.to_ok, Pl.Res.to_exc, Pl.Res.to_stuck, Pl.Res.calm_ok, Pl.SR.andThen_next, Pl.SR.andThen_ret, Pl.SR.andThen_brk, Pl.SR.andThen_cont, Pl.SR.andThen_exc, Pl.SR.andThen_stuck, Pl.gcE_self, Pl.gcX_self, Pl.optR_some, Pl.optR_none, Pl.EV.val_d, Pl.EV.val_own, Pl.EV.items_own, Pl.EV.items_brw, Pl.EV.items_lst, if_true, if_false, reduceIte, Bool.false_eq_true, Bool.not_true, Bool.not_false, List.set_cons_zero, List.set_cons_succ, Pl.wipeE, List.map_cons, List.map_nil, Pl.setE, Pl.bindT, Pl.bindNames, Nat.zero_lt_succ, Nat.succ_lt_succ_iff, Nat.lt_add_one, Pl.tru_bl, Pl.tru_int, Pl.its_tup, Pl.its_lst, Pl.its_own, Pl.its_brw, Pl.its_str, Pl.enum_tup, Pl.eq_int, Pl.ne_int, Pl.lt_int, Pl.le_int, Pl.gt_int, Pl.ge_int, Pl.add_int, Pl.sub_int, Pl.len_tup, Pl.len_own, Pl.len_brw, Pl.len_lst, Pl.idx_tup, Pl.idx_lst, Pl.idx_own, Pl.idx_brw, Pl.in_dic, Pl.nin_dic, Pl.idx_dic, Pl.is_non, Pl.isn_non, Pl.at_zero, Pl.at_one, sizeLine_eq, Nat.reduceAdd, Nat.reduceLeDiff, hst, List.nil_append, rng4]
  rw [if_pos (by decide)]
  simp only [Pl.runFn, List.length_cons, List.length_nil, Pl.startE_cons, Pl.startE_nil, Pl.repl_succ, List.replicate_zero, Nat.zero_add, Pl.execs, Pl.exec, Pl.evalT, Pl.evalE, Pl.evalVs, Pl.evalP, Pl.evalI, Pl.evalJ, List.getElem?_cons_zero, List.getElem?_cons_succ, Pl.Res.bind_ok, Pl.Res.bind_exc, Pl.Res.bind_stuck, Pl.Res.to_ok, Pl.Res.to_exc, Pl.Res.to_stuck, Pl.Res.calm_ok, Pl.SR.andThen_next, Pl.SR.andThen_ret, Pl.SR.andThen_brk, Pl.SR.andThen_cont, Pl.SR.andThen_exc, Pl.SR.andThen_stuck, Pl.gcE_self, Pl.gcX_self, Pl.optR_some, Pl.optR_none, Pl.EV.val_d, Pl.EV.val_own, Pl.EV.items_own, Pl.EV.items_brw, Pl.EV.items_lst, if_true, if_false, reduceIte, Bool.false_eq_true, Bool.not_true, Bool.not_false, List.set_cons_zero, List.set_cons_succ, Pl.wipeE, List.map_cons, List.map_nil, Pl.setE, Pl.bindT, Pl.bindNames, Nat.zero_lt_succ, Nat.succ_lt_succ_iff, Nat.lt_add_one, Pl.tru_bl, Pl.tru_int, Pl.its_tup, Pl.its_lst, Pl.its_own, Pl.its_brw, Pl.its_str, Pl.enum_tup, Pl.eq_int, Pl.ne_int, Pl.lt_int, Pl.le_int, Pl.gt_int, Pl.ge_int, Pl.add_int, Pl.sub_int, Pl.len_tup, Pl.len_own, Pl.len_brw, Pl.len_lst, Pl.idx_tup, Pl.idx_lst, Pl.idx_own, Pl.idx_brw, Pl.in_dic, Pl.nin_dic, Pl.idx_dic, Pl.is_non, Pl.isn_non, Pl.at_zero, Pl.at_one, sizeLine_eq, Nat.reduceAdd, Nat.reduceLeDiff, rng4]
  generalize hf : forLoop _ _ _ _ _ = r
  have hq : ∃ ρ S', r = .next ρ S' ∧ BS S' := by
    rw [← hf]
    refine for_inv (fun xs ρ S => BS S ∧ ∃ a2 a3 a4 a5 a6 a7 a8 a9 a10, ρ = [some (.d (.lst (ns.map D.int))), some (.d (.ref 0)), a2, a3, a4, a5, a6, a7, a8, a9, a10])
      (fun r => ∃ ρ S', r = .next ρ S' ∧ BS S') _ _ _ ⟨hB, _, _, _, _, _, _, _, _, _, rfl⟩ (fun _ _ _ _ => rfl) ?_ ?_
    · rintro ρ S ⟨hB, _⟩
      exact ⟨ρ, S, rfl, hB⟩
    · rintro x xs ρ S ⟨hB, a2, a3, a4, a5, a6, a7, a8, a9, a10, rfl⟩
      obtain ⟨b3, b4, b5, b6, b7, b8, b9, b10, S', e, hB'⟩ := law_turn (.lst (ns.map D.int)) S hB (some (.d x)) a3 a4 a5 a6 a7 a8 a9 a10
      rw [hl] at e
      simp only [Pl.runFn, List.length_cons, List.length_nil, Pl.startE_cons, Pl.startE_nil, Pl.repl_succ, List.replicate_zero, Nat.zero_add, Pl.execs, Pl.exec, Pl.evalT, Pl.evalE, Pl.evalVs, Pl.evalP, Pl.evalI, Pl.evalJ, List.getElem?_cons_zero, List.getElem?_cons_succ, Pl.Res.bind_ok, Pl.Res.bind_exc, Pl.Res.bind_stuck, Pl.Res.to_ok, Pl.Res.to_exc, Pl.Res.to_stuck, Pl.Res.calm_ok, Pl.SR.andThen_next, Pl.SR.andThen_ret, Pl.SR.andThen_brk, Pl.SR.andThen_cont, Pl.SR.andThen_exc, Pl.SR.andThen_stuck, Pl.gcE_self, Pl.gcX_self, Pl.optR_some, Pl.optR_none, Pl.EV.val_d, Pl.EV.val_own, Pl.EV.items_own, Pl.EV.items_brw, Pl.EV.items_lst, if_true, if_false, reduceIte, Bool.false_eq_true, Bool.not_true, Bool.not_false, List.set_cons_zero, List.set_cons_succ, Pl.wipeE, List.map_cons, List.map_nil, Pl.setE, Pl.bindT, Pl.bindNames, Nat.zero_lt_succ, Nat.succ_lt_succ_iff, Nat.lt_add_one, Pl.tru_bl, Pl.tru_int, Pl.its_tup, Pl.its_lst, Pl.its_own, Pl.its_brw, Pl.its_str, Pl.enum_tup, Pl.eq_int, Pl.ne_int, Pl.lt_int, Pl.le_int, Pl.gt_int, Pl.ge_int, Pl.add_int, Pl.sub_int, Pl.len_tup, Pl.len_own, Pl.len_brw, Pl.len_lst, Pl.idx_tup, Pl.idx_lst, Pl.idx_own, Pl.idx_brw, Pl.in_dic, Pl.nin_dic, Pl.idx_dic, Pl.is_non, Pl.isn_non, Pl.at_zero, Pl.at_one, sizeLine_eq, Nat.reduceAdd, Nat.reduceLeDiff]
      exact .inl ⟨_, S', e, hB', _, _, _, _, _, _, _, _, _, rfl⟩
  obtain ⟨ρ, S', rfl, hB'⟩ := hq
  simp only [Pl.runFn, List.length_cons, List.length_nil, Pl.startE_cons, Pl.startE_nil, Pl.repl_succ, List.replicate_zero, Nat.zero_add, Pl.execs, Pl.exec, Pl.evalT, Pl.evalE, Pl.evalVs, Pl.evalP, Pl.evalI, Pl.evalJ, List.getElem?_cons_zero, List.getElem?_cons_succ, Pl.Res.bind_ok, Pl.Res.bind_exc, Pl.Res.bind_stuck, Pl.Res.to_ok, Pl.Res.to_exc, Pl.Res.to_stuck, Pl.Res.calm_ok, Pl.SR.andThen_next, Pl.SR.andThen_ret, Pl.SR.andThen_brk, Pl.SR.andThen_cont, Pl.SR.andThen_exc, Pl.SR.andThen_stuck, Pl.gcE_self, Pl.gcX_self, Pl.optR_some, Pl.optR_none, Pl.EV.val_d, Pl.EV.val_own, Pl.EV.items_own, Pl.EV.items_brw, Pl.EV.items_lst, if_true, if_false, reduceIte, Bool.false_eq_true, Bool.not_true, Bool.not_false, List.set_cons_zero, List.set_cons_succ, Pl.wipeE, List.map_cons, List.map_nil, Pl.setE, Pl.bindT, Pl.bindNames, Nat.zero_lt_succ, Nat.succ_lt_succ_iff, Nat.lt_add_one, Pl.tru_bl, Pl.tru_int, Pl.its_tup, Pl.its_lst, Pl.its_own, Pl.its_brw, Pl.its_str, Pl.enum_tup, Pl.eq_int, Pl.ne_int, Pl.lt_int, Pl.le_int, Pl.gt_int, Pl.ge_int, Pl.add_int, Pl.sub_int, Pl.len_tup, Pl.len_own, Pl.len_brw, Pl.len_lst, Pl.idx_tup, Pl.idx_lst, Pl.idx_own, Pl.idx_brw, Pl.in_dic, Pl.nin_dic, Pl.idx_dic, Pl.is_non, Pl.isn_non, Pl.at_zero, Pl.at_one, sizeLine_eq, Nat.reduceAdd, Nat.reduceLeDiff]
  unfold gcE
  split <;> exact ⟨_, rfl⟩
end K20
end

section
open PySem PySem.W PySem.Calls PyProof.Rows
theorem PySem.Challenge.cw_prooforplace_k20_terms_put_in_holds : PySem.Challenge.rw_prooforplace_k20_terms_put_in.Holds := by
  exact PySem.Challenge.k20_from K20.ans
end
