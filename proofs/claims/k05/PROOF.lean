import PyProof.Rows.All
import Wide.All
import OpenK.AllK
import Wide.FinOn
import HandS.ForMost
import HandS.Exc
import HandS.Nested
import HandS.TupAny
import HandS.IsInst
import HandS.Wide
import HandS.Text
import HandS.Dict
import HandS.ExcField
import KE.KExcSuper
import HandS.ExcInit
import HandS.Iter
import HandS.Small
import HandS.ExcValue
import HandS.Style
import HandS.Defaults
import HandS.HeadHook2
import HandS.EndTab
import KE.KStateDown
import HandS.Head2
import HandS.Words
import PySem.Challenge.RW_downtogates_k05_whole_types_of_programs
import HandS.HeadWalk
set_option Elab.async false
set_option linter.all false
set_option maxRecDepth 100000
section
/-! M1: a small language (values, terms, statements) and its meaning. -/
namespace Mi
open PySem

/-! ### values, objects, results -/
inductive D where
  | non | bl (b : Bool) | int (i : Int) | str (x : Str)
  | tup (xs : List D)
  | lst (xs : List D)
  /-- a list of others, read alone -/
  | flst (xs : List D)
  | dic (ks : List L2.Key) (vs : List D)
  | ref (n : Nat)
  | fn (g : Nat)
  deriving Inhabited

inductive MO where
  | lst (xs : List D)
  | dic (ks : List L2.Key) (vs : List D)
  | ins (C : Nat) (fs : List (Str × D))
  deriving Inhabited

abbrev Hm := List MO

inductive Res (α : Type) where
  | ok (a : α) (M : Hm)
  | exc (c : Nat) (v : D) (M : Hm)
  | bad

def Res.bind {α β : Type} (r : Res α) (f : α → Hm → Res β) : Res β :=
  match r with
  | .ok a M => f a M
  | .exc c v M => .exc c v M
  | .bad => .bad
@[simp] theorem Res.bind_ok {α β : Type} (a : α) (M : Hm) (f : α → Hm → Res β) : (Res.ok a M).bind f = f a M := rfl
@[simp] theorem Res.bind_exc {α β : Type} (c : Nat) (v : D) (M : Hm) (f : α → Hm → Res β) : (Res.exc c v M : Res α).bind f = .exc c v M := rfl
@[simp] theorem Res.bind_bad {α β : Type} (f : α → Hm → Res β) : (Res.bad : Res α).bind f = .bad := rfl

def lift {α : Type} (o : Option α) (M : Hm) : Res α := match o with | some a => .ok a M | none => .bad
@[simp] theorem lift_some {α : Type} (a : α) (M : Hm) : lift (some a) M = .ok a M := rfl
@[simp] theorem lift_none {α : Type} (M : Hm) : lift (none : Option α) M = .bad := rfl

abbrev Env := List (Option D)
inductive SR where
  | nxt (σ : Env) (M : Hm)
  | ret (d : D) (M : Hm)
  | brk (σ : Env) (M : Hm)
  | cnt (σ : Env) (M : Hm)
  | exc (c : Nat) (v : D) (σ : Env) (M : Hm)
  | bad
def SR.andThen (r : SR) (f : Env → Hm → SR) : SR := match r with
  | .nxt σ M => f σ M
  | r => r
/-- an expression's result, in a statement over σ -/
def Res.st {α : Type} (r : Res α) (σ : Env) (f : α → Hm → SR) : SR := match r with
  | .ok a M => f a M
  | .exc c v M => .exc c v σ M
  | .bad => .bad
/-- a store's result: it raises nothing -/
def Res.put (r : Res Env) (f : Env → Hm → SR) : SR := match r with
  | .ok a M => f a M
  | _ => .bad
def Res.use {α : Type} (r : Res Env) (f : Env → Hm → Res α) : Res α := match r with
  | .ok a M => f a M
  | _ => .bad
@[simp] theorem Res.use_ok {α : Type} (a : Env) (M : Hm) (f : Env → Hm → Res α) : (Res.ok a M : Res Env).use f = f a M := rfl
@[simp] theorem Res.put_ok (a : Env) (M : Hm) (f : Env → Hm → SR) : (Res.ok a M : Res Env).put f = f a M := rfl
@[simp] theorem Res.st_ok {α : Type} (a : α) (M : Hm) (σ : Env) (f : α → Hm → SR) : (Res.ok a M).st σ f = f a M := rfl
@[simp] theorem Res.st_exc {α : Type} (c : Nat) (v : D) (M : Hm) (σ : Env) (f : α → Hm → SR) : (Res.exc c v M : Res α).st σ f = .exc c v σ M := rfl
@[simp] theorem Res.st_bad {α : Type} (σ : Env) (f : α → Hm → SR) : (Res.bad : Res α).st σ f = .bad := rfl

/-! ### syntax -/
inductive BOp where | add | sub | mul | fdiv | mod | pow | shl | shr | band | bor | bxor
  deriving DecidableEq
inductive UOp where | neg | inv
  deriving DecidableEq
inductive COp where | eq | ne | lt | le | gt | ge | is | isnot | isin | notin
  deriving DecidableEq
inductive Ty where | int | bool | str | tuple | list | dict | cls (C : Nat)
  deriving DecidableEq
/-- built-in functions -/
inductive Bi where | len | abs | int | bool | sum | all | any | tuple | list | dict | max | min
  deriving DecidableEq
/-- built-in methods -/
inductive Bm where | append | pop | get
  deriving DecidableEq

mutual
inductive ME where
  | cst (d : D)
  | var (i : Nat)
  | glc (x : Str) (d : D)
  | fnv (g : Nat)
  | tup (es : MEs)
  | lst (h : Bool) (es : MEs)
  | bin (o : BOp) (h : Bool) (a b : ME)
  | un (o : UOp) (a : ME)
  | cmp (o : COp) (a b : ME)
  | chn (o p : COp) (a b c : ME)
  | bop (isAnd : Bool) (es : MEs)
  | not (a : ME)
  | ife (t : MQ) (a b : ME)
  | ix (a b : ME)
  | sl (h : Bool) (a : ME) (lo hi : MP)
  | call (g : Nat) (es : MEs)
  | callv (i : Nat) (es : MEs)
  | make (C : Nat) (es : MEs)
  | meth (m : Str) (o : ME) (es : MEs)
  | fld (f : Str) (o : ME)
  | bi (b : Bi) (h : Bool) (es : MEs)
  | bm (b : Bm) (o : ME) (es : MEs)
  | isi (a : ME) (ts : List Ty)
  | lc (h : Bool) (elt : ME) (tg : MT) (it : MI) (ifs : MQs) (own : List Nat)
  | dsp (h : Bool) (kvs : MKs)
  | lam (nps : Nat) (caps : List Nat) (N : List Str) (body : ME)
  | exp (s : Nat)
inductive MEs where
  | nil
  | cons (e : ME) (es : MEs)
/-- pairs of a dict display -/
inductive MKs where
  | nil
  | cons (k v : ME) (r : MKs)
/-- an optional part of a slice -/
inductive MP where
  | no
  | some (e : ME)
/-- tests -/
inductive MQ where
  | val (e : ME)
  | cmp (o : COp) (a b : ME)
  | chn (o p : COp) (a b c : ME)
  | not (t : MQ)
  | bop (isAnd : Bool) (ts : MQs)
  | ife (t a b : MQ)
inductive MQs where
  | nil
  | cons (t : MQ) (ts : MQs)
inductive MT where
  | nm (i : Nat)
  | tp (ts : MTs)
  | sb (o i : ME)
  | at (f : Str) (o : ME)
inductive MTs where
  | nil
  | cons (t : MT) (ts : MTs)
inductive MI where
  | val (e : ME)
  | rng1 (e : ME)
  | rng2 (a b : ME)
end

mutual
inductive MS where
  | expr (e : ME)
  | asg (t : MT) (e : ME)
  | par (is : List Nat) (es : MEs)
  | aug (o : BOp) (i : Nat) (e : ME)
  | augf (o : BOp) (f : Str) (a e : ME)
  | augs (o : BOp) (a b e : ME)
  | ife (t : MQ) (a b : MSs)
  | whl (t : MQ) (b : MSs)
  | fr (t : MT) (it : MI) (b : MSs)
  | ret (e : ME)
  | retn
  | rse (c : Nat) (e : ME)
  | tr (b : MSs) (hs : MHs)
  | brk | cnt | pas
inductive MSs where
  | nil
  | cons (s : MS) (ss : MSs)
/-- except clauses: the class, the slot of the name (if there is one), what is returned -/
inductive MHs where
  | nil
  | cons (c : Nat) (s : Option Nat) (e : ME) (hs : MHs)
end

/-- a closure: how many parameters, the captured values, the body -/
structure CloD where
  nps : Nat
  caps : Env
  size : Nat
  body : ME

structure Fn where
  np : Nat
  N : List Str
  defs : List D
  body : MSs
structure Cls where
  init : Option Nat
  meths : List (Str × Nat)
  own : List Str
structure Prg where
  fns : List Fn
  clss : List Cls
  csts : List (Str × D)
  /-- exception classes: below c h -/
  below : Nat → Nat → Bool
  /-- how many -/
  exs : Nat
  fuel : Nat

structure Rt where
  call : Nat → List (Option D) → List (Nat × CloD) → Hm → Res D
  make : Nat → List D → Hm → Res D
  clo : CloD → List D → Hm → Res D

/-! ### operations -/
abbrev szOk (n : Nat) : Bool := decide (n ≤ 16777216)
def num64 (i : Int) : Bool := decide (-(2 ^ 64) < i) && decide (i < 2 ^ 64)
/-- a list's or a tuple's items, an object's too -/
def items? (M : Hm) : D → Option (List D)
  | .tup xs => some xs
  | .lst xs => some xs
  | .flst xs => some xs
  | .ref n => match M[n]? with | some (.lst xs) => some xs | _ => none
  | _ => none
/-- our own lists -/
def trk? (M : Hm) : D → Option (List D)
  | .lst xs => some xs
  | .ref n => match M[n]? with | some (.lst xs) => some xs | _ => none
  | _ => none
def lst? (M : Hm) : D → Option (List D)
  | .lst xs => some xs
  | .flst xs => some xs
  | .ref n => match M[n]? with | some (.lst xs) => some xs | _ => none
  | _ => none
/-- a new list: known as a value from now on, or an object -/
def mkl (h : Bool) (xs : List D) (M : Hm) : Res D := if h then .ok (.ref M.length) (M ++ [.lst xs]) else .ok (.lst xs) M
def mkd (h : Bool) (ks : List L2.Key) (vs : List D) (M : Hm) : Res D := if h then .ok (.ref M.length) (M ++ [.dic ks vs]) else .ok (.dic ks vs) M

def opBin (o : BOp) (h : Bool) (x y : D) (M : Hm) : Res D := match o, x, y with
  | .add, .int i, .int j => .ok (.int (i + j)) M
  | .add, .str a, .str b => if szOk (a.length + b.length) then .ok (.str (a ++ b)) M else .bad
  | .add, .tup xs, .tup ys => if szOk (xs.length + ys.length) then .ok (.tup (xs ++ ys)) M else .bad
  | .add, x, y => match trk? M x, trk? M y with
    | some xs, some ys => if szOk (xs.length + ys.length) then mkl h (xs ++ ys) M else .bad
    | _, _ => .bad
  | .sub, .int i, .int j => .ok (.int (i - j)) M
  | .mul, .int i, .int j => if num64 i || num64 j then .ok (.int (i * j)) M else .bad
  | .fdiv, .int i, .int j => if decide (0 < j) && num64 j then .ok (.int (i / j)) M else .bad
  | .mod, .int i, .int j => if decide (0 < j) then .ok (.int (i % j)) M else .bad
  | .pow, .int i, .int j => if decide (0 ≤ j) && decide (j ≤ 1000000) && num64 i then .ok (.int (i ^ j.toNat)) M else .bad
  | .shl, .int i, .int j => if decide (0 ≤ j) && decide (j ≤ 1000000) && num64 i then .ok (.int (i * 2 ^ j.toNat)) M else .bad
  | .shr, .int i, .int j => if decide (0 ≤ j) then .ok (.int (i / 2 ^ j.toNat)) M else .bad
  | .band, .int i, .int j => .ok (.int (Builtin.bitAnd i j)) M
  | .bor, .int i, .int j => .ok (.int (Builtin.bitOr i j)) M
  | .bxor, .int i, .int j => .ok (.int (Builtin.bitXor i j)) M
  | _, _, _ => .bad
def opUn (o : UOp) (x : D) (M : Hm) : Res D := match o, x with
  | .neg, .int i => .ok (.int (-i)) M
  | .inv, .int i => .ok (.int (Builtin.bitNot i)) M
  | _, _ => .bad

mutual
/-- data without objects -/
def D.py : D → Option PyData
  | .non => some .none
  | .bl b => some (.bool b)
  | .int i => some (.int i)
  | .str x => some (.str x)
  | .tup xs => (D.pys xs).map .tuple
  | .lst xs => (D.pys xs).map .list
  | .flst xs => (D.pys xs).map .list
  | _ => none
def D.pys : List D → Option (List PyData)
  | [] => some []
  | x :: xs => match D.py x, D.pys xs with
    | some p, some ps => some (p :: ps)
    | _, _ => none
end
/-- a list object as its items -/
def cont (M : Hm) : D → D
  | .ref n => match M[n]? with | some (.lst xs) => .lst xs | _ => .ref n
  | d => d
/-- == of scalars, where no truth value meets a number -/
def eqS : D → D → Option Bool
  | .non, .non => some true | .non, .int _ => some false | .int _, .non => some false | .non, .bl _ => some false | .bl _, .non => some false
  | .non, .str _ => some false | .str _, .non => some false
  | .int i, .int j => some (decide (i = j)) | .bl a, .bl b => some (decide (a = b)) | .str x, .str y => some (decide (x = y))
  | .int _, .str _ => some false | .str _, .int _ => some false | .bl _, .str _ => some false | .str _, .bl _ => some false
  | _, _ => none
def eqD (x y : D) (M : Hm) : Option Bool := match eqS x y with
  | some b => some b
  | none => match (cont M x).py, (cont M y).py with
    | some p, some q => if SeqAt.shaped p && SeqAt.shaped q then some (PyData.eqv p q) else none
    | _, _ => none
def flatD : D → Bool
  | .non => true
  | .bl _ => true
  | .int _ => true
  | .str _ => true
  | _ => false
/-- == of flat values -/
def eqF : D → D → Bool
  | .non, .non => true
  | .bl a, .bl b => a == b
  | .bl a, .int b => (if a then 1 else 0) == b
  | .int a, .bl b => a == (if b then 1 else 0)
  | .int a, .int b => a == b
  | .str a, .str b => a == b
  | _, _ => false
def keyD : D → Option L2.Key
  | .int i => some (.inl i)
  | .str x => some (.inr x)
  | _ => none
def dict? (M : Hm) : D → Option (List L2.Key × List D)
  | .dic ks vs => some (ks, vs)
  | .ref n => match M[n]? with | some (.dic ks vs) => some (ks, vs) | _ => none
  | _ => none
/-- what a dict holds at a key -/
def dGet (ks : List L2.Key) (vs : List D) (k : L2.Key) : Option D := ((ks.zip vs).find? fun kv => decide (kv.1 = k)).map (·.2)
def inD (x y : D) (M : Hm) : Option Bool := match items? M y with
  | some xs => if flatD x && xs.all flatD then some (xs.any fun z => eqF z x) else none
  | none => match dict? M y, keyD x with
    | some (ks, vs), some k => some (dGet ks vs k).isSome
    | _, _ => none
def isD (x y : D) : Option Bool := match y with
  | .non => some (match x with | .non => true | _ => false)
  | _ => none
def opCmp (o : COp) (x y : D) (M : Hm) : Option Bool := match o, x, y with
  | .eq, x, y => eqD x y M
  | .ne, x, y => (eqD x y M).map fun b => !b
  | .lt, .int i, .int j => some (decide (i < j))
  | .le, .int i, .int j => some (decide (i ≤ j))
  | .gt, .int i, .int j => some (decide (j < i))
  | .ge, .int i, .int j => some (decide (j ≤ i))
  | .le, .str x, .str y => some (decide (¬ y.cps.toList < x.cps.toList))
  | .is, x, y => isD x y
  | .isnot, x, y => (isD x y).map fun b => !b
  | .isin, x, y => inD x y M
  | .notin, x, y => (inD x y M).map fun b => !b
  | _, _, _ => none

def str? : D → Option Str
  | .str z => some z
  | _ => none
def int? : D → Option Int
  | .int i => some i
  | _ => none
def opIx (x y : D) (M : Hm) : Option D := match str? x with
  | some z => match int? y with
    | some i => if szOk z.length then (L2.atI z.cps.toList i).map fun c => .str ⟨#[c]⟩ else none
    | none => none
  | none => match items? M x with
    | some xs => match int? y with
      | some i => L2.atI xs i
      | none => none
    | none => match dict? M x with
      | some d => match keyD y with
        | some k => dGet d.1 d.2 k
        | none => none
      | none => none
def cutD (xs : List D) (lo hi : Option Int) : List D := (xs.drop (HT.sIx xs.length 0 lo)).take (HT.sIx xs.length xs.length hi - HT.sIx xs.length 0 lo)
def opSl (h : Bool) (x : D) (lo hi : Option Int) (M : Hm) : Res D := match x with
  | .tup xs => .ok (.tup (cutD xs lo hi)) M
  | x => match lst? M x with
    | some xs => mkl h (cutD xs lo hi) M
    | none => .bad

def ints? : List D → Option (List Int)
  | [] => some []
  | .int i :: r => (ints? r).map (i :: ·)
  | _ => none
def bls? : List D → Option (List Bool)
  | [] => some []
  | .bl b :: r => (bls? r).map (b :: ·)
  | _ => none
/-- pairs of a key and a value -/
def prs? : List D → Option (List (L2.Key × D))
  | [] => some []
  | .tup [k, v] :: r => match keyD k, prs? r with
    | some k, some r => some ((k, v) :: r)
    | _, _ => none
  | _ => none
/-- a value at a key, laid at the end if it is new -/
def kput (k : L2.Key) (v : D) (ks : List L2.Key) (vs : List D) : List L2.Key × List D :=
  if (ks.any fun j => decide (j = k)) = true then (ks, (ks.zip vs).map fun p => if p.1 = k then v else p.2) else (ks ++ [k], vs ++ [v])
def putAll : List (L2.Key × D) → List L2.Key × List D → List L2.Key × List D
  | [], d => d
  | (k, v) :: r, d => putAll r (kput k v d.1 d.2)

def onSome {β : Type} (o : Option β) (f : β → Res D) : Res D := match o with
  | some b => f b
  | none => .bad
@[simp] theorem onSome_some {β : Type} (b : β) (f : β → Res D) : onSome (some b) f = f b := rfl
def bi1 (f : D → Res D) : List D → Res D
  | [x] => f x
  | _ => .bad
def bi2 (f : D → D → Res D) : List D → Res D
  | [x, y] => f x y
  | _ => .bad
def biLen (M : Hm) (x : D) : Res D := match str? x with
  | some z => if szOk z.length then .ok (.int z.length) M else .bad
  | none => match items? M x with
    | some xs => .ok (.int xs.length) M
    | none => match dict? M x with
      | some d => .ok (.int d.1.length) M
      | none => .bad
def biAbs (M : Hm) : D → Res D
  | .int i => .ok (.int (if i < 0 then -i else i)) M
  | _ => .bad
def biInt (M : Hm) : D → Res D
  | .int i => .ok (.int i) M
  | .bl k => .ok (.int (if k then 1 else 0)) M
  | _ => .bad
def biBool (M : Hm) : D → Res D
  | .int i => .ok (.bl (i != 0)) M
  | .bl k => .ok (.bl k) M
  | _ => .bad
def biSum (M : Hm) (x : D) : Res D := onSome ((lst? M x).bind ints?) fun ns => .ok (.int ns.sum) M
def biAll (M : Hm) (x : D) : Res D := onSome ((lst? M x).bind bls?) fun bs => .ok (.bl (bs.all id)) M
def biAny (M : Hm) (x : D) : Res D := onSome ((lst? M x).bind bls?) fun bs => .ok (.bl (bs.any id)) M
def biTuple (M : Hm) (x : D) : Res D := match items? M x with
  | some xs => .ok (.tup xs) M
  | none => .bad
def biList (h : Bool) (M : Hm) (x : D) : Res D := match items? M x with
  | some xs => mkl h xs M
  | none => .bad
def biDict (h : Bool) (M : Hm) (x : D) : Res D := onSome ((lst? M x).bind prs?) fun ps => mkd h (putAll ps ([], [])).1 (putAll ps ([], [])).2 M
def biMax (M : Hm) : D → D → Res D
  | .int i, .int j => .ok (.int (if j > i then j else i)) M
  | _, _ => .bad
def biMin (M : Hm) : D → D → Res D
  | .int i, .int j => .ok (.int (if j < i then j else i)) M
  | _, _ => .bad
def biSem (b : Bi) (h : Bool) (ds : List D) (M : Hm) : Res D := match b with
  | .len => bi1 (biLen M) ds
  | .abs => bi1 (biAbs M) ds
  | .int => bi1 (biInt M) ds
  | .bool => bi1 (biBool M) ds
  | .sum => bi1 (biSum M) ds
  | .all => bi1 (biAll M) ds
  | .any => bi1 (biAny M) ds
  | .tuple => bi1 (biTuple M) ds
  | .list => bi1 (biList h M) ds
  | .dict => bi1 (biDict h M) ds
  | .max => bi2 (biMax M) ds
  | .min => bi2 (biMin M) ds
/-- an object's list -/
def obj? (M : Hm) : D → Option (Nat × List D)
  | .ref n => match M[n]? with | some (.lst xs) => some (n, xs) | _ => none
  | _ => none
def bmAppend (M : Hm) (o y : D) : Res D := match obj? M o with
  | some p => if szOk (p.2.length + 1) then .ok .non (M.set p.1 (.lst (p.2 ++ [y]))) else .bad
  | none => .bad
def bmPop (M : Hm) (o : D) : Res D := match obj? M o with
  | some p => match p.2.getLast? with
    | some y => .ok y (M.set p.1 (.lst p.2.dropLast))
    | none => .bad
  | none => .bad
def bmGet (M : Hm) (o k d : D) : Res D := match dict? M o with
  | some p => match keyD k with
    | some k => .ok ((dGet p.1 p.2 k).getD d) M
    | none => .bad
  | none => .bad
def bmSem (b : Bm) (o : D) (ds : List D) (M : Hm) : Res D := match b with
  | .append => bi1 (bmAppend M o) ds
  | .pop => match ds with | [] => bmPop M o | _ => .bad
  | .get => bi2 (bmGet M o) ds
/-- the type that has the method -/
def bmOk (b : Bm) (o : D) (M : Hm) : Bool := match b with
  | .get => (dict? M o).isSome
  | _ => (obj? M o).isSome
inductive Tg where | non | bl | int | str | tup | lst | dic
def tagD (M : Hm) : D → Option Tg
  | .non => some .non
  | .bl _ => some .bl
  | .int _ => some .int
  | .str _ => some .str
  | .tup _ => some .tup
  | .lst _ => some .lst
  | .flst _ => some .lst
  | .dic _ _ => some .dic
  | .ref n => match M[n]? with | some (.lst _) => some .lst | some (.dic _ _) => some .dic | _ => none
  | .fn _ => none
def tagTy (g : Tg) : Ty → Option Bool
  | .int => some (match g with | .int => true | .bl => true | _ => false)
  | .bool => some (match g with | .bl => true | _ => false)
  | .str => some (match g with | .str => true | _ => false)
  | .tuple => some (match g with | .tup => true | _ => false)
  | .list => some (match g with | .lst => true | _ => false)
  | .dict => some (match g with | .dic => true | _ => false)
  | .cls _ => none
def isTy (M : Hm) (x : D) (t : Ty) : Option Bool := match tagD M x with
  | some g => tagTy g t
  | none => none
def isAny (M : Hm) (x : D) : List Ty → Option Bool
  | [] => some false
  | t :: ts => match isTy M x t with
    | some true => some true
    | some false => isAny M x ts
    | none => none
def putFld (f : Str) (v : D) : List (Str × D) → List (Str × D)
  | [] => [(f, v)]
  | (g, w) :: r => if g = f then (g, v) :: r else (g, w) :: putFld f v r

/-! ### what is walked -/
inductive Src where
  | items (ds : List D)
  | obj (n : Nat)
def Src.len (s : Src) (M : Hm) : Option Nat := match s with
  | .items ds => some ds.length
  | .obj n => match M[n]? with | some (.lst xs) => some xs.length | _ => none
def Src.at (s : Src) (i : Nat) (M : Hm) : Option D := match s with
  | .items ds => ds[i]?
  | .obj n => match M[n]? with | some (.lst xs) => xs[i]? | _ => none
def srcOf (M : Hm) : D → Option Src
  | .tup xs => some (.items xs)
  | .lst xs => some (.items xs)
  | .flst xs => some (.items xs)
  | .str z => if szOk z.length then some (.items (z.cps.toList.map fun c => .str ⟨#[c]⟩)) else none
  | .ref n => match M[n]? with | some (.lst _) => some (.obj n) | _ => none
  | _ => none
def rngD (lo : Int) (n : Nat) : List D := (List.range n).map fun (k : Nat) => .int (lo + k)
def rngOk (i : Int) : Bool := decide (-(2 ^ 62) ≤ i) && decide (i < 2 ^ 62)

/-- o[i] = d -/
def setSub (x y d : D) (σ : Env) (M : Hm) : Res Env := match x with
  | .ref n => match M[n]? with
    | some (.lst xs) => match y with
      | .int k => match L2.ixN xs.length k with
        | some j => .ok σ (M.set n (.lst (xs.set j d)))
        | none => .bad
      | _ => .bad
    | some (.dic ks vs) => match keyD y with
      | some k => if decide (ks.length < 16777216) then .ok σ (M.set n (.dic (kput k d ks vs).1 (kput k d ks vs).2)) else .bad
      | none => .bad
    | _ => .bad
  | _ => .bad
/-- o.f = d -/
def setAt (P : Prg) (f : Str) (x d : D) (σ : Env) (M : Hm) : Res Env := match x with
  | .ref n => match M[n]? with
    | some (.ins C fs) => if P.clss[C]?.any (fun k => k.own.contains f) && decide (fs.length < 1000) then .ok σ (M.set n (.ins C (putFld f d fs))) else .bad
    | _ => .bad
  | _ => .bad
/-- an attribute of an instance -/
def getFld (P : Prg) (f : Str) (x : D) (M : Hm) : Option D := match x with
  | .ref n => match M[n]? with
    | some (.ins C fs) => if P.clss[C]?.any (fun k => k.own.contains f) then fs.lookup f else none
    | _ => none
  | _ => none
def sameCls (x : D) (M M' : Hm) : Bool := match x with
  | .ref n => match M[n]?, M'[n]? with
    | some (.ins C _), some (.ins C' _) => C == C'
    | _, _ => false
  | _ => false
/-- numbers, strs in an augmented assignment -/
def augI (o : BOp) (x y : D) : Option D := match o, x, y with
  | .add, .int i, .int j => some (.int (i + j))
  | .sub, .int i, .int j => some (.int (i - j))
  | .band, .int i, .int j => some (.int (Builtin.bitAnd i j))
  | .bor, .int i, .int j => some (.int (Builtin.bitOr i j))
  | .bxor, .int i, .int j => some (.int (Builtin.bitXor i j))
  | .add, .str a, .str b => if szOk (a.length + b.length) then some (.str (a ++ b)) else none
  | _, _, _ => none
/-- name op= .. -/
def augS (o : BOp) (i : Nat) (x y : D) (σ : Env) (M : Hm) : SR := match augI o x y with
  | some z => .nxt (σ.set i (some z)) M
  | none => match o, obj? M x, trk? M y with
    | .add, some p, some ys => if szOk (p.2.length + ys.length) then .nxt σ (M.set p.1 (.lst (p.2 ++ ys))) else .bad
    | _, _, _ => .bad
def rng2D (x y : D) (M : Hm) : Res Src := match x, y with
  | .int i, .int j => if rngOk i && rngOk j then .ok (.items (rngD i (j - i).toNat)) M else .bad
  | _, _ => .bad
/-- no closure stands there -/
def free (κ : List (Nat × CloD)) (i : Nat) : Bool := (κ.lookup i).isNone
@[simp] theorem free_nil (i : Nat) : free [] i = true := rfl
/-- k turns, from turn i on -/
def compGo (s : Src) (turn : D → Hm → Res (Option D)) : Nat → Nat → Hm → Res (List D)
  | 0, i, M => if s.len M = some i then .ok [] M else .bad
  | k + 1, i, M => (lift (s.at i M) M).bind fun d M => (turn d M).bind fun o M => (compGo s turn k (i + 1) M).bind fun r M => .ok (o.toList ++ r) M
def forGo (s : Src) (turn : D → Env → Hm → SR) : Nat → Nat → Env → Hm → SR
  | 0, i, σ, M => if s.len M = some i then .nxt σ M else .bad
  | k + 1, i, σ, M => match s.at i M with
    | none => .bad
    | some d => match turn d σ M with
      | .nxt σ M => forGo s turn k (i + 1) σ M
      | .cnt σ M => forGo s turn k (i + 1) σ M
      | .brk σ M => .nxt σ M
      | r => r
def whlGo (test : Env → Hm → Res Bool) (turn : Env → Hm → SR) : Nat → Env → Hm → SR
  | 0, _, _ => .bad
  | k + 1, σ, M => (test σ M).st σ fun b M => if b then match turn σ M with
      | .nxt σ M => whlGo test turn k σ M
      | .cnt σ M => whlGo test turn k σ M
      | .brk σ M => .nxt σ M
      | r => r
    else .nxt σ M

def slot (σ : Env) (i : Nat) : Option D := (σ[i]?).join
def wipeE (σ : Env) : List Nat → Env
  | [] => σ
  | v :: vs => (wipeE σ vs).set v none
def setAll : List Nat → List D → Env → Option Env
  | [], [], σ => some σ
  | i :: is, d :: ds, σ => setAll is ds (σ.set i (some d))
  | _, _, _ => none

/-! ### meaning -/
section
variable (P : Prg) (R : Rt) (κ : List (Nat × CloD))
def MTs.size : MTs → Nat
  | .nil => 0
  | .cons _ ts => ts.size + 1
def MEs.size : MEs → Nat
  | .nil => 0
  | .cons _ es => es.size + 1
mutual
def ev : ME → Env → Hm → Res D
  | .cst d, _, M => .ok d M
  | .var i, σ, M => lift (slot σ i) M
  | .glc _ d, _, M => .ok d M
  | .fnv g, _, M => .ok (.fn g) M
  | .tup es, σ, M => (evs es σ M).bind fun ds M => .ok (.tup ds) M
  | .lst h es, σ, M => (evs es σ M).bind fun ds M => mkl h ds M
  | .bin o h a b, σ, M => (ev a σ M).bind fun x M => (ev b σ M).bind fun y M => opBin o h x y M
  | .un o a, σ, M => (ev a σ M).bind fun x M => opUn o x M
  | .cmp o a b, σ, M => (ev a σ M).bind fun x M => (ev b σ M).bind fun y M => (lift (opCmp o x y M) M).bind fun b M => .ok (.bl b) M
  | .chn o p a b c, σ, M => (ev a σ M).bind fun x M => (ev b σ M).bind fun y M => (lift (opCmp o x y M) M).bind fun k M =>
      if k then (ev c σ M).bind fun z M => (lift (opCmp p y z M) M).bind fun b M => .ok (.bl b) M else .ok (.bl false) M
  | .bop isAnd es, σ, M => evB isAnd es σ M
  | .not a, σ, M => (ev a σ M).bind fun x M => match x with | .bl b => .ok (.bl !b) M | _ => .bad
  | .ife t a b, σ, M => (evT t σ M).bind fun k M => if k then ev a σ M else ev b σ M
  | .ix a b, σ, M => (ev a σ M).bind fun x M => (ev b σ M).bind fun y M => lift (opIx x y M) M
  | .sl h a lo hi, σ, M => (ev a σ M).bind fun x M => (evP lo σ M).bind fun l M => (evP hi σ M).bind fun u M => opSl h x l u M
  | .call g es, σ, M => (evA es 0 σ M).bind fun a M => R.call g a.1 a.2 M
  | .callv i es, σ, M => match κ.lookup i with
    | some c => (evs es σ M).bind fun ds M => R.clo c ds M
    | none => match slot σ i with
      | some (.fn g) => if P.fns[g]?.isSome then (evs es σ M).bind fun ds M => R.call g (ds.map some) [] M else .bad
      | _ => .bad
  | .make C es, σ, M => (evs es σ M).bind fun ds M => R.make C ds M
  | .meth m o es, σ, M => (ev o σ M).bind fun x M => match x with
    | .ref n => match M[n]? with
      | some (.ins C fs) => match P.clss[C]?.bind fun k => k.meths.lookup m, fs.lookup m with
        | some g, none => (evs es σ M).bind fun ds M => R.call g (some (.ref n) :: ds.map some) [] M
        | _, _ => .bad
      | _ => .bad
    | _ => .bad
  | .fld f o, σ, M => (ev o σ M).bind fun x M => lift (getFld P f x M) M
  | .bi b h es, σ, M => (evs es σ M).bind fun ds M => biSem b h ds M
  | .bm b o es, σ, M => (ev o σ M).bind fun x M => if bmOk b x M then (evs es σ M).bind fun ds M => bmSem b x ds M else .bad
  | .isi a ts, σ, M => (ev a σ M).bind fun x M => (lift (isAny M x ts) M).bind fun b M => .ok (.bl b) M
  | .lc h elt tg it ifs own, σ, M => (evI it σ M).bind fun s M => (lift (s.len M) M).bind fun k M =>
      if szOk k && own.all (free κ) then (compGo s (fun d M => (asg tg d (wipeE σ own) M).use fun σ' M => (evTB true ifs σ' M).bind fun b M =>
        if b then (ev elt σ' M).bind fun y M => .ok (some y) M else .ok none M) k 0 M).bind fun ds M => mkl h ds M else .bad
  | .dsp h kvs, σ, M => (evK kvs σ M).bind fun ps M => mkd h (putAll ps ([], [])).1 (putAll ps ([], [])).2 M
  | .lam _ _ _ _, _, _ => .bad
  | .exp _, _, _ => .bad
def evs : MEs → Env → Hm → Res (List D)
  | .nil, _, M => .ok [] M
  | .cons e es, σ, M => (ev e σ M).bind fun d M => (evs es σ M).bind fun ds M => .ok (d :: ds) M
/-- arguments: closures stand beside, by their places -/
def evA : MEs → Nat → Env → Hm → Res (List (Option D) × List (Nat × CloD))
  | .nil, _, _, M => .ok ([], []) M
  | .cons (.lam nps caps N body) es, j, σ, M => match caps.mapM (slot σ) with
    | some ws => (evA es (j + 1) σ M).bind fun a M => .ok (none :: a.1, (j, ⟨nps, ws.map some, N.length, body⟩) :: a.2) M
    | none => .bad
  | .cons e es, j, σ, M => (ev e σ M).bind fun d M => (evA es (j + 1) σ M).bind fun a M => .ok (some d :: a.1, a.2) M
def evP : MP → Env → Hm → Res (Option Int)
  | .no, _, M => .ok none M
  | .some e, σ, M => (ev e σ M).bind fun x M => match x with | .int i => .ok (some i) M | _ => .bad
/-- and, or as a value: all but the last are truth values -/
def evB (isAnd : Bool) : MEs → Env → Hm → Res D
  | .nil, _, _ => .bad
  | .cons e .nil, σ, M => ev e σ M
  | .cons e es, σ, M => (ev e σ M).bind fun x M => match x with
    | .bl b => if b = isAnd then evB isAnd es σ M else .ok (.bl b) M
    | _ => .bad
/-- as a test -/
def evT : MQ → Env → Hm → Res Bool
  | .val e, σ, M => (ev e σ M).bind fun x M => match x with | .bl b => .ok b M | _ => .bad
  | .cmp o a b, σ, M => (ev a σ M).bind fun x M => (ev b σ M).bind fun y M => lift (opCmp o x y M) M
  | .chn o p a b c, σ, M => (ev a σ M).bind fun x M => (ev b σ M).bind fun y M => (lift (opCmp o x y M) M).bind fun k M =>
      if k then (ev c σ M).bind fun z M => lift (opCmp p y z M) M else .ok false M
  | .not a, σ, M => (evT a σ M).bind fun b M => .ok (!b) M
  | .bop isAnd ts, σ, M => evTB isAnd ts σ M
  | .ife t a b, σ, M => (evT t σ M).bind fun k M => if k then evT a σ M else evT b σ M
def evTB (isAnd : Bool) : MQs → Env → Hm → Res Bool
  | .nil, _, M => .ok isAnd M
  | .cons t ts, σ, M => (evT t σ M).bind fun b M => if b = isAnd then evTB isAnd ts σ M else .ok b M
def evK : MKs → Env → Hm → Res (List (L2.Key × D))
  | .nil, _, M => .ok [] M
  | .cons k v r, σ, M => (ev k σ M).bind fun x M => (ev v σ M).bind fun y M => (lift (keyD x) M).bind fun x M => (evK r σ M).bind fun r M => .ok ((x, y) :: r) M
def evI : MI → Env → Hm → Res Src
  | .val e, σ, M => (ev e σ M).bind fun x M => lift (srcOf M x) M
  | .rng1 e, σ, M => (ev e σ M).bind fun x M => match x with
    | .int j => if rngOk j then .ok (.items (rngD 0 j.toNat)) M else .bad
    | _ => .bad
  | .rng2 a b, σ, M => (ev a σ M).bind fun x M => (ev b σ M).bind fun y M => rng2D x y M
def asg : MT → D → Env → Hm → Res Env
  | .nm i, d, σ, M => if free κ i then .ok (σ.set i (some d)) M else .bad
  | .tp ts, d, σ, M => match d with
    | .tup xs => if xs.length = ts.size then asgs ts xs σ M else .bad
    | _ => .bad
  | .sb o i, d, σ, M => (ev o σ M).bind fun x M => (ev i σ M).bind fun y M => setSub x y d σ M
  | .at f o, d, σ, M => (ev o σ M).bind fun x M => setAt P f x d σ M
def asgs : MTs → List D → Env → Hm → Res Env
  | .nil, [], σ, M => .ok σ M
  | .cons t ts, d :: ds, σ, M => (asg t d σ M).bind fun σ M => asgs ts ds σ M
  | _, _, _, _ => .bad
end

/-- what an except clause returns -/
def evS : ME → Env → Option D
  | .cst d, _ => some d
  | .var i, σ => slot σ i
  | .exp i, σ => slot σ i
  | .tup es, σ => (evSs es σ).map .tup
  | _, _ => none
where evSs : MEs → Env → Option (List D)
  | .nil, _ => some []
  | .cons e es, σ => match evS e σ, evSs es σ with
    | some d, some ds => some (d :: ds)
    | _, _ => none

/-- the first clause that takes it -/
def caught (c : Nat) (v : D) (σ : Env) (M : Hm) : MHs → SR
  | .nil => .exc c v σ M
  | .cons h s e hs => if decide (c < P.exs) && decide (h < P.exs) then (if P.below c h then
      match evS e (match s with | some i => σ.set i (some v) | none => σ) with
      | some d => .ret d M
      | none => .bad
    else caught c v σ M hs) else .bad
mutual
def exec : MS → Env → Hm → SR
  | .expr e, σ, M => (ev P R κ e σ M).st σ fun _ M => .nxt σ M
  | .asg t e, σ, M => (ev P R κ e σ M).st σ fun d M => (asg P R κ t d σ M).put fun σ M => .nxt σ M
  | .par is es, σ, M => (evs P R κ es σ M).st σ fun ds M => if is.all (free κ) then match setAll is ds σ with
    | some σ => .nxt σ M
    | none => .bad
    else .bad
  | .aug o i e, σ, M => match slot σ i with
    | some x => if free κ i then (ev P R κ e σ M).st σ fun y M => augS o i x y σ M else .bad
    | none => .bad
  | .augf o f a e, σ, M => (ev P R κ a σ M).st σ fun x M => match getFld P f x M with
    | some v => (ev P R κ e σ M).st σ fun y M' => match augI o v y with
      | some z => if sameCls x M M' then (setAt P f x z σ M').put fun σ M => .nxt σ M else .bad
      | none => .bad
    | none => .bad
  | .augs o a b e, σ, M => (ev P R κ a σ M).st σ fun x M => (ev P R κ b σ M).st σ fun y M => match opIx x y M with
    | some v => (ev P R κ e σ M).st σ fun w M => match augI o v w with
      | some z => (setSub x y z σ M).put fun σ M => .nxt σ M
      | none => .bad
    | none => .bad
  | .ife t a b, σ, M => (evT P R κ t σ M).st σ fun k M => if k then execs a σ M else execs b σ M
  | .whl t b, σ, M => whlGo (evT P R κ t) (execs b) P.fuel σ M
  | .fr t it b, σ, M => (evI P R κ it σ M).st σ fun s M => match s.len M with
    | some k => forGo s (fun d σ M => (asg P R κ t d σ M).put fun σ M => execs b σ M) k 0 σ M
    | none => .bad
  | .ret e, σ, M => (ev P R κ e σ M).st σ fun d M => .ret d M
  | .retn, _, M => .ret .non M
  | .rse c e, σ, M => (ev P R κ e σ M).st σ fun d M => .exc c d σ M
  | .tr b hs, σ, M => match execs b σ M with
    | .exc c v σ M => caught P c v σ M hs
    | r => r
  | .brk, σ, M => .brk σ M
  | .cnt, σ, M => .cnt σ M
  | .pas, σ, M => .nxt σ M
def execs : MSs → Env → Hm → SR
  | .nil, σ, M => .nxt σ M
  | .cons s ss, σ, M => (exec s σ M).andThen fun σ M => execs ss σ M
end
end

/-! ### defs, to a depth -/
def startE (n : Nat) (os : List (Option D)) : Env := os ++ List.replicate (n - os.length) none
def SR.res (r : SR) : Res D := match r with
  | .nxt _ M => .ok .non M
  | .ret d M => .ok d M
  | .exc c v _ M => .exc c v M
  | _ => .bad
/-- a def's body, all parameters given -/
def bodyAll (P : Prg) (R : Rt) (f : Fn) (os : List (Option D)) (κ : List (Nat × CloD)) (M : Hm) : Res D := (execs P R κ f.body (startE f.N.length os) M).res
def bodyRun (P : Prg) (R : Rt) (g : Nat) (os : List (Option D)) (κ : List (Nat × CloD)) (M : Hm) : Res D := match P.fns[g]? with
  | some f => if os.length ≤ f.np ∧ f.np ≤ os.length + f.defs.length then
      bodyAll P R f (os ++ (f.defs.drop (os.length + f.defs.length - f.np)).map some) κ M else .bad
  | none => .bad
def rt (P : Prg) : Nat → Rt
  | 0 => ⟨fun _ _ _ _ => .bad, fun _ _ _ => .bad, fun _ _ _ => .bad⟩
  | n + 1 => ⟨bodyRun P (rt P n),
      fun C ds M => match P.clss[C]?.bind (·.init) with
        | some g => ((rt P n).call g (some (.ref M.length) :: ds.map some) [] (M ++ [.ins C []])).bind fun v M' => match v with | .non => .ok (.ref M.length) M' | _ => .bad
        | none => .bad,
      fun c ds M => if ds.length = c.nps then ev P (rt P n) [] c.body (startE c.size (ds.map some ++ c.caps)) M else .bad⟩
end Mi

end
section
/-! M2: how the small language's values and objects lie in the abstract heap. -/
namespace Mi
open PySem L2

/-- where defs and classes lie; the written part -/
structure Lay where
  K : PySem.W.Frag
  fa : Nat → Addr
  ca : Nat → Addr
  /-- the tables of code objects of lambdas, each with the lambdas' name -/
  T : List (Addr × Str)

section
variable (L : Lay) (ρ : List Addr) (H : Hp)
def KT (a : Addr) (vs : List V) : Prop := ∃ (o : Obj) (its : Array Value) (n : Nat), L.K.lookup a = some o ∧ o.cls = .type "tuple" ∧ o.data = .seq its n ∧ its.size ≤ sizeLine ∧ Vals vs its.toList
def KL (a : Addr) (vs : List V) : Prop := ∃ (o : Obj) (its : Array Value) (n : Nat), L.K.lookup a = some o ∧ o.cls = .type "list" ∧ o.dict = none ∧ o.data = .seq its n ∧ its.size ≤ sizeLine ∧ Vals vs its.toList
mutual
def Rep : D → V → Prop
  | .non, v => v = .non
  | .bl b, v => v = .bl b
  | .int i, v => v = .int i
  | .str x, v => v = .str x
  | .tup ds, v => ∃ a vs, v = .ref a ∧ ((a ∉ ρ ∧ Rd H a (.tup vs)) ∨ KT L a vs) ∧ RepL ds vs
  | .lst ds, v => ∃ a vs, v = .ref a ∧ a ∉ ρ ∧ H a = some (.lst vs) ∧ RepL ds vs
  | .flst ds, v => ∃ a vs, v = .ref a ∧ ((a ∉ ρ ∧ Rd H a (.lst vs)) ∨ KL L a vs) ∧ RepL ds vs
  | .dic ks ds, v => ∃ a vs, v = .ref a ∧ a ∉ ρ ∧ H a = some (.dK (ks.zip vs)) ∧ ks.length = vs.length ∧ RepL ds vs
  | .ref n, v => ∃ a, v = .ref a ∧ ρ[n]? = some a
  | .fn g, v => v = .ref (L.fa g)
def RepL : List D → List V → Prop
  | [], vs => vs = []
  | d :: ds, vs => ∃ v r, vs = v :: r ∧ Rep d v ∧ RepL ds r
end
/-- an instance's attributes -/
def RepF : List (Str × D) → List (Str × V) → Prop
  | [], vs => vs = []
  | (f, d) :: r, vs => ∃ v t, vs = (f, v) :: t ∧ Rep L ρ H d v ∧ RepF r t
def ORep (a : Addr) : MO → Prop
  | .lst ds => ∃ vs, H a = some (.lst vs) ∧ RepL L ρ H ds vs
  | .dic ks ds => ∃ vs, H a = some (.dK (ks.zip vs)) ∧ ks.length = vs.length ∧ RepL L ρ H ds vs
  | .ins C fs => ∃ dx fv, H a = some (.ins (L.ca C) dx fv) ∧ RepF L ρ H fs fv
structure Sim (M : Hm) : Prop where
  len : ρ.length = M.length
  nd : ρ.Nodup
  obj : ∀ (n : Nat) (o : MO) (a : Addr), M[n]? = some o → ρ[n]? = some a → ORep L ρ H a o
  tab : ∀ p ∈ L.T, p.1 ∉ ρ ∧ LamX.TabS H p.1 p.2
def EnvR (σ : Env) (sv : St) : Prop := sv.length = σ.length ∧ ∀ (i : Nat) (d : D), σ[i]? = some (some d) → ∃ v, sv[i]? = some (some v) ∧ Rep L ρ H d v
end
/-- the small language's objects may change, new ones come; all else but the tables is as it was -/
structure Mono (ρ : List Addr) (H : Hp) (ρ' : List Addr) (H' : Hp) : Prop where
  pre : ∃ t, ρ' = ρ ++ t ∧ ∀ a ∈ t, ∀ o, H a = some o → ∃ ps, o = .tbl ps
  keep : ∀ a o, H a = some o → a ∉ ρ → (∀ ps, o ≠ .tbl ps) → H' a = some o
  there : ∀ a o, H a = some o → (∀ ps, o ≠ .tbl ps) → ∃ o', H' a = some o' ∧ ∀ ps, o' ≠ .tbl ps

section
variable {L : Lay} {ρ ρ1 ρ2 : List Addr} {H H1 H2 : Hp} {M M1 M2 : Hm} {σ : Env} {sv : St}

theorem Mono.refl : Mono ρ H ρ H := ⟨⟨[], by simp, by simp⟩, fun _ _ h _ _ => h, fun _ o h n => ⟨o, h, n⟩⟩
theorem Mono.notin (m : Mono ρ H ρ1 H1) {a : Addr} {o : HO} (h : H a = some o) (nt : ∀ ps, o ≠ .tbl ps) (n : a ∉ ρ) : a ∉ ρ1 := by
  obtain ⟨t, rfl, ht⟩ := m.pre
  intro q
  rcases List.mem_append.mp q with q | q
  · exact n q
  · obtain ⟨ps, e⟩ := ht a q o h
    exact nt ps e
theorem Mono.trans (m : Mono ρ H ρ1 H1) (k : Mono ρ1 H1 ρ2 H2) : Mono ρ H ρ2 H2 := by
  refine ⟨?_, fun a o h n t => k.keep a o (m.keep a o h n t) (m.notin h t n) t, fun a o h n => ?_⟩
  · obtain ⟨t, e1, ht⟩ := m.pre
    obtain ⟨u, e2, hu⟩ := k.pre
    subst e1
    subst e2
    refine ⟨t ++ u, by simp, fun a ha o e => ?_⟩
    rcases List.mem_append.mp ha with q | q
    · exact ht a q o e
    · by_cases z : ∀ ps, o ≠ .tbl ps
      · obtain ⟨o', h', n'⟩ := m.there a o e z
        obtain ⟨ps, z'⟩ := hu a q o' h'
        exact absurd z' (n' ps)
      · cases o <;> first | exact ⟨_, rfl⟩ | exact absurd (fun ps z => by cases z) z
  · obtain ⟨o', h', n'⟩ := m.there a o h n
    exact k.there a o' h' n'
theorem Mono.at (m : Mono ρ H ρ1 H1) {n : Nat} {a : Addr} (h : ρ[n]? = some a) : ρ1[n]? = some a := by
  obtain ⟨t, rfl, _⟩ := m.pre
  rw [List.getElem?_append_left (List.getElem?_eq_some_iff.mp h).1]
  exact h
theorem Mono.rd (m : Mono ρ H ρ1 H1) {a : Addr} {u : HO} (nt : ∀ ps, u ≠ .tbl ps) (n : a ∉ ρ) (h : Rd H a u) : a ∉ ρ1 ∧ Rd H1 a u := by
  rcases h with h | ⟨o, h⟩
  · exact ⟨m.notin h nt n, .inl (m.keep _ _ h n nt)⟩
  · exact ⟨m.notin h (fun ps z => by cases z) n, .inr ⟨o, m.keep _ _ h n (fun ps z => by cases z)⟩⟩
mutual
theorem Mono.rep (m : Mono ρ H ρ1 H1) : ∀ (d : D) (v : V), Rep L ρ H d v → Rep L ρ1 H1 d v
  | .non, _, h => h
  | .bl _, _, h => h
  | .int _, _, h => h
  | .str _, _, h => h
  | .fn _, _, h => h
  | .ref _, _, ⟨a, e, h⟩ => ⟨a, e, m.at h⟩
  | .tup ds, _, ⟨a, vs, e, h, r⟩ => ⟨a, vs, e, h.imp (fun q => m.rd (fun ps z => by cases z) q.1 q.2) id, m.repL ds vs r⟩
  | .lst ds, _, ⟨a, vs, e, n, h, r⟩ => ⟨a, vs, e, m.notin h (fun ps z => by cases z) n, m.keep _ _ h n (fun ps z => by cases z), m.repL ds vs r⟩
  | .flst ds, _, ⟨a, vs, e, h, r⟩ => ⟨a, vs, e, h.imp (fun q => m.rd (fun ps z => by cases z) q.1 q.2) id, m.repL ds vs r⟩
  | .dic _ ds, _, ⟨a, vs, e, n, h, l, r⟩ => ⟨a, vs, e, m.notin h (fun ps z => by cases z) n, m.keep _ _ h n (fun ps z => by cases z), l, m.repL ds vs r⟩
theorem Mono.repL (m : Mono ρ H ρ1 H1) : ∀ (ds : List D) (vs : List V), RepL L ρ H ds vs → RepL L ρ1 H1 ds vs
  | [], _, h => h
  | d :: ds, _, ⟨v, r, e, h1, h2⟩ => ⟨v, r, e, m.rep d v h1, m.repL ds r h2⟩
end
theorem Mono.repF (m : Mono ρ H ρ1 H1) : ∀ (fs : List (Str × D)) (vs : List (Str × V)), RepF L ρ H fs vs → RepF L ρ1 H1 fs vs
  | [], _, h => h
  | (f, d) :: r, _, ⟨v, t, e, h1, h2⟩ => ⟨v, t, e, m.rep d v h1, m.repF r t h2⟩
theorem Mono.env (m : Mono ρ H ρ1 H1) (h : EnvR L ρ H σ sv) : EnvR L ρ1 H1 σ sv := ⟨h.1, fun i d e => by
  obtain ⟨v, e1, r⟩ := h.2 i d e
  exact ⟨v, e1, m.rep d v r⟩⟩

/-! ### lists of values -/
theorem RepL.len : ∀ {ds : List D} {vs : List V}, RepL L ρ H ds vs → vs.length = ds.length
  | [], _, h => by rw [show _ = [] from h]; rfl
  | d :: ds, _, ⟨v, r, e, _, h2⟩ => by rw [e]; exact congrArg Nat.succ (RepL.len h2)
theorem RepL.at : ∀ {ds : List D} {vs : List V} {i : Nat} {d : D}, RepL L ρ H ds vs → ds[i]? = some d → ∃ v, vs[i]? = some v ∧ Rep L ρ H d v
  | [], _, _, _, _, h => by simp at h
  | d :: ds, _, 0, _, ⟨v, r, e, h1, h2⟩, h => by simp at h; subst h; exact ⟨v, by rw [e]; rfl, h1⟩
  | d :: ds, _, i + 1, d', ⟨v, r, e, h1, h2⟩, h => by
    obtain ⟨v', e', h'⟩ := RepL.at (i := i) h2 (by simpa using h)
    exact ⟨v', by rw [e]; simpa using e', h'⟩
theorem RepL.none_at {ds : List D} {vs : List V} {i : Nat} (h : RepL L ρ H ds vs) (e : ds[i]? = none) : vs[i]? = none := by
  rw [List.getElem?_eq_none_iff] at e ⊢
  rw [h.len]; exact e
theorem RepL.append : ∀ {ds es : List D} {vs ws : List V}, RepL L ρ H ds vs → RepL L ρ H es ws → RepL L ρ H (ds ++ es) (vs ++ ws)
  | [], _, _, _, h, k => by rw [show _ = [] from h]; exact k
  | d :: ds, _, _, _, ⟨v, r, e, h1, h2⟩, k => by rw [e]; exact ⟨v, _, rfl, h1, RepL.append h2 k⟩
theorem RepL.drop : ∀ {ds : List D} {vs : List V} (n : Nat), RepL L ρ H ds vs → RepL L ρ H (ds.drop n) (vs.drop n)
  | _, _, 0, h => h
  | [], _, n + 1, h => by rw [show _ = [] from h]; rfl
  | d :: ds, _, n + 1, ⟨v, r, e, _, h2⟩ => by rw [e]; exact RepL.drop n h2
theorem RepL.take : ∀ {ds : List D} {vs : List V} (n : Nat), RepL L ρ H ds vs → RepL L ρ H (ds.take n) (vs.take n)
  | _, _, 0, h => by rfl
  | [], _, n + 1, h => by rw [show _ = [] from h]; rfl
  | d :: ds, _, n + 1, ⟨v, r, e, h1, h2⟩ => by rw [e]; exact ⟨v, _, rfl, h1, RepL.take n h2⟩
theorem RepL.set : ∀ {ds : List D} {vs : List V} {d : D} {v : V} (n : Nat), RepL L ρ H ds vs → Rep L ρ H d v → RepL L ρ H (ds.set n d) (vs.set n v)
  | [], _, _, _, n, h, k => by rw [show _ = [] from h]; rfl
  | d :: ds, _, _, _, 0, ⟨v, r, e, h1, h2⟩, k => by rw [e]; exact ⟨_, _, rfl, k, h2⟩
  | d :: ds, _, _, _, n + 1, ⟨v, r, e, h1, h2⟩, k => by rw [e]; exact ⟨v, _, rfl, h1, RepL.set n h2 k⟩
theorem RepL.one {d : D} {vs : List V} (h : RepL L ρ H [d] vs) : ∃ v, vs = [v] ∧ Rep L ρ H d v := by
  obtain ⟨v, r, e, h1, h2⟩ := h
  have h2 : r = [] := h2
  subst h2
  exact ⟨v, e, h1⟩
theorem RepL.two {d e : D} {vs : List V} (h : RepL L ρ H [d, e] vs) : ∃ v w, vs = [v, w] ∧ Rep L ρ H d v ∧ Rep L ρ H e w := by
  obtain ⟨v, r, e1, h1, h2⟩ := h
  obtain ⟨w, rfl, h3⟩ := RepL.one h2
  exact ⟨v, w, e1, h1, h3⟩
theorem RepL.mk1 {d : D} {v : V} (h : Rep L ρ H d v) : RepL L ρ H [d] [v] := ⟨v, [], rfl, h, rfl⟩

/-! ### what a list, a tuple holds -/
theorem tup_sq {ds : List D} {v : V} (h : Rep L ρ H (.tup ds) v) : ∃ a vs, v = .ref a ∧ SqT L.K H a vs ∧ RepL L ρ H ds vs := by
  obtain ⟨a, vs, e, q, r⟩ := h
  exact ⟨a, vs, e, q.imp (fun z => z.2) id, r⟩
theorem lst_sq {ds : List D} {v : V} (h : Rep L ρ H (.lst ds) v) : ∃ a vs, v = .ref a ∧ SqL L.K H a vs ∧ RepL L ρ H ds vs := by
  obtain ⟨a, vs, e, _, q, r⟩ := h
  exact ⟨a, vs, e, SqL.of q, r⟩
theorem flst_sq {ds : List D} {v : V} (h : Rep L ρ H (.flst ds) v) : ∃ a vs, v = .ref a ∧ SqL L.K H a vs ∧ RepL L ρ H ds vs := by
  obtain ⟨a, vs, e, q, r⟩ := h
  exact ⟨a, vs, e, q.imp (fun z => z.2) id, r⟩
theorem Sim.at (s : Sim L ρ H M) {n : Nat} {o : MO} {v : V} (h : Rep L ρ H (.ref n) v) (e : M[n]? = some o) : ∃ a, v = .ref a ∧ ρ[n]? = some a ∧ ORep L ρ H a o := by
  obtain ⟨a, e1, h1⟩ := h
  exact ⟨a, e1, h1, s.obj n o a e h1⟩
/-- lists, as values and as objects -/
theorem lst?_sq (s : Sim L ρ H M) {d : D} {ds : List D} {v : V} (h : Rep L ρ H d v) (e : lst? M d = some ds) : ∃ a vs, v = .ref a ∧ SqL L.K H a vs ∧ RepL L ρ H ds vs := by
  cases d with
  | lst xs => cases e; exact lst_sq h
  | flst xs => cases e; exact flst_sq h
  | ref n =>
    cases q : M[n]? with
    | none => simp [lst?, q] at e
    | some o =>
      cases o with
      | lst xs =>
        simp [lst?, q] at e
        subst e
        obtain ⟨a, e1, _, vs, h1, r⟩ := s.at h q
        exact ⟨a, vs, e1, SqL.of h1, r⟩
      | _ => simp [lst?, q] at e
  | _ => cases e
theorem trk?_at (s : Sim L ρ H M) {d : D} {ds : List D} {v : V} (h : Rep L ρ H d v) (e : trk? M d = some ds) : ∃ a vs, v = .ref a ∧ H a = some (.lst vs) ∧ RepL L ρ H ds vs := by
  cases d with
  | lst xs =>
    cases e
    obtain ⟨a, vs, e1, _, q, r⟩ := h
    exact ⟨a, vs, e1, q, r⟩
  | ref n =>
    cases q : M[n]? with
    | none => simp [trk?, q] at e
    | some o =>
      cases o with
      | lst xs =>
        simp [trk?, q] at e
        subst e
        obtain ⟨a, e1, _, vs, h1, r⟩ := s.at h q
        exact ⟨a, vs, e1, h1, r⟩
      | _ => simp [trk?, q] at e
  | _ => cases e
theorem items?_sq (s : Sim L ρ H M) {d : D} {ds : List D} {v : V} (h : Rep L ρ H d v) (e : items? M d = some ds) : ∃ a vs, v = .ref a ∧ (SqL L.K H a vs ∨ SqT L.K H a vs) ∧ RepL L ρ H ds vs := by
  cases d with
  | tup xs =>
    cases e
    obtain ⟨a, vs, e1, q, r⟩ := tup_sq h
    exact ⟨a, vs, e1, .inr q, r⟩
  | lst xs =>
    cases e
    obtain ⟨a, vs, e1, q, r⟩ := lst_sq h
    exact ⟨a, vs, e1, .inl q, r⟩
  | flst xs =>
    cases e
    obtain ⟨a, vs, e1, q, r⟩ := flst_sq h
    exact ⟨a, vs, e1, .inl q, r⟩
  | ref n =>
    cases q : M[n]? with
    | none => simp [items?, q] at e
    | some o =>
      cases o with
      | lst xs =>
        simp [items?, q] at e
        subst e
        obtain ⟨a, e1, _, vs, h1, r⟩ := s.at h q
        exact ⟨a, vs, e1, .inl (SqL.of h1), r⟩
      | _ => simp [items?, q] at e
  | _ => cases e
theorem dict?_rep (s : Sim L ρ H M) {d : D} {ks : List Key} {ds : List D} {v : V} (h : Rep L ρ H d v) (e : dict? M d = some (ks, ds)) : ∃ a vs, v = .ref a ∧ H a = some (.dK (ks.zip vs)) ∧ ks.length = vs.length ∧ RepL L ρ H ds vs := by
  cases d with
  | dic k xs =>
    cases e
    obtain ⟨a, vs, e1, _, q, l, r⟩ := h
    exact ⟨a, vs, e1, q, l, r⟩
  | ref n =>
    cases q : M[n]? with
    | none => simp [dict?, q] at e
    | some o =>
      cases o with
      | dic k xs =>
        simp [dict?, q] at e
        obtain ⟨rfl, rfl⟩ := e
        obtain ⟨a, e1, _, vs, h1, l, r⟩ := s.at h q
        exact ⟨a, vs, e1, h1, l, r⟩
      | _ => simp [dict?, q] at e
  | _ => cases e

/-! ### new objects, written objects -/
theorem upd_keep {p : Addr} {o : HO} (n : H p = none) : Mono ρ H ρ (upd H p o) := ⟨⟨[], by simp, by simp⟩, fun a u h _ _ => by rw [upd_ne (ne_of_none h n)]; exact h, fun a u h t => ⟨u, by rw [upd_ne (ne_of_none h n)]; exact h, t⟩⟩
theorem Sim.lt (s : Sim L ρ H M) {a : Addr} (h : a ∈ ρ) : ∃ o, H a = some o ∧ (∀ ps, o ≠ .tbl ps) ∧ ∀ f, o ≠ .ext f := by
  obtain ⟨n, hn⟩ := List.mem_iff_getElem?.mp h
  have hl : n < M.length := by rw [← s.len]; exact (List.getElem?_eq_some_iff.mp hn).1
  have q := s.obj n _ a (List.getElem?_eq_getElem hl) hn
  cases e : M[n] with
  | lst ds => rw [e] at q; obtain ⟨_, h, _⟩ := q; exact ⟨_, h, (fun ps z => by cases z), fun ps z => by cases z⟩
  | dic ks ds => rw [e] at q; obtain ⟨_, h, _⟩ := q; exact ⟨_, h, (fun ps z => by cases z), fun ps z => by cases z⟩
  | ins C fs => rw [e] at q; obtain ⟨_, _, h, _⟩ := q; exact ⟨_, h, (fun ps z => by cases z), fun ps z => by cases z⟩
theorem Sim.fresh (s : Sim L ρ H M) {p : Addr} (n : H p = none) : p ∉ ρ := fun h => by
  obtain ⟨o, q, _⟩ := s.lt h
  rw [n] at q; cases q
theorem Sim.notext (s : Sim L ρ H M) {p : Addr} {f : Heap → Prop} (n : H p = some (.ext f)) : p ∉ ρ := fun h => by
  obtain ⟨o, q, _, z⟩ := s.lt h
  rw [n] at q; cases q
  exact z _ rfl
theorem Mono.orep (m : Mono ρ H ρ1 H1) {a : Addr} {o : MO} (h : ORep L ρ H a o) (e : H1 a = H a) : ORep L ρ1 H1 a o := by
  cases o with
  | lst ds => obtain ⟨vs, q, r⟩ := h; exact ⟨vs, e.trans q, m.repL _ _ r⟩
  | dic ks ds => obtain ⟨vs, q, l, r⟩ := h; exact ⟨vs, e.trans q, l, m.repL _ _ r⟩
  | ins C fs => obtain ⟨dx, fv, q, r⟩ := h; exact ⟨dx, fv, e.trans q, m.repF _ _ r⟩
/-- the tables stand where all but the objects stays -/
theorem Sim.tabs (s : Sim L ρ H M) (k : ∀ a o, H a = some o → a ∉ ρ → H1 a = some o) : ∀ p ∈ L.T, LamX.TabS H1 p.1 p.2 := fun p hp => by
  obtain ⟨n, ps, h1, h2, h3⟩ := s.tab p hp
  refine ⟨ps, k _ _ h1 n, h2, fun pos cv hc => ?_⟩
  obtain ⟨c, e1, e2⟩ := h3 pos cv hc
  exact ⟨c, e1, k _ _ e2 (s.notext e2)⟩
/-- nothing of the objects changed -/
theorem Sim.keep (s : Sim L ρ H M) (m : Mono ρ H ρ H1) (e : ∀ a ∈ ρ, H1 a = H a) (k : ∀ a o, H a = some o → a ∉ ρ → H1 a = some o) : Sim L ρ H1 M :=
  ⟨s.len, s.nd, fun n o a h1 h2 => m.orep (s.obj n o a h1 h2) (e a (List.mem_of_getElem? h2)), fun p hp => ⟨(s.tab p hp).1, s.tabs k p hp⟩⟩
theorem Sim.upd (s : Sim L ρ H M) {p : Addr} {o : HO} (n : H p = none) : Sim L ρ (upd H p o) M := s.keep (upd_keep n) (fun a ha => upd_ne fun z => s.fresh n (z ▸ ha)) fun a u h _ => by rw [upd_ne (ne_of_none h n)]; exact h
/-- a new object joins -/
theorem Sim.join (s : Sim L ρ H M) {p : Addr} {u : HO} {o : MO} (n : H p = none) (m : Mono ρ H (ρ ++ [p]) (L2.upd H p u)) (h : ORep L (ρ ++ [p]) (L2.upd H p u) p o) : Sim L (ρ ++ [p]) (L2.upd H p u) (M ++ [o]) := by
  refine ⟨by simp [s.len], ?_, fun k o' a h1 h2 => ?_, fun q hq => ⟨fun z => ?_, s.tabs (fun a u h _ => by rw [upd_ne (ne_of_none h n)]; exact h) q hq⟩⟩
  · rw [List.nodup_append]
    exact ⟨s.nd, by simp, fun a ha b hb z => s.fresh n (by rw [List.mem_singleton] at hb; subst hb; exact z ▸ ha)⟩
  · by_cases hk : k < M.length
    · rw [List.getElem?_append_left hk] at h1
      rw [List.getElem?_append_left (by rw [s.len]; exact hk)] at h2
      exact m.orep (s.obj k o' a h1 h2) (upd_ne fun z => s.fresh n (z ▸ List.mem_of_getElem? h2))
    · have hk' : k = M.length := by
        have := (List.getElem?_eq_some_iff.mp h1).1
        simp at this
        omega
      subst hk'
      rw [List.getElem?_append_right (Nat.le_refl _)] at h1
      rw [← s.len, List.getElem?_append_right (Nat.le_refl _)] at h2
      simp at h1 h2
      subst h1; subst h2
      exact h
  · obtain ⟨nq, ps, e, _⟩ := s.tab q hq
    rcases List.mem_append.mp z with z | z
    · exact nq z
    · rw [List.mem_singleton] at z
      rw [z, n] at e; cases e
theorem mono_join {p : Addr} {u : HO} (n : H p = none) : Mono ρ H (ρ ++ [p]) (upd H p u) := ⟨⟨[p], rfl, fun a ha o e => by rw [List.mem_singleton] at ha; subst ha; rw [n] at e; cases e⟩,
  fun a o h _ _ => by rw [upd_ne (ne_of_none h n)]; exact h, fun a o h t => ⟨o, by rw [upd_ne (ne_of_none h n)]; exact h, t⟩⟩
/-- an object of ours is written -/
theorem mono_write {p : Addr} {u : HO} (h : p ∈ ρ) (hu : ∀ ps, u ≠ .tbl ps := by intro ps z; cases z) : Mono ρ H ρ (upd H p u) := ⟨⟨[], by simp, by simp⟩, fun a o e n _ => by rw [upd_ne (show a ≠ p from fun z => n (by rw [z]; exact h))]; exact e, fun a o e t => by
  by_cases z : a = p
  · subst z; exact ⟨u, upd_same, hu⟩
  · exact ⟨o, by rw [upd_ne z]; exact e, t⟩⟩
theorem Sim.write (s : Sim L ρ H M) {p : Addr} {u : HO} {n : Nat} {o : MO} (hp : ρ[n]? = some p) (h : ORep L ρ (L2.upd H p u) p o) : Sim L ρ (L2.upd H p u) (M.set n o) := by
  have mp := List.mem_of_getElem? hp
  have hu : ∀ ps, u ≠ .tbl ps := by
    intro ps z
    subst z
    cases o with
    | lst ds => obtain ⟨_, h, _⟩ := h; rw [upd_same] at h; cases h
    | dic ks ds => obtain ⟨_, h, _⟩ := h; rw [upd_same] at h; cases h
    | ins C fs => obtain ⟨_, _, h, _⟩ := h; rw [upd_same] at h; cases h
  refine ⟨by simp [s.len], s.nd, fun k o' a h1 h2 => ?_, fun q hq => ⟨(s.tab q hq).1, s.tabs (fun a u' h hn => by rw [upd_ne (show a ≠ p from fun z => hn (by rw [z]; exact mp))]; exact h) q hq⟩⟩
  by_cases hk : n = k
  · subst hk
    rw [hp] at h2; cases h2
    rw [List.getElem?_set_self (by rw [← s.len]; exact (List.getElem?_eq_some_iff.mp hp).1)] at h1
    cases h1
    exact h
  · rw [List.getElem?_set_ne hk] at h1
    refine (mono_write mp hu).orep (s.obj k o' a h1 h2) (upd_ne fun z => hk ?_)
    subst z
    exact (List.getElem_inj s.nd).mp ((List.getElem?_eq_some_iff.mp hp).2.trans (List.getElem?_eq_some_iff.mp h2).2.symm)
end
end Mi

end
section
/-! M3: readings by the small language's results; the operations. -/
namespace Mi
open PySem L2

structure XLay extends Lay where
  xa : Nat → Addr
  xn : Nat → Str

section
variable (L : XLay)
/-- what an exception brings -/
def Brings (W : WX) (ρ : List Addr) (H : Hp) (sv : St) (c : Nat) (x : D) (M : Hm) : Prop :=
  ∀ ρ' H' dd v, Mono ρ H ρ' H' → Sim L.toLay ρ' H' M → Rep L.toLay ρ' H' x v → dd ∉ ρ' → H' dd = some (.xd [("place", v), ("name", .str (L.xn c))]) → W (.ref (L.xa c)) (some dd) sv H'
/-- what a result brings: T tells how the value lies -/
def Go {α β : Type} (T : List Addr → Hp → α → β → Prop) (W : WX) (ρ : List Addr) (H : Hp) (sv : St) (r : Res α) (Q : β → Hp → Prop) : Prop := match r with
  | .ok a M => ∀ ρ' H' b, Mono ρ H ρ' H' → Sim L.toLay ρ' H' M → T ρ' H' a b → Q b H'
  | .exc c x M => Brings L W ρ H sv c x M
  | .bad => False
abbrev TD : List Addr → Hp → D → V → Prop := fun ρ H d v => Rep L.toLay ρ H d v
abbrev TDs : List Addr → Hp → List D → List V → Prop := fun ρ H d v => RepL L.toLay ρ H d v
abbrev TId (α : Type) : List Addr → Hp → α → α → Prop := fun _ _ a b => b = a
end
section
variable {L : XLay} {α β γ δ : Type} {T : List Addr → Hp → α → β → Prop} {T2 : List Addr → Hp → γ → δ → Prop} {W : WX} {ρ ρ1 : List Addr} {H H1 : Hp} {sv : St} {σ : Env} {M : Hm} {r : Res α} {Q : β → Hp → Prop}

theorem Brings.mono {c : Nat} {x : D} (h : Brings L W ρ H sv c x M) (m : Mono ρ H ρ1 H1) : Brings L W ρ1 H1 sv c x M :=
  fun ρ' H' dd v k s q n e => h ρ' H' dd v (m.trans k) s q n e
theorem Go.mono (h : Go L T W ρ H sv r Q) (m : Mono ρ H ρ1 H1) : Go L T W ρ1 H1 sv r Q := by
  cases r with
  | ok a M => exact fun ρ' H' b k => h ρ' H' b (m.trans k)
  | exc c x M => exact Brings.mono h m
  | bad => exact h
theorem Go.imp {Q' : β → Hp → Prop} (h : Go L T W ρ H sv r Q) (f : ∀ b H', Q b H' → Q' b H') : Go L T W ρ H sv r Q' := by
  cases r with
  | ok a M => exact fun ρ' H' b k s t => f b H' (h ρ' H' b k s t)
  | exc c x M => exact h
  | bad => exact h
/-- a plain end -/
theorem go_ok {a : α} {b : β} (s : Sim L.toLay ρ H M) (h : Go L T W ρ H sv (.ok a M) Q) (t : T ρ H a b) : Q b H := h ρ H b Mono.refl s t
theorem go_lift {o : Option γ} {g : γ → Hm → Res α} (h : Go L T W ρ H sv ((lift o M).bind g) Q) : ∃ c, o = some c ∧ Go L T W ρ H sv (g c M) Q := by
  cases o with
  | none => exact False.elim h
  | some c => exact ⟨c, rfl, h⟩
/-- a new list -/
theorem go_mkl {xs : List D} {vs : List V} {h : Bool} {Q : V → Hp → Prop} (s : Sim L.toLay ρ H M) (r : RepL L.toLay ρ H xs vs) (g : Go L (TD L) W ρ H sv (mkl h xs M) Q) : ∀ p, H p = none → Q (.ref p) (upd H p (.lst vs)) := by
  intro p n
  cases h with
  | true =>
    have m : Mono ρ H (ρ ++ [p]) (upd H p (.lst vs)) := mono_join n
    refine g _ _ _ m (s.join n m ⟨vs, upd_same, m.repL _ _ r⟩) ⟨p, rfl, ?_⟩
    rw [← s.len, List.getElem?_append_right (Nat.le_refl _)]
    simp
  | false =>
    have m : Mono ρ H ρ (upd H p (.lst vs)) := upd_keep n
    exact g _ _ _ m (s.upd n) ⟨p, vs, rfl, s.fresh n, upd_same, m.repL _ _ r⟩
theorem go_mkd {ks : List Key} {xs : List D} {vs : List V} {h : Bool} {Q : V → Hp → Prop} (s : Sim L.toLay ρ H M) (l : ks.length = vs.length) (r : RepL L.toLay ρ H xs vs) (g : Go L (TD L) W ρ H sv (mkd h ks xs M) Q) : ∀ p, H p = none → Q (.ref p) (upd H p (.dK (ks.zip vs))) := by
  intro p n
  cases h with
  | true =>
    have m : Mono ρ H (ρ ++ [p]) (upd H p (.dK (ks.zip vs))) := mono_join n
    refine g _ _ _ m (s.join n m ⟨vs, upd_same, l, m.repL _ _ r⟩) ⟨p, rfl, ?_⟩
    rw [← s.len, List.getElem?_append_right (Nat.le_refl _)]
    simp
  | false =>
    have m : Mono ρ H ρ (upd H p (.dK (ks.zip vs))) := upd_keep n
    exact g _ _ _ m (s.upd n) ⟨p, vs, rfl, s.fresh n, upd_same, l, m.repL _ _ r⟩
/-- a new tuple -/
theorem go_tup {xs : List D} {vs : List V} {Q : V → Hp → Prop} (s : Sim L.toLay ρ H M) (r : RepL L.toLay ρ H xs vs) (g : Go L (TD L) W ρ H sv (.ok (.tup xs) M) Q) : ∀ p, H p = none → Q (.ref p) (upd H p (.tup vs)) := by
  intro p n
  have m : Mono ρ H ρ (upd H p (.tup vs)) := upd_keep n
  exact g _ _ _ m (s.upd n) ⟨p, vs, rfl, .inl ⟨s.fresh n, .inl upd_same⟩, m.repL _ _ r⟩
end

theorem sz_ok {n : Nat} (h : szOk n = true) : n ≤ sizeLine := by
  rw [sizeLine_eq]; exact of_decide_eq_true h
theorem num64_ok {i : Int} (h : num64 i = true) : -(2 ^ 64) < i ∧ i < 2 ^ 64 := by
  unfold num64 at h
  rw [Bool.and_eq_true] at h
  exact ⟨of_decide_eq_true h.1, of_decide_eq_true h.2⟩
theorem num64_nat {i : Int} (h : num64 i = true) : i.natAbs < 2 ^ 64 := by
  have := num64_ok h
  omega

def bopr : BOp → Operator
  | .add => .Add | .sub => .Sub | .mul => .Mult | .fdiv => .FloorDiv | .mod => .Mod | .pow => .Pow | .shl => .LShift | .shr => .RShift | .band => .BitAnd | .bor => .BitOr | .bxor => .BitXor
def uopr : UOp → UnaryOp
  | .neg => .USub | .inv => .Invert
def copr : COp → CmpOp
  | .eq => .Eq | .ne => .NotEq | .lt => .Lt | .le => .LtE | .gt => .Gt | .ge => .GtE | .is => .Is | .isnot => .IsNot | .isin => .In | .notin => .NotIn

section
variable {L : XLay} {X : Cx} {W : WX}
/-- the reading of a binary operation -/
def rBin (L : XLay) (W : WX) (o : BOp) (h : Bool) : R2 := fun x y H Q => ∃ ρ M a b sv, Sim L.toLay ρ H M ∧ Rep L.toLay ρ H a x ∧ Rep L.toLay ρ H b y ∧ Go L (TD L) W ρ H sv (opBin o h a b M) Q
theorem go_if {α β : Type} {T : List Addr → Hp → α → β → Prop} {ρ : List Addr} {H : Hp} {sv : St} {Q : β → Hp → Prop} {c : Bool} {r : Res α} (g : Go L T W ρ H sv (if c = true then r else .bad) Q) : c = true ∧ Go L T W ρ H sv r Q := by
  cases c with
  | true => exact ⟨rfl, g⟩
  | false => exact False.elim g
theorem op_bin (hK : X.K = L.K) (o : BOp) (h : Bool) : OpR X (binaryOp (bopr o)) (rBin L W o h) := by
  intro pins s σ H x y v u Q I rx ry q
  obtain ⟨ρ, M, a, b, sv, sm, ra, rb, g⟩ := q
  have fin : ∀ {z : D} {w : V}, Go L (TD L) W ρ H sv (.ok z M) Q → Rep L.toLay ρ H z w → Q w H := fun {z w} g r => go_ok (T := TD L) sm g r
  cases o with
  | add =>
    by_cases hi : (∃ i j, a = .int i ∧ b = .int j)
    · obtain ⟨i, j, rfl, rfl⟩ := hi
      exact op_add pins s σ H x y v u Q I rx ry ⟨i, j, ra, rb, fin g rfl⟩
    by_cases hs : (∃ i j, a = .str i ∧ b = .str j)
    · obtain ⟨i, j, rfl, rfl⟩ := hs
      obtain ⟨c, g⟩ := go_if g
      exact op_add_str pins s σ H x y v u Q I rx ry ⟨i, j, ra, rb, sz_ok c, fin g rfl⟩
    by_cases ht : (∃ i j, a = .tup i ∧ b = .tup j)
    · obtain ⟨i, j, rfl, rfl⟩ := ht
      obtain ⟨c, g⟩ := go_if g
      obtain ⟨p, vs, rfl, hp, r1⟩ := tup_sq ra
      obtain ⟨q, ws, rfl, hq, r2⟩ := tup_sq rb
      refine op_catA pins s σ H _ _ v u Q I rx ry ⟨p, q, vs, ws, rfl, rfl, by rw [hK]; exact hp, by rw [hK]; exact hq, by rw [r1.len, r2.len]; exact sz_ok c, fun e => ?_, fun n e => ?_, fun n1 n2 => ?_⟩
      · have : i = [] := by
          have := r1.len
          rw [e] at this
          exact List.eq_nil_of_length_eq_zero this.symm
        subst this
        exact fin (z := .tup j) g rb
      · have : j = [] := by
          have := r2.len
          rw [e] at this
          exact List.eq_nil_of_length_eq_zero this.symm
        subst this
        rw [List.append_nil] at g
        exact fin (z := .tup i) g ra
      · exact go_tup sm (r1.append r2) g
    have key : ∃ xs ys, trk? M a = some xs ∧ trk? M b = some ys ∧ Go L (TD L) W ρ H sv (if szOk (xs.length + ys.length) = true then mkl h (xs ++ ys) M else .bad) Q := by
      have e : opBin .add h a b M = match trk? M a, trk? M b with
        | some xs, some ys => if szOk (xs.length + ys.length) then mkl h (xs ++ ys) M else .bad
        | _, _ => .bad := by
        unfold opBin
        split <;> first | rfl | (exfalso; first | exact hi ⟨_, _, rfl, rfl⟩ | exact hs ⟨_, _, rfl, rfl⟩ | exact ht ⟨_, _, rfl, rfl⟩) | skip
        all_goals exact absurd (rfl : BOp.add = BOp.add) (by assumption)
      rw [e] at g
      cases e1 : trk? M a with
      | none => rw [e1] at g; exact False.elim g
      | some xs =>
        cases e2 : trk? M b with
        | none => rw [e1, e2] at g; exact False.elim g
        | some ys => rw [e1, e2] at g; exact ⟨xs, ys, rfl, rfl, g⟩
    obtain ⟨xs, ys, e1, e2, g⟩ := key
    obtain ⟨c, g⟩ := go_if g
    obtain ⟨p, vs, rfl, hp, r1⟩ := trk?_at sm ra e1
    obtain ⟨q, ws, rfl, hq, r2⟩ := trk?_at sm rb e2
    exact op_cat pins s σ H _ _ v u Q I rx ry ⟨p, q, vs, ws, rfl, rfl, hp, hq, by rw [r1.len, r2.len]; exact sz_ok c, go_mkl sm (r1.append r2) g⟩
  | sub =>
    cases a <;> cases b <;> first | exact False.elim g | skip
    exact op_sub pins s σ H x y v u Q I rx ry ⟨_, _, ra, rb, fin g rfl⟩
  | mul =>
    cases a <;> cases b <;> first | exact False.elim g | skip
    obtain ⟨c, g⟩ := go_if g
    rw [Bool.or_eq_true] at c
    exact op_mul pins s σ H x y v u Q I rx ry ⟨_, _, ra, rb, c.imp num64_ok num64_ok, fin g rfl⟩
  | fdiv =>
    cases a <;> cases b <;> first | exact False.elim g | skip
    obtain ⟨c, g⟩ := go_if g
    rw [Bool.and_eq_true] at c
    exact op_fdivW pins s σ H x y v u Q I rx ry ⟨_, _, ra, rb, wide_div (b := 64) (of_decide_eq_true c.1) (num64_nat c.2) (by decide) (by decide), fin g rfl⟩
  | mod =>
    cases a <;> cases b <;> first | exact False.elim g | skip
    obtain ⟨c, g⟩ := go_if g
    exact op_mod pins s σ H x y v u Q I rx ry ⟨_, _, ra, rb, of_decide_eq_true c, fin g rfl⟩
  | pow =>
    cases a <;> cases b <;> first | exact False.elim g | skip
    obtain ⟨c, g⟩ := go_if g
    rw [Bool.and_eq_true, Bool.and_eq_true] at c
    exact op_pow pins s σ H x y v u Q I rx ry ⟨_, _, ra, rb, ⟨of_decide_eq_true c.1.1, of_decide_eq_true c.1.2, num64_nat c.2⟩, fin g rfl⟩
  | shl =>
    cases a <;> cases b <;> first | exact False.elim g | skip
    obtain ⟨c, g⟩ := go_if g
    rw [Bool.and_eq_true, Bool.and_eq_true] at c
    exact op_shl pins s σ H x y v u Q I rx ry ⟨_, _, ra, rb, ⟨of_decide_eq_true c.1.1, of_decide_eq_true c.1.2, num64_nat c.2⟩, fin g rfl⟩
  | shr =>
    cases a <;> cases b <;> first | exact False.elim g | skip
    obtain ⟨c, g⟩ := go_if g
    exact op_shr pins s σ H x y v u Q I rx ry ⟨_, _, ra, rb, of_decide_eq_true c, fin g rfl⟩
  | band =>
    cases a <;> cases b <;> first | exact False.elim g | skip
    exact op_and pins s σ H x y v u Q I rx ry ⟨_, _, ra, rb, fin g rfl⟩
  | bor =>
    cases a <;> cases b <;> first | exact False.elim g | skip
    exact op_or pins s σ H x y v u Q I rx ry ⟨_, _, ra, rb, fin g rfl⟩
  | bxor =>
    cases a <;> cases b <;> first | exact False.elim g | skip
    exact op_xor pins s σ H x y v u Q I rx ry ⟨_, _, ra, rb, fin g rfl⟩
def rUn (L : XLay) (W : WX) (o : UOp) : V → Hp → VK → Prop := fun x H Q => ∃ ρ M a sv, Sim L.toLay ρ H M ∧ Rep L.toLay ρ H a x ∧ Go L (TD L) W ρ H sv (opUn o a M) Q
theorem op_un (o : UOp) : UnR X (unaryOp (uopr o)) (rUn L W o) := by
  intro pins s σ H x v Q I rx q
  obtain ⟨ρ, M, a, sv, sm, ra, g⟩ := q
  cases o with
  | neg =>
    cases a <;> first | exact False.elim g | skip
    exact un_neg pins s σ H x v Q I rx ⟨_, ra, go_ok (T := TD L) sm g rfl⟩
  | inv =>
    cases a <;> first | exact False.elim g | skip
    exact un_inv pins s σ H x v Q I rx ⟨_, ra, go_ok (T := TD L) sm g rfl⟩
end
end Mi

end
section
/-! M4: comparisons, subscripts, slices, built-in functions and methods, isinstance. -/
namespace Mi
open PySem L2
section
variable {L : XLay} {X : Cx} {W : WX}
/-! ### == -/
mutual
theorem py_dp {ρ : List Addr} {H : Hp} : ∀ (d : D) (p : PyData) (v : V), D.py d = some p → Rep L.toLay ρ H d v → Dp L.K H v p
  | .non, _, _, e, r => by cases e; rw [show _ = V.non from r]; exact .non
  | .bl b, _, _, e, r => by cases e; rw [show _ = V.bl b from r]; exact .bl b
  | .int i, _, _, e, r => by cases e; rw [show _ = V.int i from r]; exact .int i
  | .str x, _, _, e, r => by cases e; rw [show _ = V.str x from r]; exact .str x
  | .tup ds, p, v, e, r => by
    obtain ⟨a, vs, rfl, q, rr⟩ := tup_sq r
    obtain ⟨ps, e1, rfl⟩ := Option.map_eq_some_iff.mp (show (D.pys ds).map PyData.tuple = some p from e)
    exact .tup q (pys_dp ds ps vs e1 rr)
  | .lst ds, p, v, e, r => by
    obtain ⟨a, vs, rfl, q, rr⟩ := lst_sq r
    obtain ⟨ps, e1, rfl⟩ := Option.map_eq_some_iff.mp (show (D.pys ds).map PyData.list = some p from e)
    exact .lst q (pys_dp ds ps vs e1 rr)
  | .flst ds, p, v, e, r => by
    obtain ⟨a, vs, rfl, q, rr⟩ := flst_sq r
    obtain ⟨ps, e1, rfl⟩ := Option.map_eq_some_iff.mp (show (D.pys ds).map PyData.list = some p from e)
    exact .lst q (pys_dp ds ps vs e1 rr)
  | .dic _ _, _, _, e, _ => by cases e
  | .ref _, _, _, e, _ => by cases e
  | .fn _, _, _, e, _ => by cases e
theorem pys_dp {ρ : List Addr} {H : Hp} : ∀ (ds : List D) (ps : List PyData) (vs : List V), D.pys ds = some ps → RepL L.toLay ρ H ds vs → DpAll L.K H vs ps
  | [], _, _, e, r => by cases e; rw [show _ = [] from r]; exact .nil
  | d :: ds, ps, vs, e, ⟨v, t, e1, h1, h2⟩ => by
    subst e1
    unfold D.pys at e
    split at e
    · rename_i p qs ea eb
      cases e
      exact .cons (py_dp d p v ea h1) (pys_dp ds qs t eb h2)
    · cases e
end
theorem cont_dp {ρ : List Addr} {H : Hp} {M : Hm} {d : D} {p : PyData} {v : V} (s : Sim L.toLay ρ H M) (e : (cont M d).py = some p) (r : Rep L.toLay ρ H d v) : Dp L.K H v p := by
  cases d with
  | ref n =>
    cases q : M[n]? with
    | none => simp [cont, q, D.py] at e
    | some o =>
      cases o with
      | lst xs =>
        have e' : (D.lst xs).py = some p := by simpa [cont, q] using e
        obtain ⟨a, rfl, _, vs, h1, rr⟩ := s.at r q
        obtain ⟨ps, e1, rfl⟩ := Option.map_eq_some_iff.mp (show (D.pys xs).map PyData.list = some p from e')
        exact .lst (SqL.of h1) (pys_dp xs ps vs e1 rr)
      | _ => simp [cont, q, D.py] at e
  | _ => exact py_dp _ p v e r
theorem eqS_ok {ρ : List Addr} {H : Hp} {a b : D} {x y : V} {k : Bool} (e : eqS a b = some k) (ra : Rep L.toLay ρ H a x) (rb : Rep L.toLay ρ H b y) : scal x y = true ∧ k = decide (x = y) := by
  cases a <;> cases b <;> first | (simp [eqS] at e; done) | skip
  all_goals (
    rw [show x = _ from ra, show y = _ from rb]
    have e := Option.some.inj e
    subst e
    refine ⟨rfl, ?_⟩
    first
      | rfl
      | simp)
theorem eqD_ok {ρ : List Addr} {H : Hp} {M : Hm} {a b : D} {x y : V} {k : Bool} (sm : Sim L.toLay ρ H M) (e : eqD a b M = some k) (ra : Rep L.toLay ρ H a x) (rb : Rep L.toLay ρ H b y) :
    (scal x y = true ∧ k = decide (x = y)) ∨ ∃ p q, Dp L.K H x p ∧ Dp L.K H y q ∧ SeqAt.shaped p = true ∧ SeqAt.shaped q = true ∧ k = PyData.eqv p q := by
  unfold eqD at e
  split at e
  · rename_i b e1
    cases e
    exact .inl (eqS_ok e1 ra rb)
  · split at e
    · rename_i p q e1 e2
      split at e
      · rename_i c
        rw [Bool.and_eq_true] at c
        cases e
        exact .inr ⟨p, q, cont_dp sm e1 ra, cont_dp sm e2 rb, c.1, c.2, rfl⟩
      · cases e
    · cases e
/-! ### in -/
theorem flat_rep {ρ : List Addr} {H : Hp} {a : D} {x : V} (h : flatD a = true) (r : Rep L.toLay ρ H a x) : flatV x = true := by
  cases a <;> first | (simp [flatD] at h; done) | (rw [show x = _ from r]; rfl)
theorem flats_rep {ρ : List Addr} {H : Hp} : ∀ {ds : List D} {vs : List V}, ds.all flatD = true → RepL L.toLay ρ H ds vs → vs.all flatV = true
  | [], _, _, r => by rw [show _ = [] from r]; rfl
  | d :: ds, _, h, ⟨v, t, e, h1, h2⟩ => by
    rw [List.all_cons, Bool.and_eq_true] at h
    rw [e, List.all_cons, flat_rep h.1 h1, flats_rep h.2 h2]
    rfl
theorem eqF_rep {ρ : List Addr} {H : Hp} {a b : D} {x y : V} (fa : flatD a = true) (fb : flatD b = true) (ra : Rep L.toLay ρ H a x) (rb : Rep L.toLay ρ H b y) : eqF a b = eqV x y := by
  cases a <;> first | (simp [flatD] at fa; done) | skip
  all_goals (
    cases b <;> first | (simp [flatD] at fb; done) | skip
    all_goals (rw [show x = _ from ra, show y = _ from rb]; rfl))
theorem inF_rep {ρ : List Addr} {H : Hp} {a : D} {x : V} (fa : flatD a = true) (ra : Rep L.toLay ρ H a x) : ∀ {ds : List D} {vs : List V}, ds.all flatD = true → RepL L.toLay ρ H ds vs → (ds.any fun z => eqF z a) = inV x vs
  | [], _, _, r => by rw [show _ = [] from r]; rfl
  | d :: ds, _, h, ⟨v, t, e, h1, h2⟩ => by
    rw [List.all_cons, Bool.and_eq_true] at h
    have ih := inF_rep fa ra h.2 h2
    unfold inV at ih ⊢
    rw [e, List.any_cons, List.any_cons, eqF_rep h.1 fa h1 ra, ih]
/-! ### dicts -/
theorem key_rep {ρ : List Addr} {H : Hp} {a : D} {x : V} {k : Key} (e : keyD a = some k) (r : Rep L.toLay ρ H a x) : x = kV k := by
  cases a <;> first | (simp [keyD] at e; done) | (cases e; exact r)
theorem dGet_rep {ρ : List Addr} {H : Hp} {k : Key} : ∀ {ks : List Key} {ds : List D} {vs : List V}, ks.length = vs.length → RepL L.toLay ρ H ds vs →
    match dGet ks ds k, valV (ks.zip vs) k with
    | some d, some v => Rep L.toLay ρ H d v
    | none, none => True
    | _, _ => False
  | [], ds, vs, _, r => by simp [dGet, valV]
  | j :: ks, [], vs, l, r => by
    rw [show vs = [] from r] at l
    cases l
  | j :: ks, d :: ds, _, l, ⟨v, t, e, h1, h2⟩ => by
    subst e
    have ih := dGet_rep (k := k) (ks := ks) (ds := ds) (vs := t) (by simpa using l) h2
    by_cases hj : j = k
    · subst hj
      simp only [dGet, valV, List.zip_cons_cons, List.find?_cons, decide_true, Option.map_some]
      exact h1
    · have e1 : dGet (j :: ks) (d :: ds) k = dGet ks ds k := by simp [dGet, List.zip_cons_cons, List.find?_cons, hj]
      have e2 : valV ((j :: ks).zip (v :: t)) k = valV (ks.zip t) k := by simp [valV, List.zip_cons_cons, List.find?_cons, hj]
      rw [e1, e2]
      exact ih
theorem dGet_some {ρ : List Addr} {H : Hp} {k : Key} {ks : List Key} {ds : List D} {vs : List V} {d : D} (l : ks.length = vs.length) (r : RepL L.toLay ρ H ds vs) (e : dGet ks ds k = some d) : ∃ v, valV (ks.zip vs) k = some v ∧ Rep L.toLay ρ H d v := by
  have h := dGet_rep (k := k) l r
  rw [e] at h
  cases q : valV (ks.zip vs) k with
  | none => rw [q] at h; exact h.elim
  | some v => rw [q] at h; exact ⟨v, rfl, h⟩
theorem dGet_is {ρ : List Addr} {H : Hp} {k : Key} {ks : List Key} {ds : List D} {vs : List V} (l : ks.length = vs.length) (r : RepL L.toLay ρ H ds vs) : (valV (ks.zip vs) k).isSome = (dGet ks ds k).isSome := by
  have h := dGet_rep (k := k) l r
  cases e : dGet ks ds k <;> cases q : valV (ks.zip vs) k <;> rw [e, q] at h <;> first | rfl | exact h.elim
theorem kput_rep {ρ : List Addr} {H : Hp} {k : Key} {d : D} {w : V} {ks : List Key} {ds : List D} {vs : List V} (l : ks.length = vs.length) (r : RepL L.toLay ρ H ds vs) (rd : Rep L.toLay ρ H d w) :
    ∃ ws, L2.putK (ks.zip vs) k w = (kput k d ks ds).1.zip ws ∧ (kput k d ks ds).1.length = ws.length ∧ RepL L.toLay ρ H (kput k d ks ds).2 ws := by
  have hany : ((ks.zip vs).any fun kv => decide (kv.1 = k)) = ks.any fun j => decide (j = k) := by
    clear r
    induction ks generalizing vs with
    | nil => rfl
    | cons j ks ih =>
      cases vs with
      | nil => cases l
      | cons v vs =>
        rw [List.zip_cons_cons, List.any_cons, List.any_cons, ih (by simpa using l)]
  unfold L2.putK kput
  rw [hany]
  by_cases c : (ks.any fun j => decide (j = k)) = true
  · rw [if_pos c, if_pos c]
    refine ⟨(ks.zip vs).map fun p => if p.1 = k then w else p.2, ?_, by simp [l], ?_⟩
    · clear c hany r
      induction ks generalizing vs with
      | nil => rfl
      | cons j ks ih =>
        cases vs with
        | nil => cases l
        | cons v vs =>
          simp only [List.zip_cons_cons, List.map_cons]
          rw [ih (by simpa using l)]
          by_cases hj : j = k <;> simp [hj]
    · clear c hany
      induction ks generalizing vs ds with
      | nil =>
        cases vs with
        | nil => rfl
        | cons _ _ => cases l
      | cons j ks ih =>
        cases vs with
        | nil => cases l
        | cons v vs =>
          cases ds with
          | nil => cases (show v :: vs = [] from r)
          | cons d0 ds =>
            obtain ⟨v', t, e, h1, h2⟩ := r
            cases e
            simp only [List.zip_cons_cons, List.map_cons]
            refine ⟨_, _, rfl, ?_, ih (by simpa using l) h2⟩
            by_cases hj : j = k
            · simp only [hj, if_true]; exact rd
            · simp only [hj, if_false]; exact h1
  · rw [if_neg c, if_neg c]
    refine ⟨vs ++ [w], ?_, by simp [l], r.append (RepL.mk1 rd)⟩
    rw [List.zip_append l]
    rfl
/-! ### comparisons -/
def rCmp (L : XLay) (o : COp) : R2 := fun x y H Q => ∃ ρ M a b k, Sim L.toLay ρ H M ∧ Rep L.toLay ρ H a x ∧ Rep L.toLay ρ H b y ∧ opCmp o a b M = some k ∧ Q (.bl k) H
theorem isD_ok {ρ : List Addr} {H : Hp} {a b : D} {x y : V} {k : Bool} (e : isD a b = some k) (ra : Rep L.toLay ρ H a x) (rb : Rep L.toLay ρ H b y) : y = .non ∧ k = decide (x = .non) := by
  cases b <;> first | (simp [isD] at e; done) | skip
  refine ⟨rb, ?_⟩
  cases a with
  | non => cases e; rw [show x = _ from ra]; rfl
  | bl _ => cases e; rw [show x = _ from ra]; rfl
  | int _ => cases e; rw [show x = _ from ra]; rfl
  | str _ => cases e; rw [show x = _ from ra]; rfl
  | tup _ => cases e; obtain ⟨_, _, rfl, _⟩ := ra; rfl
  | lst _ => cases e; obtain ⟨_, _, rfl, _⟩ := ra; rfl
  | flst _ => cases e; obtain ⟨_, _, rfl, _⟩ := ra; rfl
  | dic _ _ => cases e; obtain ⟨_, _, rfl, _⟩ := ra; rfl
  | ref _ => cases e; obtain ⟨_, rfl, _⟩ := ra; rfl
  | fn _ => cases e; rw [show x = _ from ra]; rfl
theorem op_cmp (hK : X.K = L.K) (hu : X.A.units + 64 < cLine) (o : COp) : OpR X (compareOp (copr o)) (rCmp L o) := by
  intro pins s σ H x y v u Q I rx ry q
  obtain ⟨ρ, M, a, b, k, sm, ra, rb, e, q⟩ := q
  have inCase : ∀ {k : Bool}, inD a b M = some k → (∃ p vs, y = .ref p ∧ (SqL X.K H p vs ∨ SqT X.K H p vs) ∧ flatV x = true ∧ vs.all flatV = true ∧ k = inV x vs) ∨ ∃ p o, y = .ref p ∧ DGet H p x o ∧ k = o.isSome := by
    intro k e
    unfold inD at e
    split at e
    · rename_i xs e1
      split at e
      · rename_i c
        rw [Bool.and_eq_true] at c
        cases e
        obtain ⟨p, vs, ep, hq, rr⟩ := items?_sq sm rb e1
        exact .inl ⟨p, vs, ep, by rw [hK]; exact hq, flat_rep c.1 ra, flats_rep c.2 rr, inF_rep c.1 ra c.2 rr⟩
      · cases e
    · split at e
      · rename_i ks ds kk e1 e2
        cases e
        obtain ⟨p, vs, ep, hq, hl, rr⟩ := dict?_rep sm rb e1
        refine .inr ⟨p, valV (ks.zip vs) kk, ep, ?_, (dGet_is hl rr).symm⟩
        rw [key_rep e2 ra]
        exact DGet.k hq
      · cases e
  cases o with
  | eq =>
    rcases eqD_ok sm e ra rb with ⟨h1, h2⟩ | ⟨p, r, h1, h2, h3, h4, h5⟩
    · exact op_eq pins s σ H x y v u Q I rx ry ⟨h1, by rw [← h2]; exact q⟩
    · exact op_eqD hu pins s σ H x y v u Q I rx ry ⟨p, r, by rw [hK]; exact h1, by rw [hK]; exact h2, h3, h4, by rw [← h5]; exact q⟩
  | ne =>
    obtain ⟨k', e', rfl⟩ := Option.map_eq_some_iff.mp (show (eqD a b M).map (fun b => !b) = some k from e)
    rcases eqD_ok sm e' ra rb with ⟨h1, h2⟩ | ⟨p, r, h1, h2, h3, h4, h5⟩
    · exact op_ne pins s σ H x y v u Q I rx ry ⟨h1, by rw [← h2]; exact q⟩
    · exact op_neD hu pins s σ H x y v u Q I rx ry ⟨p, r, by rw [hK]; exact h1, by rw [hK]; exact h2, h3, h4, by rw [← h5]; exact q⟩
  | lt =>
    cases a <;> cases b <;> first | (simp [opCmp] at e; done) | skip
    cases e
    exact op_lt pins s σ H x y v u Q I rx ry ⟨_, _, ra, rb, q⟩
  | le =>
    cases a <;> cases b <;> first | (simp [opCmp] at e; done) | skip
    · cases e
      exact op_le pins s σ H x y v u Q I rx ry ⟨_, _, ra, rb, q⟩
    · rename_i i j
      have e2 : k = !decide (j.cps.toList < i.cps.toList) := by
        have := Option.some.inj (show some (decide (¬ j.cps.toList < i.cps.toList)) = some k from e)
        rw [← this, decide_not]
      subst e2
      exact op_le_str pins s σ H x y v u Q I rx ry ⟨_, _, ra, rb, q⟩
  | gt =>
    cases a <;> cases b <;> first | (simp [opCmp] at e; done) | skip
    cases e
    exact op_gt pins s σ H x y v u Q I rx ry ⟨_, _, ra, rb, q⟩
  | ge =>
    cases a <;> cases b <;> first | (simp [opCmp] at e; done) | skip
    cases e
    exact op_ge pins s σ H x y v u Q I rx ry ⟨_, _, ra, rb, q⟩
  | is =>
    obtain ⟨h1, h2⟩ := isD_ok (show isD a b = some k from e) ra rb
    exact op_isN pins s σ H x y v u Q I rx ry ⟨h1, by rw [← h2]; exact q⟩
  | isnot =>
    obtain ⟨k', e', rfl⟩ := Option.map_eq_some_iff.mp (show (isD a b).map (fun b => !b) = some k from e)
    obtain ⟨h1, h2⟩ := isD_ok e' ra rb
    exact op_notN pins s σ H x y v u Q I rx ry ⟨h1, by rw [← h2]; exact q⟩
  | isin =>
    rcases inCase (show inD a b M = some k from e) with ⟨p, vs, rfl, h1, h2, h3, rfl⟩ | ⟨p, o, rfl, h1, rfl⟩
    · exact op_in_seq pins s σ H x _ v u Q I rx ry ⟨p, vs, rfl, h1, h2, h3, q⟩
    · cases ry
      exact d_in (by omega) I h1 rx fun s' I' => ⟨.bl o.isSome, H, I', rfl, q⟩
  | notin =>
    obtain ⟨k', e', rfl⟩ := Option.map_eq_some_iff.mp (show (inD a b M).map (fun b => !b) = some k from e)
    rcases inCase e' with ⟨p, vs, rfl, h1, h2, h3, rfl⟩ | ⟨p, o, rfl, h1, rfl⟩
    · exact op_notIn_seq pins s σ H x _ v u Q I rx ry ⟨p, vs, rfl, h1, h2, h3, q⟩
    · cases ry
      exact d_notIn (by omega) I h1 rx fun s' I' => ⟨.bl (!o.isSome), H, I', rfl, q⟩
end
end Mi

end
section
/-! M5: subscripts, slices, built-in functions and methods, isinstance. -/
namespace Mi
open PySem L2
section
variable {L : XLay} {X : Cx} {W : WX} {ρ : List Addr} {H : Hp} {M : Hm}
/-! ### subscripts -/
theorem atI_rep {ds : List D} {vs : List V} {i : Int} {d : D} (r : RepL L.toLay ρ H ds vs) (e : atI ds i = some d) : ∃ v, atI vs i = some v ∧ Rep L.toLay ρ H d v := by
  unfold atI at e ⊢
  rw [r.len]
  cases q : ixN ds.length i with
  | none => rw [q] at e; cases e
  | some j =>
    rw [q] at e
    exact r.at (i := j) e
def rIxM (L : XLay) : R2 := fun x y H Q => ∃ ρ M a b d, Sim L.toLay ρ H M ∧ Rep L.toLay ρ H a x ∧ Rep L.toLay ρ H b y ∧ opIx a b M = some d ∧ ∀ w, Rep L.toLay ρ H d w → Q w H
theorem ix_dict (hu : X.A.units + 1 < cLine) : IxR X (fun x y H Q => ∃ a v, x = .ref a ∧ DGet H a y (some v) ∧ Q v H) := by
  intro value slice pins s σ H x y v u Q I rx ry h hs
  obtain ⟨a, w, rfl, g, q⟩ := h
  cases rx
  exact PyProof.Rows.tail_any (dict_typeIs I g) PySem.F.slot_dict_getitem.lookup (d_getItem hu I g ry fun w' s' I' rw' => ⟨w, H, I', rw', q⟩) hs
theorem ix_all (hK : X.K = L.K) (hu : X.A.units + 1 < cLine) : IxR X (rIxM L) := by
  intro value slice pins s σ H x y v u Q I rx ry h hs
  obtain ⟨ρ, M, a, b, d, sm, ra, rb, e, q⟩ := h
  have seq : ∀ {xs : List D} {i : Int}, items? M a = some xs → b = .int i → atI xs i = some d → wpAny (model X.prog X.w) X.A (PyProof.Rows.subscriptTail value slice v u) (EP X pins σ Q) X.xe s := by
    intro xs i e1 e2 e3
    subst e2
    obtain ⟨p, vs, rfl, hq, rr⟩ := items?_sq sm ra e1
    obtain ⟨w, ew, rw'⟩ := atI_rep rr e3
    rcases hq with hq | hq
    · exact ix_list value slice pins s σ H _ y v u Q I rx ry ⟨p, vs, i, w, rfl, rb, by rw [hK]; exact hq, ew, q w rw'⟩ hs
    · exact ix_tup value slice pins s σ H _ y v u Q I rx ry ⟨p, vs, i, w, rfl, rb, by rw [hK]; exact hq, ew, q w rw'⟩ hs
  have dct : ∀ {ks : List Key} {ds : List D} {k : Key}, dict? M a = some (ks, ds) → keyD b = some k → dGet ks ds k = some d → wpAny (model X.prog X.w) X.A (PyProof.Rows.subscriptTail value slice v u) (EP X pins σ Q) X.xe s := by
    intro ks ds k e1 e2 e3
    obtain ⟨p, vs, rfl, hq, hl, rr⟩ := dict?_rep sm ra e1
    obtain ⟨w, ew, rw'⟩ := dGet_some hl rr e3
    refine ix_dict hu value slice pins s σ H _ y v u Q I rx ry ⟨p, w, rfl, ?_, q w rw'⟩ hs
    rw [key_rep e2 rb, ← ew]
    exact DGet.k hq
  unfold opIx at e
  cases e0 : str? a with
  | some z =>
    rw [e0] at e
    cases a <;> first | (simp [str?] at e0; done) | skip
    cases e0
    cases b <;> first | (simp [int?] at e; done) | skip
    rename_i i
    simp only [int?] at e
    split at e
    · rename_i c
      obtain ⟨c', e1, rfl⟩ := Option.map_eq_some_iff.mp e
      exact ix_str value slice pins s σ H x y v u Q I rx ry ⟨z, i, c', ra, rb, sz_ok c, e1, q _ rfl⟩ hs
    · cases e
  | none =>
    rw [e0] at e
    cases e1 : items? M a with
    | some xs =>
      rw [e1] at e
      cases b <;> first | (simp [int?] at e; done) | skip
      exact seq e1 rfl e
    | none =>
      rw [e1] at e
      cases e2 : dict? M a with
      | none => rw [e2] at e; cases e
      | some d =>
        rw [e2] at e
        cases e3 : keyD b with
        | none => rw [e3] at e; cases e
        | some k => rw [e3] at e; exact dct (ks := d.1) (ds := d.2) e2 e3 e
/-! ### slices -/
theorem cut_rep {ds : List D} {vs : List V} {lo hi : Option Int} (r : RepL L.toLay ρ H ds vs) : RepL L.toLay ρ H (cutD ds lo hi) (cutV vs lo hi) := by
  unfold cutD cutV
  rw [r.len]
  exact (r.drop _).take _
def rSlM (L : XLay) (W : WX) (h : Bool) : V → Option Int → Option Int → Hp → VK → Prop := fun x lo hi H Q => ∃ ρ M a sv, Sim L.toLay ρ H M ∧ Rep L.toLay ρ H a x ∧ Go L (TD L) W ρ H sv (opSl h a lo hi M) Q
theorem sl_all (hK : X.K = L.K) (h : Bool) : SlR X (rSlM L W h) := by
  intro pins s σ H x v vl vu lo hi sl Q I rx hs pl pu q
  obtain ⟨ρ, M, a, sv, sm, ra, g⟩ := q
  by_cases ht : ∃ xs, a = .tup xs
  · obtain ⟨xs, rfl⟩ := ht
    obtain ⟨p, vs, rfl, hq, rr⟩ := tup_sq ra
    refine sl_tupA pins s σ H _ v vl vu lo hi sl Q I rx hs pl pu ⟨p, vs, rfl, by rw [hK]; exact hq, fun hw => ?_, fun _ => ?_⟩
    · have e : cutD xs lo hi = xs := by
        unfold cutD
        rw [rr.len] at hw
        rw [hw.1, hw.2]
        simp
      refine go_ok (T := TD L) sm (b := .ref p) g ?_
      show Rep L.toLay ρ H (.tup (cutD xs lo hi)) _
      rw [e]
      exact ra
    · exact go_tup sm (cut_rep rr) g
  · have e : opSl h a lo hi M = match lst? M a with
      | some xs => mkl h (cutD xs lo hi) M
      | none => .bad := by
      unfold opSl
      split
      · exact absurd ⟨_, rfl⟩ ht
      · rfl
    rw [e] at g
    cases e1 : lst? M a with
    | none => rw [e1] at g; exact False.elim g
    | some xs =>
      rw [e1] at g
      obtain ⟨p, vs, rfl, hq, rr⟩ := lst?_sq sm ra e1
      exact sl_list pins s σ H _ v vl vu lo hi sl Q I rx hs pl pu ⟨p, vs, rfl, by rw [hK]; exact hq, go_mkl sm (cut_rep rr) g⟩
/-! ### lists of one kind -/
theorem ints_rep : ∀ {ds : List D} {ns : List Int} {vs : List V}, ints? ds = some ns → RepL L.toLay ρ H ds vs → vs = ns.map V.int
  | [], _, _, e, r => by cases e; exact r
  | d :: ds, ns, vs, e, ⟨v, t, e1, h1, h2⟩ => by
    cases d <;> first | (simp [ints?] at e; done) | skip
    obtain ⟨ms, e2, rfl⟩ := Option.map_eq_some_iff.mp (show (ints? ds).map (_ :: ·) = some ns from e)
    rw [e1, ints_rep e2 h2, show v = _ from h1]
    rfl
theorem bls_rep : ∀ {ds : List D} {bs : List Bool} {vs : List V}, bls? ds = some bs → RepL L.toLay ρ H ds vs → vs = bs.map V.bl
  | [], _, _, e, r => by cases e; exact r
  | d :: ds, ns, vs, e, ⟨v, t, e1, h1, h2⟩ => by
    cases d <;> first | (simp [bls?] at e; done) | skip
    obtain ⟨ms, e2, rfl⟩ := Option.map_eq_some_iff.mp (show (bls? ds).map (_ :: ·) = some ns from e)
    rw [e1, bls_rep e2 h2, show v = _ from h1]
    rfl
/-- pairs of keys and values, side by side -/
def RepP (L : XLay) (ρ : List Addr) (H : Hp) : List (Key × D) → List (Key × V) → Prop
  | [], vs => vs = []
  | (k, d) :: r, vs => ∃ v t, vs = (k, v) :: t ∧ Rep L.toLay ρ H d v ∧ RepP L ρ H r t
theorem prs_rep : ∀ {ds : List D} {ps : List (Key × D)} {vs : List V}, prs? ds = some ps → RepL L.toLay ρ H ds vs →
    ∃ as kvs, vs = as.map V.ref ∧ Paired (fun p kv => SqT L.K H p [kV kv.1, kv.2]) as kvs ∧ RepP L ρ H ps kvs
  | [], _, _, e, r => by cases e; exact ⟨[], [], r, .nil, rfl⟩
  | d :: ds, ps, vs, e, ⟨v, t, e1, h1, h2⟩ => by
    unfold prs? at e
    split at e
    · rename_i h; cases h
    · rename_i d1 d2 r0 heq
      cases heq
      split at e
      · rename_i k ps' ek er
        cases e
        obtain ⟨as, kvs, e2, p2, r2⟩ := prs_rep er h2
        obtain ⟨a, ws, rfl, hq, rr⟩ := tup_sq h1
        obtain ⟨w1, w2, rfl, q1, q2⟩ := rr.two
        rw [key_rep ek q1] at hq
        exact ⟨a :: as, (k, w2) :: kvs, by rw [e1, e2]; rfl, .cons hq p2, w2, kvs, rfl, q2, r2⟩
      · cases e
    · cases e
theorem putAll_rep : ∀ {ps : List (Key × D)} {kvs : List (Key × V)} {ks : List Key} {ds : List D} {vs : List V}, RepP L ρ H ps kvs → ks.length = vs.length → RepL L.toLay ρ H ds vs →
    ∃ ws, mergeK (ks.zip vs) kvs = (putAll ps (ks, ds)).1.zip ws ∧ (putAll ps (ks, ds)).1.length = ws.length ∧ RepL L.toLay ρ H (putAll ps (ks, ds)).2 ws
  | [], _, ks, ds, vs, h, l, r => by
    rw [show _ = [] from h]
    exact ⟨vs, rfl, l, r⟩
  | (k, d) :: ps, _, ks, ds, vs, ⟨v, t, e, h1, h2⟩, l, r => by
    subst e
    obtain ⟨ws, e1, l1, r1⟩ := kput_rep (k := k) l r h1
    have e2 : mergeK (ks.zip vs) ((k, v) :: t) = mergeK (L2.putK (ks.zip vs) k v) t := rfl
    rw [e2, e1]
    exact putAll_rep (ks := (kput k d ks ds).1) (ds := (kput k d ks ds).2) h2 l1 r1
/-! ### built-in functions -/
def biV : Bi → Value
  | .len => .builtin "len" | .abs => .builtin "abs" | .int => .type "int" | .bool => .type "bool" | .sum => .builtin "sum" | .all => .builtin "all" | .any => .builtin "any"
  | .tuple => .type "tuple" | .list => .type "list" | .dict => .type "dict" | .max => .builtin "max" | .min => .builtin "min"
def rBi (L : XLay) (W : WX) (b : Bi) (h : Bool) : List V → Hp → VK → Prop := fun xs H Q => ∃ ρ M ds sv, Sim L.toLay ρ H M ∧ RepL L.toLay ρ H ds xs ∧ Go L (TD L) W ρ H sv (biSem b h ds M) Q
theorem bi1_of {ds : List D} {xs : List V} {f : D → Res D} {sv : St} {Q : V → Hp → Prop} (r : RepL L.toLay ρ H ds xs) (g : Go L (TD L) W ρ H sv (bi1 f ds) Q) : ∃ d v, xs = [v] ∧ Rep L.toLay ρ H d v ∧ Go L (TD L) W ρ H sv (f d) Q := by
  match ds, r, g with
  | [d], r, g =>
    obtain ⟨v, e, h⟩ := r.one
    exact ⟨d, v, e, h, g⟩
  | [], _, g => exact False.elim g
  | _ :: _ :: _, _, g => exact False.elim g
theorem bi2_of {ds : List D} {xs : List V} {f : D → D → Res D} {sv : St} {Q : V → Hp → Prop} (r : RepL L.toLay ρ H ds xs) (g : Go L (TD L) W ρ H sv (bi2 f ds) Q) : ∃ d e v w, xs = [v, w] ∧ Rep L.toLay ρ H d v ∧ Rep L.toLay ρ H e w ∧ Go L (TD L) W ρ H sv (f d e) Q := by
  match ds, r, g with
  | [d, e], r, g =>
    obtain ⟨v, w, e1, h, k⟩ := r.two
    exact ⟨d, e, v, w, e1, h, k, g⟩
  | [], _, g => exact False.elim g
  | [_], _, g => exact False.elim g
  | _ :: _ :: _ :: _, _, g => exact False.elim g
theorem call_bi (hK : X.K = L.K) (hc : X.calm = true) (b : Bi) (h : Bool) : CallR X (biV b) (rBi L W b h) := by
  intro pins s σ H xs us Q I rv q
  obtain ⟨ρ, M, ds, sv, sm, r, g⟩ := q
  have lstOf : ∀ {β : Type} {f : List D → Option β} {d : D} {v : V} {k : β → Res D}, Rep L.toLay ρ H d v → Go L (TD L) W ρ H sv (onSome ((lst? M d).bind f) k) Q →
      ∃ p zs ws ns, v = .ref p ∧ SqL X.K H p ws ∧ RepL L.toLay ρ H zs ws ∧ f zs = some ns ∧ Go L (TD L) W ρ H sv (k ns) Q := by
    intro β f d v k rd g
    cases e1 : lst? M d with
    | none => rw [e1] at g; exact False.elim g
    | some zs =>
      rw [e1] at g
      cases e2 : f zs with
      | none => rw [Option.bind_some, e2] at g; exact False.elim g
      | some ns =>
        rw [Option.bind_some, e2] at g
        obtain ⟨p, ws, rfl, hq, rr⟩ := lst?_sq sm rd e1
        exact ⟨p, zs, ws, ns, rfl, by rw [hK]; exact hq, rr, e2, g⟩
  cases b with
  | len =>
    obtain ⟨d, v, rfl, rd, g⟩ := bi1_of r g
    unfold biLen at g
    cases e0 : str? d with
    | some z =>
      rw [e0] at g
      cases d <;> first | (simp [str?] at e0; done) | skip
      cases e0
      obtain ⟨c, g⟩ := go_if g
      exact call_len_str pins s σ H _ us Q I rv ⟨z, by rw [show v = _ from rd], sz_ok c, go_ok (T := TD L) sm g rfl⟩
    | none =>
      rw [e0] at g
      cases e1 : items? M d with
      | some zs =>
        rw [e1] at g
        obtain ⟨p, vs, rfl, hq, rr⟩ := items?_sq sm rd e1
        exact call_len_seq pins s σ H _ us Q I rv ⟨p, vs, rfl, by rw [hK]; exact hq, by rw [rr.len]; exact go_ok (T := TD L) sm g rfl⟩
      | none =>
        rw [e1] at g
        cases e2 : dict? M d with
        | none => rw [e2] at g; exact False.elim g
        | some p =>
          rw [e2] at g
          obtain ⟨a, vs, rfl, hq, hl, rr⟩ := dict?_rep (ks := p.1) (ds := p.2) sm rd e2
          obtain ⟨u, rfl, ru⟩ := vals1 rv
          cases ru
          refine d_len I (.inl hq) fun t s' I' => ⟨.int (p.1.zip vs).length, H, I', ⟨t, rfl⟩, ?_⟩
          rw [List.length_zip, hl, Nat.min_self, ← hl]
          exact go_ok (T := TD L) sm g rfl
  | abs =>
    obtain ⟨d, v, rfl, rd, g⟩ := bi1_of r g
    cases d <;> first | exact False.elim g | skip
    exact call_abs pins s σ H _ us Q I rv ⟨_, by rw [show v = _ from rd], go_ok (T := TD L) sm g rfl⟩
  | int =>
    obtain ⟨d, v, rfl, rd, g⟩ := bi1_of r g
    cases d <;> first | exact False.elim g | skip
    · exact call_int1 pins s σ H _ us Q I rv (.inr ⟨_, by rw [show v = _ from rd], go_ok (T := TD L) sm g rfl⟩)
    · exact call_int1 pins s σ H _ us Q I rv (.inl ⟨_, by rw [show v = _ from rd], go_ok (T := TD L) sm g rfl⟩)
  | bool =>
    obtain ⟨d, v, rfl, rd, g⟩ := bi1_of r g
    cases d <;> first | exact False.elim g | skip
    · exact call_bool1 pins s σ H _ us Q I rv (.inr ⟨_, by rw [show v = _ from rd], go_ok (T := TD L) sm g rfl⟩)
    · exact call_bool1 pins s σ H _ us Q I rv (.inl ⟨_, by rw [show v = _ from rd], go_ok (T := TD L) sm g rfl⟩)
  | sum =>
    obtain ⟨d, v, rfl, rd, g⟩ := bi1_of r g
    obtain ⟨p, zs, ws, ns, rfl, hq, rr, e, g⟩ := lstOf (f := ints?) (k := fun ns => .ok (.int ns.sum) M) rd g
    rw [ints_rep e rr] at hq
    exact cr_sum hc pins s σ H _ us Q I rv ⟨p, ns, rfl, hq, go_ok (T := TD L) sm g rfl⟩
  | all =>
    obtain ⟨d, v, rfl, rd, g⟩ := bi1_of r g
    obtain ⟨p, zs, ws, ns, rfl, hq, rr, e, g⟩ := lstOf (f := bls?) (k := fun bs => .ok (.bl (bs.all id)) M) rd g
    rw [bls_rep e rr] at hq
    exact cr_all hc pins s σ H _ us Q I rv ⟨p, ns, rfl, hq, go_ok (T := TD L) sm g rfl⟩
  | any =>
    obtain ⟨d, v, rfl, rd, g⟩ := bi1_of r g
    obtain ⟨p, zs, ws, ns, rfl, hq, rr, e, g⟩ := lstOf (f := bls?) (k := fun bs => .ok (.bl (bs.any id)) M) rd g
    rw [bls_rep e rr] at hq
    exact cr_any hc pins s σ H _ us Q I rv ⟨p, ns, rfl, hq, go_ok (T := TD L) sm g rfl⟩
  | tuple =>
    obtain ⟨d, v, rfl, rd, g⟩ := bi1_of r g
    unfold biTuple at g
    cases e1 : items? M d with
    | none => rw [e1] at g; exact False.elim g
    | some zs =>
      rw [e1] at g
      by_cases ht : ∃ xs, d = .tup xs
      · obtain ⟨xs, rfl⟩ := ht
        cases e1
        obtain ⟨p, vs, rfl, hq, rr⟩ := tup_sq rd
        exact call_tuple_of pins s σ H _ us Q I rv ⟨p, vs, rfl, .inr ⟨by rw [hK]; exact hq, go_ok (T := TD L) sm g rd⟩⟩
      · have e2 : lst? M d = some zs := by
          cases d <;> first | (exact absurd ⟨_, rfl⟩ ht) | exact e1
        obtain ⟨p, vs, rfl, hq, rr⟩ := lst?_sq sm rd e2
        exact call_tuple_of pins s σ H _ us Q I rv ⟨p, vs, rfl, .inl ⟨by rw [hK]; exact hq, go_tup sm rr g⟩⟩
  | list =>
    obtain ⟨d, v, rfl, rd, g⟩ := bi1_of r g
    unfold biList at g
    cases e1 : items? M d with
    | none => rw [e1] at g; exact False.elim g
    | some zs =>
      rw [e1] at g
      obtain ⟨p, vs, rfl, hq, rr⟩ := items?_sq sm rd e1
      exact call_list_of pins s σ H _ us Q I rv ⟨p, vs, rfl, by rw [hK]; exact hq, go_mkl sm rr g⟩
  | dict =>
    obtain ⟨d, v, rfl, rd, g⟩ := bi1_of r g
    obtain ⟨p, zs, ws, ps, rfl, hq, rr, e, g⟩ := lstOf (f := prs?) (k := fun ps => mkd h (putAll ps ([], [])).1 (putAll ps ([], [])).2 M) rd g
    obtain ⟨as, kvs, rfl, pp, rp⟩ := prs_rep e rr
    obtain ⟨ws, e1, l1, r1⟩ := putAll_rep (ks := []) (ds := []) (vs := []) rp rfl rfl
    have e1 : mergeK [] kvs = (putAll ps ([], [])).1.zip ws := e1
    refine call_dictP hc pins s σ H _ us Q I rv ⟨p, as, kvs, rfl, hq, by rw [hK]; exact pp, ?_⟩
    rw [e1]
    exact go_mkd sm l1 r1 g
  | max =>
    obtain ⟨d, e, v, w, rfl, rd, re, g⟩ := bi2_of r g
    cases d <;> cases e <;> first | exact False.elim g | skip
    exact call_max2 hc pins s σ H _ us Q I rv ⟨_, _, by rw [show v = _ from rd, show w = _ from re], go_ok (T := TD L) sm g rfl⟩
  | min =>
    obtain ⟨d, e, v, w, rfl, rd, re, g⟩ := bi2_of r g
    cases d <;> cases e <;> first | exact False.elim g | skip
    exact call_min2 hc pins s σ H _ us Q I rv ⟨_, _, by rw [show v = _ from rd, show w = _ from re], go_ok (T := TD L) sm g rfl⟩
/-! ### built-in methods -/
def bmT : Bm → String
  | .append => "list" | .pop => "list" | .get => "dict"
def bmN : Bm → Str
  | .append => "append" | .pop => "pop" | .get => "get"
def bmI : Bm → String
  | .append => "list.append" | .pop => "list.pop" | .get => "dict.get"
def rBm (L : XLay) (W : WX) (b : Bm) : V → List V → Hp → VK → Prop := fun x xs H Q => ∃ ρ M o ds sv, Sim L.toLay ρ H M ∧ Rep L.toLay ρ H o x ∧ RepL L.toLay ρ H ds xs ∧ Go L (TD L) W ρ H sv (bmSem b o ds M) Q
theorem obj?_at {o : D} {p : Nat × List D} {x : V} (sm : Sim L.toLay ρ H M) (e : obj? M o = some p) (r : Rep L.toLay ρ H o x) : ∃ a vs, x = .ref a ∧ ρ[p.1]? = some a ∧ H a = some (.lst vs) ∧ RepL L.toLay ρ H p.2 vs := by
  cases o <;> first | (simp [obj?] at e; done) | skip
  rename_i n
  cases q : M[n]? with
  | none => simp [obj?, q] at e
  | some ob =>
    cases ob with
    | lst xs =>
      simp [obj?, q] at e
      subst e
      obtain ⟨a, e1, e2, vs, h1, rr⟩ := sm.at r q
      exact ⟨a, vs, e1, e2, h1, rr⟩
    | _ => simp [obj?, q] at e
theorem sz_lt {n : Nat} (h : szOk (n + 1) = true) : n < sizeLine := by
  rw [sizeLine_eq]
  have := of_decide_eq_true h
  omega
theorem last_at {ds : List D} {vs : List V} {y : D} (r : RepL L.toLay ρ H ds vs) (e : ds.getLast? = some y) : ∃ v, vs[vs.length - 1]? = some v ∧ Rep L.toLay ρ H y v := by
  rw [List.getLast?_eq_getElem?] at e
  rw [r.len]
  exact r.at e
theorem RepL.dropLast {ds : List D} {vs : List V} (r : RepL L.toLay ρ H ds vs) : RepL L.toLay ρ H ds.dropLast vs.dropLast := by
  rw [List.dropLast_eq_take, List.dropLast_eq_take, r.len]
  exact r.take _
theorem mt_bm (hu : X.A.units + 1 < cLine) (b : Bm) : MtR X (bmI b) (rBm L W b) := by
  intro pins s σ H x xs v us Q I rx rv q
  obtain ⟨ρ, M, o, ds, sv, sm, ro, r, g⟩ := q
  cases b with
  | append =>
    obtain ⟨d, w, rfl, rd, g⟩ := bi1_of r g
    unfold bmAppend at g
    cases e : obj? M o with
    | none => rw [e] at g; exact False.elim g
    | some p =>
      rw [e] at g
      obtain ⟨c, g⟩ := go_if g
      obtain ⟨a, vs, rfl, hr, ha, rr⟩ := obj?_at sm e ro
      refine mt_append pins s σ H _ _ v us Q I rx rv ⟨a, vs, w, rfl, rfl, ha, by rw [rr.len]; exact sz_lt c, ?_⟩
      have m : Mono ρ H ρ (upd H a (.lst (vs ++ [w]))) := mono_write (List.mem_of_getElem? hr)
      exact g ρ _ .non m (sm.write hr ⟨_, upd_same, m.repL _ _ (rr.append (RepL.mk1 rd))⟩) rfl
  | pop =>
    match ds, r, g with
    | [], r, g =>
      have e0 : xs = [] := r
      subst e0
      have g : Go L (TD L) W ρ H sv (bmPop M o) Q := g
      unfold bmPop at g
      cases e : obj? M o with
      | none => rw [e] at g; exact False.elim g
      | some p =>
        rw [e] at g
        cases e2 : p.2.getLast? with
        | none => simp only [e2] at g; exact False.elim g
        | some y =>
          simp only [e2] at g
          obtain ⟨a, vs, rfl, hr, ha, rr⟩ := obj?_at sm e ro
          obtain ⟨w, hw, rw'⟩ := last_at rr e2
          refine mt_pop pins s σ H _ _ v us Q I rx rv ⟨a, vs, w, rfl, rfl, ha, hw, ?_⟩
          have m : Mono ρ H ρ (upd H a (.lst vs.dropLast)) := mono_write (List.mem_of_getElem? hr)
          exact g ρ _ w m (sm.write hr ⟨_, upd_same, m.repL _ _ rr.dropLast⟩) (m.rep _ _ rw')
    | _ :: _, _, g => exact False.elim g
  | get =>
    obtain ⟨d, e, w, z, rfl, rd, re, g⟩ := bi2_of r g
    unfold bmGet at g
    cases e1 : dict? M o with
    | none => rw [e1] at g; exact False.elim g
    | some p =>
      rw [e1] at g
      cases e2 : keyD d with
      | none => simp only [e2] at g; exact False.elim g
      | some k =>
        simp only [e2] at g
        obtain ⟨a, vs, rfl, hq, hl, rr⟩ := dict?_rep (ks := p.1) (ds := p.2) sm ro e1
        obtain ⟨u1, u2, rfl, r1, r2⟩ := vals2 rv
        cases (show v = Value.ref a from rx)
        rw [key_rep e2 rd] at r1
        refine d_get2 hu I (DGet.k (k := k) hq) r1 r2 fun w' s' I' rw' => ⟨(valV (p.1.zip vs) k).getD z, H, I', rw', ?_⟩
        refine go_ok (T := TD L) sm g ?_
        have h := dGet_rep (k := k) hl rr
        cases q1 : dGet p.1 p.2 k <;> cases q2 : valV (p.1.zip vs) k <;> rw [q1, q2] at h <;> first | exact h.elim | exact re | exact h
theorem bm_ty {b : Bm} {o : D} {ds : List D} {x : V} {H : Hp} {sv : St} {Q : V → Hp → Prop} (sm : Sim L.toLay ρ H M) (ro : Rep L.toLay ρ H o x) (g : bmOk b o M = true) : tyV L.K (bmT b) x H := by
  cases b with
  | append =>
    obtain ⟨p, e⟩ := Option.isSome_iff_exists.mp g
    obtain ⟨a, vs, rfl, hr, ha, rr⟩ := obj?_at sm e ro
    exact .inl ⟨rfl, vs, SqL.of ha⟩
  | pop =>
    obtain ⟨p, e⟩ := Option.isSome_iff_exists.mp g
    obtain ⟨a, vs, rfl, hr, ha, rr⟩ := obj?_at sm e ro
    exact .inl ⟨rfl, vs, SqL.of ha⟩
  | get =>
    obtain ⟨p, e⟩ := Option.isSome_iff_exists.mp g
    obtain ⟨a, vs, rfl, hq, hl, rr⟩ := dict?_rep (ks := p.1) (ds := p.2) sm ro e
    exact .inr (.inr (.inl ⟨rfl, .inl ⟨_, hq⟩⟩))
/-! ### isinstance -/
def tgV : Tg → Value
  | .non => .type "NoneType" | .bl => .type "bool" | .int => .type "int" | .str => .type "str" | .tup => .type "tuple" | .lst => .type "list" | .dic => .type "dict"
def tyN : Ty → String
  | .int => "int" | .bool => "bool" | .str => "str" | .tuple => "tuple" | .list => "list" | .dict => "dict" | .cls _ => "object"
theorem tag_ty {d : D} {g : Tg} {x : V} (sm : Sim L.toLay ρ H M) (e : tagD M d = some g) (r : Rep L.toLay ρ H d x) : TyX L.K H x (tgV g) := by
  cases d with
  | non => cases e; rw [show x = _ from r]; exact .base .non
  | bl b => cases e; rw [show x = _ from r]; exact .base (.bl b)
  | int i => cases e; rw [show x = _ from r]; exact .base (.int i)
  | str z => cases e; rw [show x = _ from r]; exact .base (.str z)
  | tup ds =>
    cases e
    obtain ⟨a, vs, rfl, hq, _⟩ := tup_sq r
    rcases hq with (h | ⟨o, h⟩) | ⟨o, its, n, h, c, _⟩
    · exact .base (.tup h)
    · exact .fTuple h
    · exact .kTuple h c
  | lst ds =>
    cases e
    obtain ⟨a, vs, rfl, _, h, _⟩ := r
    exact .base (.lst h)
  | flst ds =>
    cases e
    obtain ⟨a, vs, rfl, hq, _⟩ := flst_sq r
    rcases hq with (h | ⟨o, h⟩) | ⟨o, its, n, h, c, _⟩
    · exact .base (.lst h)
    · exact .base (.frz h)
    · exact .kList h c
  | dic ks ds =>
    cases e
    obtain ⟨a, vs, rfl, _, h, _⟩ := r
    exact .base (.dK h)
  | ref n =>
    cases q : M[n]? with
    | none => simp [tagD, q] at e
    | some o =>
      cases o with
      | lst xs =>
        simp [tagD, q] at e
        subst e
        obtain ⟨a, rfl, _, vs, h, _⟩ := sm.at r q
        exact .base (.lst h)
      | dic ks xs =>
        simp [tagD, q] at e
        subst e
        obtain ⟨a, rfl, _, vs, h, _⟩ := sm.at r q
        exact .base (.dK h)
      | ins C fs => simp [tagD, q] at e
  | fn g => cases e
theorem kit_tag {K : PySem.W.Frag} {g : Tg} {t : Ty} {b : Bool} (e : tagTy g t = some b) : PySem.W.kitOne K (tgV g) (.type (tyN t)) = some b := by
  cases t <;> cases g <;> first | (cases e; done) | skip
  all_goals (
    cases e
    exact kit_ty (by decide +kernel))
def rIsa (L : XLay) (t : Ty) : V → Hp → VK → Prop := fun x H Q => ∃ ρ M a b, Sim L.toLay ρ H M ∧ Rep L.toLay ρ H a x ∧ isTy M a t = some b ∧ Q (.bl b) H
theorem call_isa (hK : X.K = L.K) (t : Ty) : CallR X (.builtin "isinstance") (fun xs H Q => ∃ x, xs = [x, .ty (tyN t)] ∧ rIsa L t x H Q) := by
  intro pins s σ H xs us Q I rv q
  obtain ⟨x, rfl, ρ, M, a, b, sm, ra, e, q⟩ := q
  unfold isTy at e
  cases e1 : tagD M a with
  | none => rw [e1] at e; cases e
  | some g =>
    rw [e1] at e
    exact call_isi pins s σ H _ us Q I rv ⟨x, _, _, _, b, rfl, .ty _, by rw [hK]; exact tag_ty sm e1 ra, kit_tag e, q⟩
end
end Mi

end
section
/-! M6: contracts of defs and closures; expressions' readings. -/
namespace Mi
open PySem L2

/-- a state at a call: the callers' frames, the abstract heap, the heap -/
structure Ent where
  fs : List Addr
  H : Hp
  h : Heap
structure Wo where
  prog : Program
  w : World
  mg : Str → Option Value
  base : Heap
  ent : Ent
structure GTab where
  fnm : List (Str × Nat)
  cnm : List (Str × Nat)
  xnm : List (Str × Nat)
  /-- those that are raised -/
  rais : List (Str × Nat)
  /-- parameters of lambdas -/
  lps : List (List Str)

section
variable (Z : Wo) (L : XLay) (P : Prg)
/-- the callers' wish: what an exception brings -/
abbrev wE (E : XK) : WX := fun c d _ H => E c d H
/-- the value v is a closure c, laid ahead of the state e; it may be called up to the level b -/
def CloV (η : Ent) (b : Nat) (ρ : List Addr) (H : Hp) (v : V) (c : CloD) : Prop :=
  ∃ (f : Addr) (Φ : List Addr → Hp → Prop), v = .ref f ∧ Φ ρ H ∧ (∀ ρ1 H1 ρ2 H2, Mono ρ1 H1 ρ2 H2 → Φ ρ1 H1 → Φ ρ2 H2) ∧ (∀ ρ H h, Un η.fs [] η.H H η.h h → Φ ρ H → PySem.W.FnAt f h) ∧
    ∀ m, m ≤ b → ∀ (A : Around) (outer : List PySem.Env) (s : Shared) (H : Hp) (us : List Value) (vs : List V) (ds : List D) (ρ : List Addr) (M : Hm) (Q : VK) (E : XK) (sv : St), Room m A → Env0 Z.prog Z.w L.K Z.mg Z.base A outer s H → Un η.fs [] η.H H η.h s.heap → Vals vs us →
      Φ ρ H → Sim L.toLay ρ H M → RepL L.toLay ρ H ds vs → Go L (TD L) (wE E) ρ H sv ((rt P m).clo c ds M) Q →
      codeAny (model Z.prog Z.w) A (.call (.ref f) ⟨us, []⟩) (CR (CX Z.prog Z.w) outer Z.prog Z.w H s Q E) s
/-- closures in slots -/
def KR (η : Ent) (b : Nat) (κ : List (Nat × CloD)) (ρ : List Addr) (H : Hp) (sv : St) : Prop := ∀ (i : Nat) (c : CloD), κ.lookup i = some c → ∃ v, sv[i]? = some (some v) ∧ CloV Z L P η b ρ H v c
/-- arguments -/
def ArgR (η : Ent) (b : Nat) (κ : List (Nat × CloD)) (ρ : List Addr) (H : Hp) (os : List (Option D)) (vs : List V) : Prop :=
  vs.length = os.length ∧ (∀ (i : Nat) (d : D), os[i]? = some (some d) → ∃ v, vs[i]? = some v ∧ Rep L.toLay ρ H d v) ∧ ∀ (i : Nat) (c : CloD), κ.lookup i = some c → ∃ v, vs[i]? = some v ∧ CloV Z L P η b ρ H v c
/-- a def's result at a level -/
def callM (n : Nat) (f : Fn) (os : List (Option D)) (κ : List (Nat × CloD)) (M : Hm) : Res D := match n with
  | 0 => .bad
  | k + 1 => bodyAll P (rt P k) f os κ M
/-- a def's parameters and what fills them up -/
def Bnd (g : Nat) (f : Fn) (fd : FuncData) (ps : List Str) : Prop := ps.length = f.np ∧ PySem.W.keepIn L.K (.ref (L.fa g)) = true ∧
  ∀ (s : Shared) (us : List Value), L.K.In s.heap → us.length ≤ f.np → f.np ≤ us.length + f.defs.length → ∃ (ds : List Value) (dvs : List V), BindsTo s fd ⟨us, []⟩ (ps.zip (us ++ ds)) ∧ Vals dvs ds ∧
    ∀ ρ H, RepL L.toLay ρ H (f.defs.drop (us.length + f.defs.length - f.np)) dvs
/-- a def of the text does at a level what the small language says -/
def Runs (n : Nat) (g : Nat) (f : Fn) (fd : FuncData) (ps : List Str) : Prop := ∀ (A : Around) (outer : List PySem.Env) (s : Shared) (H : Hp) (args : Args) (us : List Value) (vs : List V) (Q : VK) (E : XK) (ρ : List Addr) (M : Hm) (os : List (Option D)) (κ : List (Nat × CloD)) (sv : St),
  Room n A → Env0 Z.prog Z.w L.K Z.mg Z.base A outer s H → BindsTo s fd args (ps.zip us) → Vals vs us → Sim L.toLay ρ H M → os.length = f.np → ArgR Z L P ⟨frs outer, H, s.heap⟩ n κ ρ H os vs → Go L (TD L) (wE E) ρ H sv (callM P n f os κ M) Q →
    codeAny (model Z.prog Z.w) A (.call (.ref (L.fa g)) args) (CR (CX Z.prog Z.w) outer Z.prog Z.w H s Q E) s
def FnFact (n : Nat) (g : Nat) (f : Fn) : Prop := ∃ (fd : FuncData) (ps : List Str), Bnd L g f fd ps ∧ Runs Z L P n g f fd ps
/-- the names of built-in functions that are used -/
def biNames : List Str := ["len", "abs", "int", "bool", "sum", "all", "any", "tuple", "list", "dict", "max", "min", "range", "isinstance", "str", "super"]
/-! ### own exceptions, as the text has them -/
def supE (a1 a2 a3 a4 a5 : Pos) : Expr := .Call (.Attribute (.Call (.Name "super" a1) [] [] a2) "__init__" a3) [.Name "place" a4] [] a5
def stAt (f : Str) (e : Expr) (b1 b2 b3 : Pos) : Stmt := .Assign [.Attribute (.Name "self" b1) f b2] e b3
/-- the scope of such an __init__ -/
structure SupSc (sc : Scope) : Prop where
  kind : sc.kind = .function
  co : sc.isCoroutine = false
  gen : sc.isGenerator = false
  nocell : ∀ x ∈ sc.names, x.2 ≠ .cell
  self : sc.names.lookup ("self" : Str) = some .local
  place : sc.names.lookup ("place" : Str) = some .local
  sup : sc.names.lookup ("super" : Str) = some .globalImplicit
  cls : sc.names.lookup ("__class__" : Str) = some .free
/-- what the written part says of such an __init__, of the class at D -/
structure SupFn (K : PySem.W.Frag) (prog : Program) (f D : Addr) (qual : Str) (body : List Stmt) : Prop where
  ex : ∃ (oc : Value) (od : Option Addr) (p1 p2 : Pos) (scope : Scope) (doc pm ct : Value) (an : Option Addr) (co cc : Addr) (osl : Array (Option Value)) (ccl : Value) (cdd : Option Addr) (vs : Array Value) (ccs : Array (Option Value)) (file : Str) (tf : Tok)
      (cl : Value) (cld : Option Addr) (csl : Array (Option Value)),
    K.lookup f = some ⟨oc, od, .func (PySem.W.ksFn "__init__" qual { posonlyargs := [], args := [{ arg := "self", annotation := none, pos := p1 }, { arg := "place", annotation := none, pos := p2 }], vararg := none, kwonlyargs := [], kw_defaults := [], kwarg := none, defaults := [] } body scope .none .none doc pm an (.ref co) ct cc), osl⟩ ∧
    PySem.W.codeIn K (.ref co) qual = true ∧ K.lookup co = some ⟨ccl, cdd, .fields vs, ccs⟩ ∧ vs[2]? = some (.str file tf) ∧ ((prog.main.file : Str) == file) = true ∧ K.lookup cc = some ⟨cl, cld, .cell (some (.ref D)), csl⟩ ∧ SupSc scope
  top : (prog.main.scope.names.lookup ("super" : Str)).isSome = false
  ty : PySem.W.typeIn K (.ref f) = some (.type "function")
/-- what the written part says of a class whose instances are raised: D the base that has the fields -/
structure ExCls (K : PySem.W.Frag) (C D : Addr) : Prop where
  cls : ∃ nm q N bs bm sn sub ab col dd k0 k1 k2 k3 k5, K.lookup C = some (excClassObj nm q C N bs bm true sn sub ab col dd k0 k1 k2 k3 k5 "ValueError.__new__") ∧ PySem.HandSPX.refsVE bm = true
  sa : PySem.W.findIn K (.ref C) "__setattr__" = some (some (.builtin "object.__setattr__"))
  noP : PySem.W.findIn K (.ref C) "place" = some none
  noN : PySem.W.findIn K (.ref C) "name" = some none
  isD : PySem.W.mroIn K C (.ref D) = some true
  isC : PySem.W.mroIn K C (.ref C) = some true
  isV : PySem.W.subIn K (.ref C) (.type "ValueError") = some true
  cD : ∃ cd, PySem.W.clsIn K D = some cd
  supD : PySem.W.ks_superIn K C D "__init__" = some (some (.builtin "ValueError.__init__"))
  opq : PySem.W.nsIn K cStatics "thirdparty.any" = some none
/-- a class that is raised: by its own __init__ over the base's -/
structure ExFact (K : PySem.W.Frag) (prog : Program) (C : Addr) (nm : Str) : Prop where
  ex : ∃ (fI fG B : Addr) (qual qualG nmG : Str) (a1 a2 a3 a4 a5 p c1 c2 c3 c4 a1' a2' a3' a4' a5' p' b1 b2 b3 b4 c1' c2' c3' c4' : Pos) (kk kk' : Nat), ExCls K C B ∧
    SupFn K prog fI C qual [.Expr (supE a1 a2 a3 a4 a5) p, stAt "name" (.Constant (.str nm) kk c4) c1 c2 c3] ∧ (a3.endLine == a5.line) = true ∧
    SupFn K prog fG B qualG [.Expr (supE a1' a2' a3' a4' a5') p', stAt "place" (.Name "place" b4) b1 b2 b3, stAt "name" (.Constant (.str nmG) kk' c4') c1' c2' c3'] ∧ (a3'.endLine == a5'.line) = true ∧
    PySem.W.ks_superIn K C C "__init__" = some (some (.ref fG)) ∧ PySem.W.findIn K (.ref C) "__init__" = some (some (.ref fI))
  kp : PySem.W.keepIn K (.ref C) = true
  exC : PySem.W.subIn K (.ref C) (.type "BaseException") = some true
  tyC : PySem.W.typeIn K (.ref C) = some (.type "type")
/-- a lambda's parameters take what comes -/
def LamB (ps : List Str) : Prop := ∀ (as : List Arg), as.map (·.arg) = ps → ∀ (body : Expr) (scope : Scope) (q : Str) (cl : List (Str × Addr)) (pm cv ctv : Value) (us : List Value), us.length = ps.length →
  bindArgs (PySem.W.kla_fn "<lambda>" q ⟨[], as, none, [], [], none, []⟩ body scope cl pm cv ctv) ⟨us, []⟩ = pure (ps.zip us)
/-- what the top has left -/
structure WOk (G : GTab) (n : Nat) : Prop where
  blt : ∀ x ∈ biNames, Z.mg x = none
  fnm : ∀ x g, G.fnm.lookup x = some g → Z.mg x = some (.ref (L.fa g))
  csts : ∀ p ∈ P.csts, ∃ u v, Z.mg p.1 = some u ∧ RelV v u ∧ ∀ ρ H, Rep L.toLay ρ H p.2 v
  fns : ∀ g f, P.fns[g]? = some f → ∀ m, m ≤ n → FnFact Z L P m g f
  cls : ∀ C k, P.clss[C]? = some k → L2.Cls L.K (L.ca C) ∧ (∀ f ∈ k.own, NoAttr L.K (L.ca C) f) ∧ ∀ m g, k.meths.lookup m = some g → Meth L.K (L.ca C) m (L.fa g)
  xnm : ∀ x c, G.xnm.lookup x = some c → Z.mg x = some (.ref (L.xa c)) ∧ c < P.exs
  exf : ∀ x c, (x, c) ∈ G.rais → ExFact L.K Z.prog (L.xa c) (L.xn c)
  exm : ∀ c h, c < P.exs → h < P.exs → PySem.W.exmOne L.K (.ref (L.xa c)) (.ref (L.xa h)) = some (P.below c h)
  xf : ∀ c, c < P.exs → XfC L.K (L.xa c) ∧ PySem.W.findIn L.K (.ref (L.xa c)) "place" = some none
  lps : ∀ ps ∈ G.lps, LamB ps
  fkp : ∀ x g, G.fnm.lookup x = some g → PySem.W.keepIn L.K (.ref (L.fa g)) = true
  cnm : ∀ x C, G.cnm.lookup x = some C → Z.mg x = some (.ref (L.ca C)) ∧ ∃ k g, P.clss[C]? = some k ∧ k.init = some g ∧ Mk L.K (L.ca C) (L.fa g)
/-- an exception in the air of X (in a comprehension's block: of the def's frame) -/
def XA (X : Cx) (W : WX) (u : Value) (s' : Shared) : Prop :=
  ∃ (a : Addr) (B : Heap) (sI : Shared) (pins : List (Addr × Obj)) (sv : St) (H : Hp) (cls : Value) (d : Option Addr) (l : Addr), u = .ref a ∧ Inv X pins sv H sI ∧ (∀ b o, sI.heap.get? b = some o → b ∉ frs X.stack → B.get? b = some o) ∧
    sI.heap.UpToSlots s'.heap ∧ X.env.frame = some l ∧ Sky B X.stack a (Zc cls d) l s'.heap ∧ H a = none ∧ s'.os = sI.os ∧ PyProof.Rows.AllBare s'.gens ∧ W cls d sv H
def TakesA (X : Cx) (W : WX) : Prop := ∀ u s', XA X W u s' → X.xe u s'
/-- a context -/
structure XOk (G : GTab) (n : Nat) (X : Cx) (W : WX) : Prop where
  prog : X.prog = Z.prog
  w : X.w = Z.w
  mg : X.mg = Z.mg
  base : X.base = Z.base
  K : X.K = L.K
  calm : X.calm = true
  nd : X.N.Nodup
  tk : TakesA X W
  stk : ∃ e0 o0 l, X.stack = e0 :: o0 ∧ e0.frame = some l ∧ X.env.frame = some l
  room : Room n X.A
  una : ∀ (pins : List (Addr × Obj)) (sv : St) (H : Hp) (s : Shared), Inv X pins sv H s → Un Z.ent.fs [] Z.ent.H H Z.ent.h s.heap
  wok : WOk Z L P G n
/-- the reading -/
def tK (η : Ent) {α β : Type} (T : List Addr → Hp → α → β → Prop) (n : Nat) (κ : List (Nat × CloD)) (W : WX) (f : Env → Hm → Res α) : St → Hp → (β → Hp → Prop) → Prop := fun sv H Q =>
  ∃ ρ σ M, Sim L.toLay ρ H M ∧ EnvR L.toLay ρ H σ sv ∧ KR Z L P η n κ ρ H sv ∧ Go L T W ρ H sv (f σ M) Q
end

section
variable {Z : Wo} {L : XLay} {P : Prg} {G : GTab} {n : Nat} {κ : List (Nat × CloD)} {η : Ent}
theorem CloV.mono {b : Nat} {ρ ρ1 : List Addr} {H H1 : Hp} {v : V} {c : CloD} (h : CloV Z L P η b ρ H v c) (m : Mono ρ H ρ1 H1) : CloV Z L P η b ρ1 H1 v c := by
  obtain ⟨f, Φ, ev, q, st, fa, k⟩ := h
  exact ⟨f, Φ, ev, st _ _ _ _ m q, st, fa, k⟩
theorem CloV.le {b b' : Nat} {ρ : List Addr} {H : Hp} {v : V} {c : CloD} (h : CloV Z L P η b ρ H v c) (m : b' ≤ b) : CloV Z L P η b' ρ H v c := by
  obtain ⟨f, Φ, ev, q, st, fa, k⟩ := h
  exact ⟨f, Φ, ev, q, st, fa, fun j hj => k j (Nat.le_trans hj m)⟩
theorem KR.mono {b : Nat} {ρ ρ1 : List Addr} {H H1 : Hp} {sv : St} (h : KR Z L P η b κ ρ H sv) (m : Mono ρ H ρ1 H1) : KR Z L P η b κ ρ1 H1 sv := fun i c e => by
  obtain ⟨v, e1, h1⟩ := h i c e
  exact ⟨v, e1, h1.mono m⟩
section
variable {α β γ δ : Type} {T : List Addr → Hp → α → β → Prop} {T2 : List Addr → Hp → γ → δ → Prop} {W : WX} {ρ ρ1 : List Addr} {H H1 : Hp} {sv : St} {σ : Env} {M : Hm}
theorem tK.mono {f : Env → Hm → Res α} {Q Q' : β → Hp → Prop} (h : tK Z L P η T n κ W f sv H Q) (g : ∀ b H', Q b H' → Q' b H') : tK Z L P η T n κ W f sv H Q' := by
  obtain ⟨ρ, σ, M, s, e, k, h⟩ := h
  exact ⟨ρ, σ, M, s, e, k, h.imp g⟩
/-- step by step -/
theorem go_bind {f : Env → Hm → Res α} {g : α → Hm → Res γ} {Q2 : δ → Hp → Prop} (s : Sim L.toLay ρ H M) (e : EnvR L.toLay ρ H σ sv) (k : KR Z L P η n κ ρ H sv) (h : Go L T2 W ρ H sv ((f σ M).bind g) Q2) :
    tK Z L P η T n κ W f sv H (fun b H1 => ∃ ρ1 M1 a, Mono ρ H ρ1 H1 ∧ Sim L.toLay ρ1 H1 M1 ∧ EnvR L.toLay ρ1 H1 σ sv ∧ KR Z L P η n κ ρ1 H1 sv ∧ T ρ1 H1 a b ∧ Go L T2 W ρ1 H1 sv (g a M1) Q2) := by
  refine ⟨ρ, σ, M, s, e, k, ?_⟩
  cases q : f σ M with
  | ok a M1 =>
    rw [q] at h
    exact fun ρ' H' b m s' t => ⟨ρ', M1, a, m, s', m.env e, k.mono m, t, Go.mono h m⟩
  | exc c x M1 =>
    rw [q] at h
    exact h
  | bad =>
    rw [q] at h
    exact h
end
theorem XA.imp {X : Cx} {W W' : WX} {u : Value} {s' : Shared} (x : XA X W u s') (h : ∀ c d sv H, W c d sv H → W' c d sv H) : XA X W' u s' := by
  obtain ⟨a, B, sI, pins, sv, H, cls, d, l, e, I, nb, up, hl, sky, na, os, ag, w⟩ := x
  exact ⟨a, B, sI, pins, sv, H, cls, d, l, e, I, nb, up, hl, sky, na, os, ag, h _ _ _ _ w⟩
theorem TakesA.imp {X : Cx} {W W' : WX} (t : TakesA X W) (h : ∀ c d sv H, W' c d sv H → W c d sv H) : TakesA X W' := fun u s' x => t u s' (x.imp h)
/-- where the frame is the block's own -/
theorem TakesA.of {X : Cx} {W : WX} (t : Takes X W) (hf : X.env.frame = some X.env.locals) : TakesA X W := fun u s' ⟨a, B, sI, pins, sv, H, cls, d, l, e, I, nb, up, hl, sky, na, os, ag, w⟩ => by
  rw [hf] at hl
  cases hl
  exact t u s' ⟨a, B, sI, pins, sv, H, cls, d, e, I, nb, up, sky, na, os, ag, w⟩
theorem TakesA.to {X : Cx} {W : WX} (t : TakesA X W) (hf : X.env.frame = some X.env.locals) : Takes X W := fun u s' ⟨a, B, sI, pins, sv, H, cls, d, e, I, nb, up, sky, na, os, ag, w⟩ =>
  t u s' ⟨a, B, sI, pins, sv, H, cls, d, _, e, I, nb, up, hf, sky, na, os, ag, w⟩
theorem XA.of_call {X : Cx} {W : WX} {pins : List (Addr × Obj)} {sv : St} {H : Hp} {s s' : Shared} {E : XK} {l : Addr} (hl : X.env.frame = some l) (I : Inv X pins sv H s) (hW : ∀ cls d H', E cls d H' → W cls d sv H') {u : Value} (c : CX X.prog X.w X.stack H s E u s') : XA X W u s' := by
  obtain ⟨a, B, sI, pins, sv, H, cls, d, e, I', nb, up, sky, na, os, ag, w⟩ := XE.of_call I hW c
  obtain ⟨a', B', H'', cls', d', e', fl, _⟩ := c
  rw [e] at e'
  cases e'
  refine ⟨a, B, sI, pins, sv, H, cls, d, l, e, I', nb, up, hl, ?_, na, os, ag, w⟩
  rcases sky with h | h | h
  · exact .inl h
  · exact .inr (.inl h)
  · obtain ⟨_, _, _, oe, vs, T, oT, ts, he, _, hd, h1, _, _, hT, hdT, h3⟩ := h
    obtain ⟨_, _, _, oe', vs', T', oT', ts', he', _, hd', h1', _, _, hT', hdT', h3'⟩ := fl
    rw [he] at he'
    cases he'
    rw [hd] at hd'
    cases hd'
    rw [h1] at h1'
    cases h1'
    rw [hT] at hT'
    cases hT'
    rw [hdT] at hdT'
    cases hdT'
    rw [h3] at h3'
    cases h3'
theorem pe_weak {X : Cx} {e : Expr} {t t' : TE} (h : PE X e t) (f : ∀ sv H Q, t' sv H Q → t sv H Q) : PE X e t' := ⟨fun pins s σ H Q I q => h.run pins s σ H Q I (f σ H Q q)⟩
theorem pt_weak {X : Cx} {e : Expr} {t t' : TT} (h : PT X e t) (f : ∀ sv H Q, t' sv H Q → t sv H Q) : PT X e t' := ⟨fun pins s σ H Q I q => h.run pins s σ H Q I (f σ H Q q)⟩
theorem pa_weak {X : Cx} {es : List Expr} {t t' : TA} (h : PA X es t) (f : ∀ sv H Q, t' sv H Q → t sv H Q) : PA X es t' := ⟨fun pos pins s σ H Q I q => h.run pos pins s σ H Q I (f σ H Q q)⟩

section
variable (Z L P) (n : Nat) (κ : List (Nat × CloD)) (W : WX) (X : Cx)
/-- the expression does what the term says -/
abbrev SE (m : ME) (e : Expr) : Prop := PE X e (tK Z L P Z.ent (TD L) n κ W (ev P (rt P n) κ m))
abbrev SA (ms : MEs) (es : List Expr) : Prop := PA X es (tK Z L P Z.ent (TDs L) n κ W (evs P (rt P n) κ ms))
abbrev SQ (t : MQ) (e : Expr) : Prop := PT X e (tK Z L P Z.ent (TId Bool) n κ W (evT P (rt P n) κ t))
end
variable {W : WX} {X : Cx}
theorem sub_go {α β : Type} {T : List Addr → Hp → α → β → Prop} {ρ : List Addr} {H : Hp} {sv : St} {Q : β → Hp → Prop} {r r' : Res α} (h : Go L T W ρ H sv r Q) (e : r = r') : Go L T W ρ H sv r' Q := e ▸ h
/-! ### constants and names -/
theorem se_const {d : D} {v : V} {e : Expr} (h : PE X e (tC v)) (r : ∀ ρ H, Rep L.toLay ρ H d v) : SE Z L P n κ W X (.cst d) e := pe_weak h fun sv H Q q => by
  obtain ⟨ρ, σ, M, s, e, k, g⟩ := q
  exact go_ok (T := TD L) s g (r ρ H)
theorem se_var {i : Nat} {x : Str} {pos : Pos} (hN : X.N[i]? = some x) (hv : Vis X.env.scope x) (hd : (x == ("__debug__" : Str)) = false) (hcd : (x == ("__classdict__" : Str)) = false) : SE Z L P n κ W X (.var i) (.Name x pos) := pe_weak (pe_var hN hv hd hcd) fun sv H Q q => by
  obtain ⟨ρ, σ, M, s, e, k, g⟩ := q
  have g : Go L (TD L) W ρ H sv (lift (slot σ i) M) Q := g
  cases q : slot σ i with
  | none => rw [q] at g; exact False.elim g
  | some d =>
    rw [q] at g
    have e1 : σ[i]? = some (some d) := by
      unfold slot at q
      cases z : σ[i]? with
      | none => rw [z] at q; cases q
      | some o => rw [z] at q; cases o with
        | none => cases q
        | some d' => cases q; rfl
    obtain ⟨v, ev, r⟩ := e.2 i d e1
    exact ⟨v, ev, go_ok (T := TD L) s g r⟩
theorem se_glc {x : Str} {d : D} {pos : Pos} (O : XOk Z L P G n X W) (hg : Gl X x) (hm : (x, d) ∈ P.csts) (hd : (x == ("__debug__" : Str)) = false) : SE Z L P n κ W X (.glc x d) (.Name x pos) := by
  obtain ⟨u, v, e1, r, q⟩ := O.wok.csts _ hm
  exact pe_weak (pe_glob hg (by rw [O.mg]; exact e1) r hd) fun sv H Q h => by
    obtain ⟨ρ, σ, M, s, e, k, g⟩ := h
    exact go_ok (T := TD L) s g (q ρ H)
theorem se_fnv {x : Str} {g : Nat} {pos : Pos} (O : XOk Z L P G n X W) (hg : Gl X x) (hm : G.fnm.lookup x = some g) (hd : (x == ("__debug__" : Str)) = false) : SE Z L P n κ W X (.fnv g) (.Name x pos) :=
  pe_weak (pe_glob (v := .ref (L.fa g)) hg (by rw [O.mg]; exact O.wok.fnm _ _ hm) rfl hd) fun sv H Q h => by
    obtain ⟨ρ, σ, M, s, e, k, q⟩ := h
    exact go_ok (T := TD L) s q rfl
/-! ### argument lists, displays -/
theorem sa_nil : SA Z L P n κ W X .nil [] := pa_weak pa_nil fun sv H Q h => by
  obtain ⟨ρ, σ, M, s, e, k, q⟩ := h
  exact go_ok (T := TDs L) s q rfl
theorem sa_cons {m : ME} {ms : MEs} {e : Expr} {es : List Expr} (h1 : SE Z L P n κ W X m e) (h2 : SA Z L P n κ W X ms es) (hs : starEach (e :: es) X.env = (false, eval e X.env) :: starEach es X.env) : SA Z L P n κ W X (.cons m ms) (e :: es) :=
  pa_weak (pa_cons h1 h2 hs) fun sv H Q h => by
    obtain ⟨ρ, σ, M, s, er, k, q⟩ := h
    refine tK.mono (go_bind s er k q) fun x H1 ⟨ρ1, M1, a, m1, s1, e1, k1, rx, q1⟩ => ?_
    refine tK.mono (go_bind s1 e1 k1 q1) fun xs H2 ⟨ρ2, M2, as, m2, s2, e2, k2, rxs, q2⟩ => ?_
    exact go_ok (T := TDs L) s2 q2 ⟨x, xs, rfl, m2.rep _ _ rx, rxs⟩
theorem small_len {k : Nat} (h : k ≤ 1000) : k ≤ sizeLine := by rw [sizeLine_eq]; omega
theorem evs_len {P : Prg} {R : Rt} : ∀ (ms : MEs) {σ : Env} {M M' : Hm} {ds : List D}, evs P R κ ms σ M = .ok ds M' → ds.length = ms.size
  | .nil, _, _, _, _, h => by cases h; rfl
  | .cons m ms, σ, M, M', ds, h => by
    unfold evs at h
    cases e1 : ev P R κ m σ M with
    | ok d M1 =>
      rw [e1, Res.bind_ok] at h
      cases e2 : evs P R κ ms σ M1 with
      | ok ds' M2 =>
        rw [e2, Res.bind_ok] at h
        cases h
        exact congrArg Nat.succ (evs_len ms e2)
      | exc _ _ _ => rw [e2] at h; cases h
      | bad => rw [e2] at h; cases h
    | exc _ _ _ => rw [e1] at h; cases h
    | bad => rw [e1] at h; cases h
/-- .. where the length is known -/
theorem go_evs {T2 : List Addr → Hp → γ → δ → Prop} {ms : MEs} {g : List D → Hm → Res γ} {ρ : List Addr} {H : Hp} {sv : St} {σ : Env} {M : Hm} {Q2 : δ → Hp → Prop} (s : Sim L.toLay ρ H M) (e : EnvR L.toLay ρ H σ sv) (k : KR Z L P η n κ ρ H sv)
    (h : Go L T2 W ρ H sv ((evs P (rt P n) κ ms σ M).bind g) Q2) :
    tK Z L P η (TDs L) n κ W (evs P (rt P n) κ ms) sv H (fun vs H1 => ∃ ρ1 M1 ds, ds.length = ms.size ∧ Mono ρ H ρ1 H1 ∧ Sim L.toLay ρ1 H1 M1 ∧ EnvR L.toLay ρ1 H1 σ sv ∧ KR Z L P η n κ ρ1 H1 sv ∧ RepL L.toLay ρ1 H1 ds vs ∧ Go L T2 W ρ1 H1 sv (g ds M1) Q2) := by
  refine ⟨ρ, σ, M, s, e, k, ?_⟩
  cases q : evs P (rt P n) κ ms σ M with
  | ok a M1 =>
    rw [q] at h
    exact fun ρ' H' b m s' t => ⟨ρ', M1, a, evs_len ms q, m, s', m.env e, k.mono m, t, Go.mono h m⟩
  | exc c x M1 =>
    rw [q] at h
    exact h
  | bad =>
    rw [q] at h
    exact h
theorem se_tup {ms : MEs} {es : List Expr} {k : Nat} {pos : Pos} (h : SA Z L P n κ W X ms es) (hl : ms.size ≤ 1000) : SE Z L P n κ W X (.tup ms) (.Tuple es k pos) := pe_weak (pe_tup h) fun sv H Q q => by
  obtain ⟨ρ, σ, M, s, er, k, q⟩ := q
  refine tK.mono (go_evs s er k q) fun xs H1 ⟨ρ1, M1, as, l1, m1, s1, e1, k1, rx, q1⟩ => ?_
  exact ⟨by rw [rx.len, l1]; exact small_len hl, go_tup s1 rx q1⟩
theorem se_lst {ms : MEs} {es : List Expr} {b : Bool} {pos : Pos} (h : SA Z L P n κ W X ms es) (hl : ms.size ≤ 1000) : SE Z L P n κ W X (.lst b ms) (.List es pos) := pe_weak (pe_lst h) fun sv H Q q => by
  obtain ⟨ρ, σ, M, s, er, k, q⟩ := q
  refine tK.mono (go_evs s er k q) fun xs H1 ⟨ρ1, M1, as, l1, m1, s1, e1, k1, rx, q1⟩ => ?_
  exact ⟨by rw [rx.len, l1]; exact small_len hl, go_mkl s1 rx q1⟩
/-! ### operators -/
theorem se_bin {o : BOp} {b : Bool} {m1 m2 : ME} {e1 e2 : Expr} {pos : Pos} (O : XOk Z L P G n X W) (h1 : SE Z L P n κ W X m1 e1) (h2 : SE Z L P n κ W X m2 e2) : SE Z L P n κ W X (.bin o b m1 m2) (.BinOp e1 (bopr o) e2 pos) :=
  pe_weak (pe_op (op_bin (W := W) O.K o b) h1 h2) fun sv H Q h => by
    obtain ⟨ρ, σ, M, s, er, k, q⟩ := h
    refine tK.mono (go_bind s er k q) fun x H1 ⟨ρ1, M1, a, m1, s1, e1, k1, rx, q1⟩ => ?_
    refine tK.mono (go_bind s1 e1 k1 q1) fun y H2 ⟨ρ2, M2, c, m2, s2, e2, k2, ry, q2⟩ => ?_
    exact ⟨ρ2, M2, a, c, sv, s2, m2.rep _ _ rx, ry, q2⟩
theorem se_un {o : UOp} {m1 : ME} {e1 : Expr} {pos : Pos} (h1 : SE Z L P n κ W X m1 e1) : SE Z L P n κ W X (.un o m1) (.UnaryOp (uopr o) e1 pos) :=
  pe_weak (pe_un (op_un (L := L) (W := W) o) h1) fun sv H Q h => by
    obtain ⟨ρ, σ, M, s, er, k, q⟩ := h
    refine tK.mono (go_bind s er k q) fun x H1 ⟨ρ1, M1, a, m1, s1, e1, k1, rx, q1⟩ => ?_
    exact ⟨ρ1, M1, a, sv, s1, rx, q1⟩
theorem XOk.call {X : Cx} (O : XOk Z L P G n X W) {pins : List (Addr × Obj)} {sv : St} {H : Hp} {s s' : Shared} (I : Inv X pins sv H s) {u : Value} (c : CX X.prog X.w X.stack H s (fun c d H' => W c d sv H') u s') : X.xe u s' := by
  obtain ⟨e0, o0, l, _, _, hl⟩ := O.stk
  exact O.tk u s' (XA.of_call hl I (fun _ _ _ h => h) c)
theorem XOk.hu (O : XOk Z L P G n X W) : X.A.units + 64 < cLine := O.room.units
theorem XOk.hu1 (O : XOk Z L P G n X W) : X.A.units + 1 < cLine := by have := O.room.units; omega
/-- a comparison's two sides -/
theorem cmp_read {o : COp} {m1 m2 : ME} {α : Type} {T : List Addr → Hp → α → V → Prop} {f : Bool → Hm → Res α} {sv : St} {H : Hp} {Q : VK} {R : V → Hp → Prop} {ρ : List Addr} {σ : Env} {M : Hm} (s : Sim L.toLay ρ H M) (er : EnvR L.toLay ρ H σ sv) (k : KR Z L P η n κ ρ H sv)
    {δ : Type} {T2 : List Addr → Hp → α → δ → Prop} {Q2 : δ → Hp → Prop} (q : Go L T2 W ρ H sv ((ev P (rt P n) κ m1 σ M).bind fun x M => (ev P (rt P n) κ m2 σ M).bind fun y M => (lift (opCmp o x y M) M).bind f) Q2)
    (h : ∀ ρ1 M1 b H1, Mono ρ H ρ1 H1 → Sim L.toLay ρ1 H1 M1 → EnvR L.toLay ρ1 H1 σ sv → KR Z L P η n κ ρ1 H1 sv → Go L T2 W ρ1 H1 sv (f b M1) Q2 → R (.bl b) H1) :
    tOp (rCmp L o) (tK Z L P η (TD L) n κ W (ev P (rt P n) κ m1)) (tK Z L P η (TD L) n κ W (ev P (rt P n) κ m2)) sv H R := by
  refine tK.mono (go_bind s er k q) fun x H1 ⟨ρ1, M1, a, m1, s1, e1, k1, rx, q1⟩ => ?_
  refine tK.mono (go_bind s1 e1 k1 q1) fun y H2 ⟨ρ2, M2, c, m2, s2, e2, k2, ry, q2⟩ => ?_
  obtain ⟨b, eb, q3⟩ := go_lift q2
  exact ⟨ρ2, M2, a, c, b, s2, m2.rep _ _ rx, ry, eb, h ρ2 M2 b H2 (m1.trans m2) s2 e2 k2 q3⟩
theorem se_cmp {o : COp} {m1 m2 : ME} {e1 e2 : Expr} {pos : Pos} (O : XOk Z L P G n X W) (h1 : SE Z L P n κ W X m1 e1) (h2 : SE Z L P n κ W X m2 e2) (hm : behindInMarks (copr o) e2 = false) : SE Z L P n κ W X (.cmp o m1 m2) (.Compare e1 [copr o] [e2] pos) :=
  pe_weak (pe_cmpR (op_cmp O.K O.hu o) h1 h2 hm) fun sv H Q h => by
    obtain ⟨ρ, σ, M, s, er, k, q⟩ := h
    exact cmp_read (T := fun _ _ _ _ => True) (Q := fun _ _ => True) s er k q fun ρ1 M1 b H1 m1 s1 _ _ q1 => go_ok (T := TD L) s1 q1 rfl
theorem sq_cmp {o : COp} {m1 m2 : ME} {e1 e2 : Expr} {pos : Pos} (O : XOk Z L P G n X W) (h1 : SE Z L P n κ W X m1 e1) (h2 : SE Z L P n κ W X m2 e2) (hm : behindInMarks (copr o) e2 = false) : SQ Z L P n κ W X (.cmp o m1 m2) (.Compare e1 [copr o] [e2] pos) :=
  pt_weak (pt_cmpR (op_cmp O.K O.hu o) h1 h2 hm) fun sv H Q h => by
    obtain ⟨ρ, σ, M, s, er, k, q⟩ := h
    have q : Go L (TId Bool) W ρ H sv ((ev P (rt P n) κ m1 σ M).bind fun x M => (ev P (rt P n) κ m2 σ M).bind fun y M => (lift (opCmp o x y M) M).bind fun b M => .ok b M) Q := by
      refine sub_go q ?_
      show ((ev P (rt P n) κ m1 σ M).bind fun x M => (ev P (rt P n) κ m2 σ M).bind fun y M => lift (opCmp o x y M) M) = _
      congr 1
      funext x M1
      congr 1
      funext y M2
      cases opCmp o x y M2 <;> rfl
    exact cmp_read (T := fun _ _ _ _ => True) (Q := fun _ _ => True) s er k q fun ρ1 M1 b H1 m1 s1 _ _ q1 => ⟨b, rfl, go_ok (T := TId Bool) s1 q1 rfl⟩
end
end Mi

end
section
/-! M7: further expressions: chains, and, or, not, subscripts, built-ins, attributes, calls. -/
namespace Mi
open PySem L2
section
variable {Z : Wo} {L : XLay} {P : Prg} {G : GTab} {n : Nat} {κ : List (Nat × CloD)} {W : WX} {X : Cx}
/-! ### chains -/
theorem chn_read {o p : COp} {m1 m2 m3 : ME} {α δ : Type} {T2 : List Addr → Hp → α → δ → Prop} {Q2 : δ → Hp → Prop} {f : Bool → Hm → Res α} {sv : St} {H : Hp} {R : VK} {ρ : List Addr} {σ : Env} {M : Hm}
    (s : Sim L.toLay ρ H M) (er : EnvR L.toLay ρ H σ sv) (k : KR Z L P Z.ent n κ ρ H sv)
    (q : Go L T2 W ρ H sv ((ev P (rt P n) κ m1 σ M).bind fun x M => (ev P (rt P n) κ m2 σ M).bind fun y M => (lift (opCmp o x y M) M).bind fun k M =>
      if k then (ev P (rt P n) κ m3 σ M).bind fun z M => (lift (opCmp p y z M) M).bind f else f false M) Q2)
    (h : ∀ ρ1 M1 b H1, Mono ρ H ρ1 H1 → Sim L.toLay ρ1 H1 M1 → Go L T2 W ρ1 H1 sv (f b M1) Q2 → R (.bl b) H1) :
    tChain (rCmp L o) (rCmp L p) (tK Z L P Z.ent (TD L) n κ W (ev P (rt P n) κ m1)) (tK Z L P Z.ent (TD L) n κ W (ev P (rt P n) κ m2)) (tK Z L P Z.ent (TD L) n κ W (ev P (rt P n) κ m3)) sv H R := by
  refine tK.mono (go_bind s er k q) fun x H1 ⟨ρ1, M1, a, m1, s1, e1, k1, rx, q1⟩ => ?_
  refine tK.mono (go_bind s1 e1 k1 q1) fun y H2 ⟨ρ2, M2, c, m2, s2, e2, k2, ry, q2⟩ => ?_
  obtain ⟨b, eb, q3⟩ := go_lift q2
  refine ⟨ρ2, M2, a, c, b, s2, m2.rep _ _ rx, ry, eb, b, rfl, ?_⟩
  cases b with
  | false => exact h ρ2 M2 false H2 (m1.trans m2) s2 q3
  | true =>
    refine tK.mono (go_bind s2 e2 k2 q3) fun z H3 ⟨ρ3, M3, d, m3, s3, e3, k3, rz, q4⟩ => ?_
    obtain ⟨b', eb', q5⟩ := go_lift q4
    exact ⟨ρ3, M3, c, d, b', s3, m3.rep _ _ ry, rz, eb', h ρ3 M3 b' H3 ((m1.trans m2).trans m3) s3 q5⟩
theorem se_chn {o p : COp} {m1 m2 m3 : ME} {e1 e2 e3 : Expr} {pos : Pos} (O : XOk Z L P G n X W) (h1 : SE Z L P n κ W X m1 e1) (h2 : SE Z L P n κ W X m2 e2) (h3 : SE Z L P n κ W X m3 e3) (hm : lastMarks [copr o, copr p] [e2, e3] = false) :
    SE Z L P n κ W X (.chn o p m1 m2 m3) (.Compare e1 [copr o, copr p] [e2, e3] pos) :=
  pe_weak (pe_chain (op_cmp O.K O.hu o) (op_cmp O.K O.hu p) h1 h2 h3 hm) fun sv H Q h => by
    obtain ⟨ρ, σ, M, s, er, k, q⟩ := h
    exact chn_read s er k (f := fun b M => .ok (.bl b) M) (T2 := TD L) (Q2 := Q) q fun ρ1 M1 b H1 m1 s1 q1 => go_ok (T := TD L) s1 q1 rfl
theorem sq_chn {o p : COp} {m1 m2 m3 : ME} {e1 e2 e3 : Expr} {pos : Pos} (O : XOk Z L P G n X W) (h1 : SE Z L P n κ W X m1 e1) (h2 : SE Z L P n κ W X m2 e2) (h3 : SE Z L P n κ W X m3 e3) (hm : lastMarks [copr o, copr p] [e2, e3] = false) :
    SQ Z L P n κ W X (.chn o p m1 m2 m3) (.Compare e1 [copr o, copr p] [e2, e3] pos) :=
  pt_weak (pt_chain (op_cmp O.K O.hu o) (op_cmp O.K O.hu p) h1 h2 h3 hm) fun sv H Q h => by
    obtain ⟨ρ, σ, M, s, er, k, q⟩ := h
    refine chn_read s er k (f := fun b M => .ok b M) (T2 := TId Bool) (Q2 := Q) (sub_go q ?_) fun ρ1 M1 b H1 m1 s1 q1 => ⟨b, rfl, go_ok (T := TId Bool) s1 q1 rfl⟩
    show ((ev P (rt P n) κ m1 σ M).bind fun x M => (ev P (rt P n) κ m2 σ M).bind fun y M => (lift (opCmp o x y M) M).bind fun k M =>
      if k then (ev P (rt P n) κ m3 σ M).bind fun z M => lift (opCmp p y z M) M else .ok false M) = _
    congr 1
    funext x M1
    congr 1
    funext y M2
    congr 1
    funext k M3
    cases k with
    | false => rfl
    | true =>
      simp only [if_true]
      congr 1
      funext z M4
      cases opCmp p y z M4 <;> rfl
/-! ### and, or, not, if -/
def bopr' : Bool → BoolOp
  | true => .And
  | false => .Or
abbrev SB (Z : Wo) (L : XLay) (P : Prg) (n : Nat) (κ : List (Nat × CloD)) (W : WX) (X : Cx) (b : Bool) (ms : MEs) (es : List Expr) (pos : Pos) : Prop := PE X (.BoolOp (bopr' b) es pos) (tK Z L P Z.ent (TD L) n κ W (evB P (rt P n) κ b ms))
theorem sb_one {b : Bool} {m : ME} {e : Expr} {pos : Pos} (h : SE Z L P n κ W X m e) : SB Z L P n κ W X b (.cons m .nil) [e] pos := pe_weak (pe_one h) fun sv H Q q => q
theorem sb_cons {b : Bool} {m m2 : ME} {ms : MEs} {e e2 : Expr} {es : List Expr} {pos : Pos} (h1 : SE Z L P n κ W X m e) (h2 : SB Z L P n κ W X b (.cons m2 ms) (e2 :: es) pos) : SB Z L P n κ W X b (.cons m (.cons m2 ms)) (e :: e2 :: es) pos := by
  have main : ∀ sv H Q, tK Z L P Z.ent (TD L) n κ W (evB P (rt P n) κ b (.cons m (.cons m2 ms))) sv H Q → tK Z L P Z.ent (TD L) n κ W (ev P (rt P n) κ m) sv H fun x H1 => ∃ c, x = .bl c ∧
      if c = b then tK Z L P Z.ent (TD L) n κ W (evB P (rt P n) κ b (.cons m2 ms)) sv H1 Q else Q (.bl c) H1 := fun sv H Q h => by
    obtain ⟨ρ, σ, M, s, er, k, q⟩ := h
    refine tK.mono (go_bind s er k q) fun x H1 ⟨ρ1, M1, a, m1, s1, e1, k1, rx, q1⟩ => ?_
    cases a <;> first | exact False.elim q1 | skip
    rename_i c
    refine ⟨c, rx, ?_⟩
    by_cases hc : c = b
    · rw [if_pos hc]
      have q1 : Go L (TD L) W ρ1 H1 sv (if c = b then evB P (rt P n) κ b (.cons m2 ms) σ M1 else .ok (.bl c) M1) Q := q1
      rw [if_pos hc] at q1
      exact ⟨ρ1, σ, M1, s1, e1, k1, q1⟩
    · rw [if_neg hc]
      have q1 : Go L (TD L) W ρ1 H1 sv (if c = b then evB P (rt P n) κ b (.cons m2 ms) σ M1 else .ok (.bl c) M1) Q := q1
      rw [if_neg hc] at q1
      exact go_ok (T := TD L) s1 q1 rfl
  cases b with
  | true =>
    refine pe_weak (pe_and h1 h2) fun sv H Q h => tK.mono (main sv H Q h) fun x H1 ⟨c, e1, q⟩ => ⟨c, e1, ?_⟩
    cases c with
    | true => exact q
    | false => exact q
  | false =>
    refine pe_weak (pe_or h1 h2) fun sv H Q h => tK.mono (main sv H Q h) fun x H1 ⟨c, e1, q⟩ => ⟨c, e1, ?_⟩
    cases c with
    | true => exact q
    | false => exact q
theorem se_not {m : ME} {e : Expr} {pos : Pos} (h : SE Z L P n κ W X m e) : SE Z L P n κ W X (.not m) (.UnaryOp .Not e pos) := pe_weak (pe_not h) fun sv H Q h => by
  obtain ⟨ρ, σ, M, s, er, k, q⟩ := h
  refine tK.mono (go_bind s er k q) fun x H1 ⟨ρ1, M1, a, m1, s1, e1, k1, rx, q1⟩ => ?_
  cases a <;> first | exact False.elim q1 | skip
  exact ⟨_, rx, go_ok (T := TD L) s1 q1 rfl⟩
theorem se_ife {t : MQ} {m1 m2 : ME} {et e1 e2 : Expr} {pos : Pos} (ht : SQ Z L P n κ W X t et) (h1 : SE Z L P n κ W X m1 e1) (h2 : SE Z L P n κ W X m2 e2) : SE Z L P n κ W X (.ife t m1 m2) (.IfExp et e1 e2 pos) := pe_weak (pe_ifExp ht h1 h2) fun sv H Q h => by
  obtain ⟨ρ, σ, M, s, er, k, q⟩ := h
  refine tK.mono (go_bind s er k q) fun c H1 ⟨ρ1, M1, a, m1, s1, e1, k1, rx, q1⟩ => ?_
  have rx : c = a := rx
  subst rx
  cases c with
  | true => exact ⟨ρ1, σ, M1, s1, e1, k1, q1⟩
  | false => exact ⟨ρ1, σ, M1, s1, e1, k1, q1⟩
theorem sq_val {m : ME} {e : Expr} (h : SE Z L P n κ W X m e) (he : ∀ whole, isTrue e X.env whole = (do let v ← whole; standAt e.pos; holding [v] (truthy v))) : SQ Z L P n κ W X (.val m) e := pt_weak (pt_val h he) fun sv H Q h => by
  obtain ⟨ρ, σ, M, s, er, k, q⟩ := h
  refine tK.mono (go_bind s er k q) fun x H1 ⟨ρ1, M1, a, m1, s1, e1, k1, rx, q1⟩ => ?_
  cases a <;> first | exact False.elim q1 | skip
  exact ⟨_, rx, go_ok (T := TId Bool) s1 q1 rfl⟩
theorem sq_not {t : MQ} {e : Expr} {pos : Pos} (h : SQ Z L P n κ W X t e) : SQ Z L P n κ W X (.not t) (.UnaryOp .Not e pos) := pt_weak (pt_not h) fun sv H Q h => by
  obtain ⟨ρ, σ, M, s, er, k, q⟩ := h
  refine tK.mono (go_bind s er k q) fun c H1 ⟨ρ1, M1, a, m1, s1, e1, k1, rx, q1⟩ => ?_
  have rx : c = a := rx
  subst rx
  exact go_ok (T := TId Bool) s1 q1 rfl
abbrev SQB (Z : Wo) (L : XLay) (P : Prg) (n : Nat) (κ : List (Nat × CloD)) (W : WX) (X : Cx) (b : Bool) (ts : MQs) (es : List Expr) (pos : Pos) : Prop := PW X (.BoolOp (bopr' b) es pos) (tK Z L P Z.ent (TId Bool) n κ W (evTB P (rt P n) κ b ts))
theorem pw_weak {e : Expr} {t t' : TT} (h : PW X e t) (f : ∀ sv H Q, t' sv H Q → t sv H Q) : PW X e t' := ⟨fun wh pins s σ H Q I q => h.run wh pins s σ H Q I (f σ H Q q)⟩
theorem sqb_one {b : Bool} {t : MQ} {e : Expr} {pos : Pos} (h : SQ Z L P n κ W X t e) : SQB Z L P n κ W X b (.cons t .nil) [e] pos := by
  have main : ∀ sv H Q, tK Z L P Z.ent (TId Bool) n κ W (evTB P (rt P n) κ b (.cons t .nil)) sv H Q → tK Z L P Z.ent (TId Bool) n κ W (evT P (rt P n) κ t) sv H Q := fun sv H Q h => by
    obtain ⟨ρ, σ, M, s, er, k, q⟩ := h
    refine ⟨ρ, σ, M, s, er, k, sub_go q ?_⟩
    show ((evT P (rt P n) κ t σ M).bind fun c M => if c = b then .ok b M else .ok c M) = _
    cases evT P (rt P n) κ t σ M with
    | ok c M1 =>
      rw [Res.bind_ok]
      by_cases hc : c = b
      · rw [if_pos hc, hc]
      · rw [if_neg hc]
    | exc _ _ _ => rfl
    | bad => rfl
  cases b with
  | true => exact pw_weak (pw_and1 h) main
  | false => exact pw_weak (pw_or1 h) main
theorem sqb_cons {b : Bool} {t t2 : MQ} {ts : MQs} {e e2 : Expr} {es : List Expr} {pos : Pos} (h1 : SQ Z L P n κ W X t e) (h2 : SQB Z L P n κ W X b (.cons t2 ts) (e2 :: es) pos) : SQB Z L P n κ W X b (.cons t (.cons t2 ts)) (e :: e2 :: es) pos := by
  have main : ∀ sv H Q, tK Z L P Z.ent (TId Bool) n κ W (evTB P (rt P n) κ b (.cons t (.cons t2 ts))) sv H Q → tK Z L P Z.ent (TId Bool) n κ W (evT P (rt P n) κ t) sv H fun c H1 =>
      if c = b then tK Z L P Z.ent (TId Bool) n κ W (evTB P (rt P n) κ b (.cons t2 ts)) sv H1 Q else Q c H1 := fun sv H Q h => by
    obtain ⟨ρ, σ, M, s, er, k, q⟩ := h
    refine tK.mono (go_bind s er k q) fun c H1 ⟨ρ1, M1, a, m1, s1, e1, k1, rx, q1⟩ => ?_
    have rx : c = a := rx
    subst rx
    by_cases hc : c = b
    · rw [if_pos hc] at q1 ⊢
      exact ⟨ρ1, σ, M1, s1, e1, k1, q1⟩
    · rw [if_neg hc] at q1 ⊢
      exact go_ok (T := TId Bool) s1 q1 rfl
  cases b with
  | true =>
    refine pw_weak (pw_and h1 h2) fun sv H Q h => tK.mono (main sv H Q h) fun c H1 q => ?_
    cases c with
    | true => exact q
    | false => exact q
  | false =>
    refine pw_weak (pw_or h1 h2) fun sv H Q h => tK.mono (main sv H Q h) fun c H1 q => ?_
    cases c with
    | true => exact q
    | false => exact q
/-! ### subscripts -/
theorem se_ix {m1 m2 : ME} {e1 e2 : Expr} {pos : Pos} (O : XOk Z L P G n X W) (h1 : SE Z L P n κ W X m1 e1) (h2 : SE Z L P n κ W X m2 e2) (hs : PlainIx e2) : SE Z L P n κ W X (.ix m1 m2) (.Subscript e1 e2 pos) :=
  pe_weak (pe_ix (ix_all O.K O.hu1) h1 h2 hs) fun sv H Q h => by
    obtain ⟨ρ, σ, M, s, er, k, q⟩ := h
    refine tK.mono (go_bind s er k q) fun x H1 ⟨ρ1, M1, a, m1, s1, e1, k1, rx, q1⟩ => ?_
    refine tK.mono (go_bind s1 e1 k1 q1) fun y H2 ⟨ρ2, M2, c, m2, s2, e2, k2, ry, q2⟩ => ?_
    cases eo : opIx a c M2 with
    | none => rw [eo] at q2; exact False.elim q2
    | some d => rw [eo] at q2; exact ⟨ρ2, M2, a, c, d, s2, m2.rep _ _ rx, ry, eo, fun w rw' => go_ok (T := TD L) s2 q2 rw'⟩
abbrev SP' (Z : Wo) (L : XLay) (P : Prg) (n : Nat) (κ : List (Nat × CloD)) (W : WX) (X : Cx) (m : MP) (e : Option Expr) : Prop := PO X e (tK Z L P Z.ent (TId (Option Int)) n κ W (evP P (rt P n) κ m))
theorem po_weak {e : Option Expr} {t t' : TO} (h : PO X e t) (f : ∀ sv H Q, t' sv H Q → t sv H Q) : PO X e t' := ⟨fun pins s σ H Q I q => h.run pins s σ H Q I (f σ H Q q)⟩
theorem sp_no : SP' Z L P n κ W X .no none := po_weak po_none fun sv H Q h => by
  obtain ⟨ρ, σ, M, s, er, k, q⟩ := h
  exact go_ok (T := TId (Option Int)) s q rfl
theorem sp_some {m : ME} {e : Expr} (h : SE Z L P n κ W X m e) : SP' Z L P n κ W X (.some m) (some e) := po_weak (po_some h) fun sv H Q h => by
  obtain ⟨ρ, σ, M, s, er, k, q⟩ := h
  refine tK.mono (go_bind s er k q) fun x H1 ⟨ρ1, M1, a, m1, s1, e1, k1, rx, q1⟩ => ?_
  cases a <;> first | exact False.elim q1 | skip
  exact ⟨_, rx, go_ok (T := TId (Option Int)) s1 q1 rfl⟩
theorem se_sl {b : Bool} {m : ME} {lo hi : MP} {e : Expr} {el eh : Option Expr} {p2 pos : Pos} (O : XOk Z L P G n X W) (h : SE Z L P n κ W X m e) (hl : SP' Z L P n κ W X lo el) (hh : SP' Z L P n κ W X hi eh) : SE Z L P n κ W X (.sl b m lo hi) (.Subscript e (.Slice el eh none p2) pos) :=
  pe_weak (pe_slice (sl_all (W := W) O.K b) h hl hh) fun sv H Q h => by
    obtain ⟨ρ, σ, M, s, er, k, q⟩ := h
    refine tK.mono (go_bind s er k q) fun x H1 ⟨ρ1, M1, a, m1, s1, e1, k1, rx, q1⟩ => ?_
    refine tK.mono (go_bind s1 e1 k1 q1) fun l H2 ⟨ρ2, M2, l', m2, s2, e2, k2, rl, q2⟩ => ?_
    refine tK.mono (go_bind s2 e2 k2 q2) fun u H3 ⟨ρ3, M3, u', m3, s3, e3, k3, ru, q3⟩ => ?_
    have rl : l = l' := rl
    have ru : u = u' := ru
    subst rl
    subst ru
    exact ⟨ρ3, M3, a, sv, s3, m3.rep _ _ (m2.rep _ _ rx), q3⟩
/-! ### built-in functions -/
def biN : Bi → Str
  | .len => "len" | .abs => "abs" | .int => "int" | .bool => "bool" | .sum => "sum" | .all => "all" | .any => "any" | .tuple => "tuple" | .list => "list" | .dict => "dict" | .max => "max" | .min => "min"
theorem bi_boot (b : Bi) : bootBuiltins (biN b) = some (biV b) := by cases b <;> rfl
theorem bi_mem (b : Bi) : biN b ∈ biNames := by cases b <;> decide +kernel
theorem bi_name (b : Bi) : biN b ≠ "__name__" ∧ (biN b == ("__debug__" : Str)) = false := by cases b <;> decide +kernel
theorem se_bi {b : Bi} {h : Bool} {ms : MEs} {e : Expr} {es : List Expr} {p pos : Pos} (O : XOk Z L P G n X W) (ha : SA Z L P n κ W X ms (e :: es)) (hg : Gl X (biN b))
    (he : starEach (e :: es) X.env = (false, eval e X.env) :: starEach es X.env) (hpl : (backTo pos (starEach es X.env)).any (·.1) = false) : SE Z L P n κ W X (.bi b h ms) (.Call (.Name (biN b) p) (e :: es) [] pos) := by
  have hm : X.mg (biN b) = none := by rw [O.mg]; exact O.wok.blt _ (bi_mem b)
  have hc := call_bi (W := W) O.K O.calm b h
  have main : PE X (.Call (.Name (biN b) p) (e :: es) [] pos) (tCB (rBi L W b h) (tK Z L P Z.ent (TDs L) n κ W (evs P (rt P n) κ ms))) := by
    have hv := bi_boot b
    obtain ⟨n1, n2⟩ := bi_name b
    cases b <;> first
      | exact pe_callB hc hg hm hv ha n1 n2 he hpl
      | exact pe_callTy hc hg hm hv ha n1 n2 he hpl
  refine pe_weak main fun sv H Q h => ?_
  obtain ⟨ρ, σ, M, s, er, k, q⟩ := h
  refine tK.mono (go_bind s er k q) fun xs H1 ⟨ρ1, M1, as, m1, s1, e1, k1, rx, q1⟩ => ?_
  exact ⟨ρ1, M1, as, sv, s1, rx, q1⟩
end
end Mi

end
section
/-! M8: methods of built-ins, isinstance, attributes, calls. -/
namespace Mi
open PySem L2

/-! ### argument lists without stars -/
def noStar : List Expr → Bool
  | [] => true
  | .Starred _ _ :: _ => false
  | _ :: es => noStar es
theorem noStar_tail {e : Expr} {es : List Expr} (h : noStar (e :: es) = true) : noStar es = true := by
  cases e <;> first | exact h | cases h
theorem star_cons {e : Expr} {es : List Expr} {env : PySem.Env} (h : noStar (e :: es) = true) : starEach (e :: es) env = (false, eval e env) :: starEach es env := by
  cases e <;> first | rfl | cases h
theorem star_plain {pos : Pos} {env : PySem.Env} : ∀ {es : List Expr}, noStar es = true → (backTo pos (starEach es env)).any (·.1) = false
  | [], _ => rfl
  | e :: es, h => by
    rw [star_cons h]
    show (false || (backTo pos (starEach es env)).any (·.1)) = false
    rw [star_plain (noStar_tail h)]
    rfl
theorem star_all {pos : Pos} {env : PySem.Env} : ∀ {es : List Expr}, noStar es = true → (backTo pos (starEach es env)).all (fun x => !x.1) = true
  | [], _ => rfl
  | e :: es, h => by
    rw [star_cons h]
    show (true && (backTo pos (starEach es env)).all (fun x => !x.1)) = true
    rw [star_all (noStar_tail h)]
    rfl
/-- not super() -/
def noSup : Expr → Bool
  | .Call (.Name _ _) [] [] _ => false
  | _ => true
theorem base_of {o : Expr} {m : Str} {env : PySem.Env} {w : Sem Value} (h : noSup o = true) : attributeBase o m env w = w := by
  unfold attributeBase
  split
  · cases h
  · rfl
theorem meth_tree {o : Expr} {m : Str} {apos pos : Pos} {es : List Expr} {env : PySem.Env} (hb : noSup o = true) (hn : noStar es = true) (hl : (apos.endLine == pos.line) = true) (hk : es.length < 30) :
    eval (.Call (.Attribute o m apos) es [] pos) env = (do
      let ov ← eval o env
      standAt apos.atName
      let (f, first) ← holding [ov] (getMethod ov m (do return (← importBound o env).getD true))
      callWith pos f first (backTo pos (starEach es env)) (backToKw pos (keywordEach [] env))) := by
  have few : methodCallForm (es.length + ([] : List Keyword).length) (backTo pos (starEach es env)) (backToKw pos (keywordEach [] env)) = true := by
    unfold methodCallForm
    have h0 : (decide (es.length + ([] : List Keyword).length + (if (backToKw pos (keywordEach [] env)).isEmpty then 0 else 1) < 30)) = true := decide_eq_true hk
    rw [star_all hn, h0]
    rfl
  rw [arm_eval_Call, base_of hb]
  unfold methodCall methodCallPos calleeOf
  rw [few, hl]
  rfl

section
variable {Z : Wo} {L : XLay} {P : Prg} {G : GTab} {n : Nat} {κ : List (Nat × CloD)} {W : WX} {X : Cx}
/-! ### methods of built-in types -/
def bmSlot (b : Bm) : String := match b with | .append => "append" | .pop => "pop" | .get => "get"
theorem se_bm {b : Bm} {m : ME} {ms : MEs} {o e : Expr} {es : List Expr} {name : Str} {apos pos : Pos} (O : XOk Z L P G n X W) (ho : SE Z L P n κ W X m o) (ha : SA Z L P n κ W X ms (e :: es)) (hnm : name = bmN b) (hb : b ≠ .pop)
    (h1 : noSup o = true) (h2 : noStar (e :: es) = true) (h3 : (apos.endLine == pos.line) = true) (h4 : (e :: es).length < 30) : SE Z L P n κ W X (.bm b m ms) (.Call (.Attribute o name apos) (e :: es) [] pos) := by
  have main : PE X (.Call (.Attribute o name apos) (e :: es) [] pos) (tBM X.K (bmT b) (rBm L W b) (tK Z L P Z.ent (TD L) n κ W (ev P (rt P n) κ m)) (tK Z L P Z.ent (TDs L) n κ W (evs P (rt P n) κ ms))) := by
    have hm := mt_bm (L := L) (W := W) O.hu1 b
    subst hnm
    have few : ((backTo pos (starEach (e :: es) X.env)).all (fun x => !x.1) && (backToKw pos (keywordEach [] X.env)).all (fun x => x.1.isSome)
      && decide ((e :: es).length + ([] : List Keyword).length + (if ([] : List Keyword).isEmpty then 0 else 1) < 30)) = true := by
      rw [star_all h2, decide_eq_true (show (e :: es).length + ([] : List Keyword).length + (if ([] : List Keyword).isEmpty then 0 else 1) < 30 from h4)]
      rfl
    cases b with
    | append => exact pe_bm F.plainAttrs_list F.slot_list_append F.type_list_append hm ho ha (base_of h1) few h3 (star_cons h2) (star_plain (noStar_tail h2))
    | pop => exact absurd rfl hb
    | get => exact pe_bm F.plainAttrs_dict F.slot_dict_get F.type_dict_get hm ho ha (base_of h1) few h3 (star_cons h2) (star_plain (noStar_tail h2))
  refine pe_weak main fun sv H Q h => ?_
  obtain ⟨ρ, σ, M, s, er, k, q⟩ := h
  refine tK.mono (go_bind s er k q) fun x H1 ⟨ρ1, M1, a, m1, s1, e1, k1, rx, q1⟩ => ?_
  obtain ⟨c, q1⟩ := go_if q1
  refine ⟨by rw [O.K]; exact bm_ty (ds := []) (sv := sv) (Q := fun _ _ => True) s1 rx c, ?_⟩
  refine tK.mono (go_bind s1 e1 k1 q1) fun xs H2 ⟨ρ2, M2, ds, m2, s2, e2, k2, rxs, q2⟩ => ?_
  exact ⟨ρ2, M2, a, ds, sv, s2, m2.rep _ _ rx, rxs, q2⟩
theorem se_pop {m : ME} {o : Expr} {name : Str} {apos pos : Pos} (O : XOk Z L P G n X W) (ho : SE Z L P n κ W X m o) (hnm : name = "pop")
    (h1 : noSup o = true) (h3 : (apos.endLine == pos.line) = true) : SE Z L P n κ W X (.bm .pop m .nil) (.Call (.Attribute o name apos) [] [] pos) := by
  subst hnm
  refine pe_weak (pe_bm0 F.plainAttrs_list F.slot_list_pop F.type_list_pop (mt_bm (L := L) (W := W) O.hu1 .pop) ho (base_of h1) h3) fun sv H Q h => ?_
  obtain ⟨ρ, σ, M, s, er, k, q⟩ := h
  refine tK.mono (go_bind s er k q) fun x H1 ⟨ρ1, M1, a, m1, s1, e1, k1, rx, q1⟩ => ?_
  obtain ⟨c, q1⟩ := go_if q1
  exact ⟨by rw [O.K]; exact bm_ty (b := .pop) (ds := []) (sv := sv) (Q := fun _ _ => True) s1 rx c, ρ1, M1, a, [], sv, s1, rx, rfl, q1⟩
/-! ### isinstance -/
def tyNm : Ty → Str
  | .int => "int" | .bool => "bool" | .str => "str" | .tuple => "tuple" | .list => "list" | .dict => "dict" | .cls _ => ""
def isCls : Ty → Bool
  | .cls _ => true
  | _ => false
theorem ty_boot {t : Ty} (h : isCls t = false) : bootBuiltins (tyNm t) = some (.type (tyN t)) := by
  cases t <;> first | (cases h; done) | rfl
theorem ty_mem {t : Ty} (h : isCls t = false) : tyNm t ∈ biNames := by
  cases t <;> first | (cases h; done) | decide +kernel
theorem ty_name (t : Ty) : tyNm t ≠ "__name__" ∧ (tyNm t == ("__debug__" : Str)) = false := by
  cases t <;> first | (show ("" : Str) ≠ "__name__" ∧ (("" : Str) == ("__debug__" : Str)) = false; decide +kernel) | decide +kernel
theorem pe_ty {t : Ty} {pos : Pos} (O : XOk Z L P G n X W) (h : isCls t = false) (hg : Gl X (tyNm t)) : PE X (.Name (tyNm t) pos) (tC (.ty (tyN t))) :=
  pe_bltn hg (by rw [O.mg]; exact O.wok.blt _ (ty_mem h)) (ty_boot h) rfl (ty_name t).1 (ty_name t).2
theorem isi_mem : ("isinstance" : Str) ∈ biNames := by decide +kernel
theorem se_isi {m : ME} {e : Expr} {t : Ty} {p tp pos : Pos} (O : XOk Z L P G n X W) (h : SE Z L P n κ W X m e) (ht : isCls t = false) (hg : Gl X (tyNm t)) (hi : Gl X "isinstance") (hs : noStar [e] = true) :
    SE Z L P n κ W X (.isi m [t]) (.Call (.Name "isinstance" p) [e, .Name (tyNm t) tp] [] pos) := by
  have hns : noStar [e, .Name (tyNm t) tp] = true := by cases e <;> first | rfl | cases hs
  refine pe_weak (pe_callB (call_isa O.K t) hi (by rw [O.mg]; exact O.wok.blt _ isi_mem) (by rfl) (pa_cons h (pa_cons (pe_ty O ht hg) pa_nil) (star_cons hns)) (by decide) (by decide) (star_cons hns) (star_plain (noStar_tail hns))) fun sv H Q q => ?_
  obtain ⟨ρ, σ, M, s, er, k, q⟩ := q
  refine tK.mono (go_bind s er k q) fun x H1 ⟨ρ1, M1, a, m1, s1, e1, k1, rx, q1⟩ => ?_
  obtain ⟨b, eb, q1⟩ := go_lift q1
  have eb : isTy M1 a t = some b := by
    unfold isAny at eb
    cases z : isTy M1 a t with
    | none => rw [z] at eb; cases eb
    | some c => rw [z] at eb; cases c <;> exact eb
  exact ⟨x, rfl, ρ1, M1, a, b, s1, rx, eb, go_ok (T := TD L) s1 q1 rfl⟩
/-- a tuple of types -/
inductive TyEs : List Ty → List Expr → Prop where
  | nil : TyEs [] []
  | cons {t : Ty} {ts : List Ty} {es : List Expr} {pos : Pos} (h : TyEs ts es) : TyEs (t :: ts) (.Name (tyNm t) pos :: es)
theorem pa_tys (O : XOk Z L P G n X W) : ∀ {ts : List Ty} {es : List Expr}, TyEs ts es → (∀ t ∈ ts, isCls t = false ∧ Gl X (tyNm t)) → PA X es (fun _ H Q => Q (ts.map fun t => .ty (tyN t)) H)
  | _, _, .nil, _ => pa_nil
  | _, _, .cons h, g => pa_cons (pe_ty O (g _ List.mem_cons_self).1 (g _ List.mem_cons_self).2) (pa_tys O h fun t ht => g t (List.mem_cons_of_mem _ ht)) rfl
theorem kit_any {K : PySem.W.Frag} {M : Hm} {a : D} {g : Tg} (eg : tagD M a = some g) : ∀ {ts : List Ty} {b : Bool}, isAny M a ts = some b → PySem.W.kitAny K (tgV g) (ts.map fun t => .type (tyN t)) = some b
  | [], b, e => e
  | t :: ts, b, e => by
    unfold isAny isTy at e
    rw [eg] at e
    cases z : tagTy g t with
    | none => simp only [z] at e; cases e
    | some c =>
      simp only [z] at e
      refine kitAny_cons (b := c) (kit_tag z) (fun hc => ?_) fun hc => ?_
      · subst hc; exact kit_any eg e
      · subst hc; cases e; rfl
theorem se_isis {m : ME} {e : Expr} {t : Ty} {ts : List Ty} {es : List Expr} {p pos tp : Pos} {k : Nat} (O : XOk Z L P G n X W) (h : SE Z L P n κ W X m e) (hts : TyEs (t :: ts) es) (ht : ∀ u ∈ t :: ts, isCls u = false ∧ Gl X (tyNm u)) (hl : (t :: ts).length ≤ 1000) (hi : Gl X "isinstance") (hs : noStar [e] = true) :
    SE Z L P n κ W X (.isi m (t :: ts)) (.Call (.Name "isinstance" p) [e, .Tuple es k tp] [] pos) := by
  have hns : noStar [e, .Tuple es k tp] = true := by cases e <;> first | rfl | cases hs
  refine pe_weak (pe_callB call_isiT hi (by rw [O.mg]; exact O.wok.blt _ isi_mem) (by rfl) (pa_cons h (pa_cons (pe_tup (pa_tys O hts ht)) pa_nil) (star_cons hns)) (by decide) (by decide) (star_cons hns) (star_plain (noStar_tail hns))) fun sv H Q q => ?_
  obtain ⟨ρ, σ, M, s, er, k, q⟩ := q
  refine tK.mono (go_bind s er k q) fun x H1 ⟨ρ1, M1, a, m1, s1, e1, k1, rx, q1⟩ => ?_
  obtain ⟨b, eb, q1⟩ := go_lift q1
  refine ⟨by rw [List.length_map]; exact small_len hl, fun q np => ?_⟩
  have mm : Mono ρ1 H1 ρ1 (upd H1 q (.tup ((t :: ts).map fun t => .ty (tyN t)))) := upd_keep np
  obtain ⟨g, eg⟩ : ∃ g, tagD M1 a = some g := by
    unfold isAny isTy at eb
    cases z : tagD M1 a with
    | none => rw [z] at eb; cases eb
    | some g => exact ⟨g, rfl⟩
  refine ⟨x, q, _, _, (t :: ts).map fun t => .type (tyN t), b, rfl, upd_same, ?_, by rw [O.K]; exact tag_ty (s1.upd np) eg (mm.rep _ _ rx), kit_any eg eb, ?_⟩
  · clear ht hts hl eb
    generalize t :: ts = l
    induction l with
    | nil => exact .nil
    | cons a r ih => exact .cons (.ty _) ih
  · exact q1 _ _ _ mm (s1.upd np) rfl
/-! ### attributes -/
theorem repF_lookup {ρ : List Addr} {H : Hp} : ∀ {fs : List (Str × D)} {vs : List (Str × V)} {f : Str}, RepF L.toLay ρ H fs vs → (∀ d, fs.lookup f = some d → ∃ v, vs.lookup f = some v ∧ Rep L.toLay ρ H d v) ∧ (fs.lookup f = none → vs.lookup f = none)
  | [], _, f, h => by
    rw [show _ = [] from h]
    exact ⟨(fun d z => by cases z), fun _ => rfl⟩
  | (g, d) :: r, _, f, ⟨v, t, e, h1, h2⟩ => by
    subst e
    obtain ⟨a, b⟩ := repF_lookup (f := f) h2
    by_cases q : (f == g) = true
    · rw [List.lookup_cons, List.lookup_cons, q]
      exact ⟨fun d' z => by cases z; exact ⟨v, rfl, h1⟩, fun z => by cases z⟩
    · have q : (f == g) = false := by simpa using q
      rw [List.lookup_cons, List.lookup_cons, q]
      exact ⟨a, b⟩
theorem getFld_at {ρ : List Addr} {H : Hp} {M : Hm} {f : Str} {x d : D} {v : V} (O : XOk Z L P G n X W) (sm : Sim L.toLay ρ H M) (r : Rep L.toLay ρ H x v) (e : getFld P f x M = some d) :
    ∃ k a C dx fv w fs, x = .ref k ∧ v = .ref a ∧ ρ[k]? = some a ∧ M[k]? = some (.ins C fs) ∧ H a = some (.ins (L.ca C) dx fv) ∧ L2.Cls X.K (L.ca C) ∧ NoAttr X.K (L.ca C) f ∧ fv.lookup f = some w ∧ Rep L.toLay ρ H d w := by
  cases x <;> first | (cases e; done) | skip
  rename_i k
  unfold getFld at e
  cases eo : M[k]? with
  | none => simp only [eo] at e; cases e
  | some o =>
    cases o with
    | ins C fs =>
      simp only [eo] at e
      obtain ⟨a, rfl, hr, dx, fv, hi, rf⟩ := sm.at r eo
      cases ec : P.clss[C]? with
      | none => rw [ec] at e; simp at e
      | some kl =>
        rw [ec] at e
        by_cases c : kl.own.contains f = true
        · rw [Option.any_some, if_pos c] at e
          obtain ⟨c1, c2, _⟩ := O.wok.cls _ _ ec
          obtain ⟨w, ew, rw'⟩ := (repF_lookup (f := f) rf).1 d e
          exact ⟨k, a, C, dx, fv, w, fs, rfl, rfl, hr, eo, hi, by rw [O.K]; exact c1, by rw [O.K]; exact c2 f (List.contains_iff_mem.mp c), ew, rw'⟩
        · rw [Option.any_some, if_neg c] at e
          cases e
    | _ => simp only [eo] at e; cases e
theorem se_fld {m : ME} {o : Expr} {f : Str} {pos : Pos} (O : XOk Z L P G n X W) (h : SE Z L P n κ W X m o) (hb : noSup o = true) : SE Z L P n κ W X (.fld f m) (.Attribute o f pos) := by
  refine pe_weak (pe_fld h (base_of hb)) fun sv H Q q => ?_
  obtain ⟨ρ, σ, M, s, er, k, q⟩ := q
  refine tK.mono (go_bind s er k q) fun x H1 ⟨ρ1, M1, a, m1, s1, e1, k1, rx, q1⟩ => ?_
  cases e : getFld P f a M1 with
  | none => rw [e] at q1; exact False.elim q1
  | some d =>
    rw [e] at q1
    obtain ⟨_, a, C, dx, fv, w, _, _, rfl, _, _, hi, c1, c2, ew, rw'⟩ := getFld_at O s1 rx e
    exact ⟨a, _, dx, fv, w, rfl, hi, c1, c2, ew, go_ok (T := TD L) s1 q1 rw'⟩
end
end Mi

end
section
/-! M9: calls of own defs, methods, classes. -/
namespace Mi
open PySem L2
/-- the state at a call out of X -/
def XCall (X : Cx) (H : Hp) (s : Shared) : Ent := ⟨frs X.stack, H, s.heap⟩
section
variable (Z : Wo) (L : XLay) (P : Prg)
/-- arguments, from place j on, at the state η -/
def ArgA (η : Ent) (b j : Nat) : List Addr → Hp → List (Option D) × List (Nat × CloD) → List V → Prop := fun ρ H a vs =>
  vs.length = a.1.length ∧ (∀ (i : Nat) (d : D), a.1[i]? = some (some d) → ∃ v, vs[i]? = some v ∧ Rep L.toLay ρ H d v) ∧ ∀ (i : Nat) (c : CloD), a.2.lookup i = some c → ∃ k v, i = j + k ∧ vs[k]? = some v ∧ CloV Z L P η b ρ H v c
end
def isLam : ME → Bool
  | .lam _ _ _ _ => true
  | _ => false
section
variable {Z : Wo} {L : XLay} {P : Prg} {G : GTab} {n : Nat} {κ : List (Nat × CloD)} {W : WX} {X : Cx} {η : Ent}
theorem ArgA.argR {b : Nat} {ρ : List Addr} {H : Hp} {a : List (Option D) × List (Nat × CloD)} {vs : List V} (h : ArgA Z L P η b 0 ρ H a vs) : ArgR Z L P η b a.2 ρ H a.1 vs :=
  ⟨h.1, h.2.1, fun i c e => by
    obtain ⟨k, v, ek, ev, hv⟩ := h.2.2 i c e
    rw [Nat.zero_add] at ek
    exact ⟨v, ek ▸ ev, hv⟩⟩
theorem ArgR.mono {b : Nat} {ρ ρ1 : List Addr} {H H1 : Hp} {os : List (Option D)} {vs : List V} (h : ArgR Z L P η b κ ρ H os vs) (m : Mono ρ H ρ1 H1) : ArgR Z L P η b κ ρ1 H1 os vs :=
  ⟨h.1, fun i d e => by
    obtain ⟨v, e1, r⟩ := h.2.1 i d e
    exact ⟨v, e1, m.rep _ _ r⟩, fun i c e => by
    obtain ⟨v, e1, r⟩ := h.2.2 i c e
    exact ⟨v, e1, r.mono m⟩⟩
theorem ArgR.of_repL {b : Nat} {ρ : List Addr} {H : Hp} {ds : List D} {vs : List V} (h : RepL L.toLay ρ H ds vs) : ArgR Z L P η b [] ρ H (ds.map some) vs :=
  ⟨by rw [h.len, List.length_map], fun i d e => by
    rw [List.getElem?_map] at e
    cases z : ds[i]? with
    | none => rw [z] at e; cases e
    | some d' => rw [z] at e; cases e; exact h.at z, fun i c e => by cases e⟩
theorem ArgR.append {b : Nat} {ρ : List Addr} {H : Hp} {os : List (Option D)} {ds : List D} {vs ws : List V} (h : ArgR Z L P η b κ ρ H os vs) (k : RepL L.toLay ρ H ds ws) : ArgR Z L P η b κ ρ H (os ++ ds.map some) (vs ++ ws) :=
  ⟨by rw [List.length_append, List.length_append, h.1, k.len, List.length_map], fun i d e => by
    by_cases hi : i < os.length
    · rw [List.getElem?_append_left hi] at e
      obtain ⟨v, e1, r⟩ := h.2.1 i d e
      exact ⟨v, by rw [List.getElem?_append_left (by rw [h.1]; exact hi)]; exact e1, r⟩
    · rw [List.getElem?_append_right (by omega)] at e
      obtain ⟨v, e1, r⟩ := (ArgR.of_repL (Z := Z) (P := P) (η := η) (b := b) k).2.1 _ d e
      exact ⟨v, by rw [List.getElem?_append_right (by rw [h.1]; omega), h.1]; exact e1, r⟩, fun i c e => by
    obtain ⟨v, e1, r⟩ := h.2.2 i c e
    exact ⟨v, by rw [List.getElem?_append_left (List.getElem?_eq_some_iff.mp e1).1]; exact e1, r⟩⟩
theorem ArgR.self {b : Nat} {ρ : List Addr} {H : Hp} {d : D} {v : V} {ds : List D} {vs : List V} (h : Rep L.toLay ρ H d v) (k : RepL L.toLay ρ H ds vs) : ArgR Z L P η b [] ρ H (some d :: ds.map some) (v :: vs) :=
  ArgR.of_repL (ds := d :: ds) ⟨v, vs, rfl, h, k⟩
/-! ### the argument lists of calls -/
theorem Res.bind_assoc {α β γ : Type} (r : Res α) (f : α → Hm → Res β) (g : β → Hm → Res γ) : (r.bind f).bind g = r.bind fun a M => (f a M).bind g := by cases r <;> rfl
/-- the arguments run; what is behind is told of the very state -/
structure SAL (Z : Wo) (L : XLay) (P : Prg) (n : Nat) (κ : List (Nat × CloD)) (W : WX) (X : Cx) (j : Nat) (ms : MEs) (es : List Expr) : Prop where
  run : ∀ {α δ : Type} (T2 : List Addr → Hp → α → δ → Prop) (g : List (Option D) × List (Nat × CloD) → Hm → Res α) (Q2 : δ → Hp → Prop) (pos : Pos) (pins : List (Addr × Obj)) (s : Shared) (sv : St) (H : Hp) (ρ : List Addr) (σ : Env) (M : Hm),
    Inv X pins sv H s → Sim L.toLay ρ H M → EnvR L.toLay ρ H σ sv → KR Z L P Z.ent n κ ρ H sv → Go L T2 W ρ H sv ((evA P (rt P n) κ ms j σ M).bind g) Q2 →
    wpAny (model X.prog X.w) X.A (spliced (backTo pos (starEach es X.env))) (fun us s' => ∃ vs H' ρ' M' a, Inv X pins sv H' s' ∧ Vals vs us ∧ Mono ρ H ρ' H' ∧ Sim L.toLay ρ' H' M' ∧ ArgA Z L P (XCall X H' s') n j ρ' H' a vs ∧ Go L T2 W ρ' H' sv (g a M') Q2) X.xe s
theorem sal_nil {j : Nat} : SAL Z L P n κ W X j .nil [] := ⟨fun T2 g Q2 pos pins s sv H ρ σ M I sm er k q =>
  Calls.spliced_nil ⟨[], H, ρ, M, ([], []), I, .nil, Mono.refl, sm, ⟨rfl, fun i d e => by simp at e, fun i c e => by cases e⟩, q⟩⟩
theorem evA_cons {P : Prg} {R : Rt} {m : ME} {ms : MEs} {j : Nat} {σ : Env} {M : Hm} (h : isLam m = false) : evA P R κ (.cons m ms) j σ M = (ev P R κ m σ M).bind fun d M => (evA P R κ ms (j + 1) σ M).bind fun a M => .ok (some d :: a.1, a.2) M := by
  cases m <;> first | rfl | cases h
theorem sal_cons {j : Nat} {m : ME} {ms : MEs} {e : Expr} {es : List Expr} (hm : isLam m = false) (h1 : SE Z L P n κ W X m e) (h2 : SAL Z L P n κ W X (j + 1) ms es) (hs : noStar (e :: es) = true) : SAL Z L P n κ W X j (.cons m ms) (e :: es) := by
  refine ⟨fun T2 g Q2 pos pins s sv H ρ σ M I sm er k q => ?_⟩
  rw [evA_cons hm, Res.bind_assoc] at q
  rw [star_cons hs]
  show wpAny _ _ (spliced ((false, eval e X.env) :: backTo pos (starEach es X.env))) _ _ s
  refine Calls.spliced_cons (thn (h1.run pins s sv H _ I (go_bind sm er k q)) fun u s1 ⟨x, H1, I1, rx, ρ1, M1, a, m1, sm1, er1, k1, ra, q1⟩ => ?_)
  have q1 : Go L T2 W ρ1 H1 sv (((evA P (rt P n) κ ms (j + 1) σ M1).bind fun b M => .ok (some a :: b.1, b.2) M).bind g) Q2 := q1
  rw [Res.bind_assoc] at q1
  refine wpAny_mono (h2.run T2 _ Q2 pos pins s1 sv H1 ρ1 σ M1 I1 sm1 er1 k1 q1) (fun us s2 ⟨vs, H2, ρ2, M2, b, I2, rv, m2, sm2, ab, q2⟩ => ?_) fun _ _ z => z
  refine ⟨x :: vs, H2, ρ2, M2, (some a :: b.1, b.2), I2, .cons rx rv, m1.trans m2, sm2, ⟨by simp [ab.1], fun i d e => ?_, fun i c e => ?_⟩, q2⟩
  · cases i with
    | zero => simp at e; subst e; exact ⟨x, rfl, m2.rep _ _ ra⟩
    | succ i =>
      obtain ⟨v, ev, r⟩ := ab.2.1 i d (by simpa using e)
      exact ⟨v, by simpa using ev, r⟩
  · obtain ⟨k, v, ek, ev, r⟩ := ab.2.2 i c e
    exact ⟨k + 1, v, by omega, by simpa using ev, r⟩
/-! ### a def runs -/
theorem go_wE {α β : Type} {T : List Addr → Hp → α → β → Prop} {ρ : List Addr} {H : Hp} {sv sv' : St} {r : Res α} {Q : β → Hp → Prop} (h : Go L T W ρ H sv r Q) : Go L T (wE fun c d H => W c d sv H) ρ H sv' r Q := by
  cases r with
  | ok a M => exact h
  | exc c x M => exact h
  | bad => exact h
theorem call_eq {ρ : List Addr} {H : Hp} {sv : St} {g : Nat} {os : List (Option D)} {κ' : List (Nat × CloD)} {M : Hm} {Q : VK} {T : List Addr → Hp → D → V → Prop} (h : Go L T W ρ H sv ((rt P n).call g os κ' M) Q) :
    ∃ f, P.fns[g]? = some f ∧ os.length ≤ f.np ∧ f.np ≤ os.length + f.defs.length ∧ Go L T W ρ H sv (callM P n f (os ++ (f.defs.drop (os.length + f.defs.length - f.np)).map some) κ' M) Q := by
  cases n with
  | zero => exact False.elim h
  | succ k =>
    have h : Go L T W ρ H sv (bodyRun P (rt P k) g os κ' M) Q := h
    unfold bodyRun at h
    cases e : P.fns[g]? with
    | none => rw [e] at h; exact False.elim h
    | some f =>
      rw [e] at h
      simp only at h
      by_cases c : os.length ≤ f.np ∧ f.np ≤ os.length + f.defs.length
      · rw [if_pos c] at h
        exact ⟨f, rfl, c.1, c.2, h⟩
      · rw [if_neg c] at h
        exact False.elim h
theorem vals_len {vs : List V} {us : List Value} (r : Vals vs us) : vs.length = us.length := r.length
/-- what a callee gets -/
theorem run_at {k : Nat} (hkn : k ≤ n) {pins : List (Addr × Obj)} {sv : St} {H : Hp} {s : Shared} {Q : VK} {us : List Value} {vs : List V} {g : Nat} {os : List (Option D)} {κ' : List (Nat × CloD)} {ρ : List Addr} {M : Hm} {A : Around} (O : XOk Z L P G n X W) (hr : Room k A) (e0 : Env0 X.prog X.w X.K X.mg X.base A X.stack s H)
    (I : Inv X pins sv H s) (r : Vals vs us) (sm : Sim L.toLay ρ H M) (ar : ArgR Z L P (XCall X H s) k κ' ρ H os vs) (q : Go L (TD L) W ρ H sv ((rt P k).call g os κ' M) Q) :
    codeAny (model X.prog X.w) A (.call (.ref (L.fa g)) ⟨us, []⟩) (CR (CX X.prog X.w) X.stack X.prog X.w H s Q fun c d H' => W c d sv H') s := by
  obtain ⟨f, ef, l1, l2, q⟩ := call_eq q
  obtain ⟨fd, ps, ⟨hp, hkeep, hb⟩, F⟩ := O.wok.fns g f ef k hkn
  have hl : us.length = os.length := by rw [← vals_len r, ar.1]
  unfold Runs at F
  rw [← O.prog, ← O.w, ← O.mg, ← O.base, ← O.K] at F
  rw [← O.K] at hb
  obtain ⟨ds, dvs, b1, b2, b3⟩ := hb s us I.kIn (by omega) (by omega)
  have r2 : Vals (vs ++ dvs) (us ++ ds) := r.append b2
  refine F A X.stack s H ⟨us, []⟩ (us ++ ds) (vs ++ dvs) Q _ ρ M (os ++ (f.defs.drop (os.length + f.defs.length - f.np)).map some) κ' sv hr e0 b1 r2 sm ?_ ?_ (go_wE q)
  · rw [List.length_append, List.length_map, List.length_drop]; omega
  · refine ar.append ?_
    have := b3 ρ H
    rw [hl] at this
    exact this
theorem run_own {pins : List (Addr × Obj)} {sv : St} {H : Hp} {s : Shared} {Q : VK} {us : List Value} {vs : List V} {g : Nat} {os : List (Option D)} {κ' : List (Nat × CloD)} {ρ : List Addr} {M : Hm} (O : XOk Z L P G n X W)
    (I : Inv X pins sv H s) (r : Vals vs us) (sm : Sim L.toLay ρ H M) (ar : ArgR Z L P (XCall X H s) n κ' ρ H os vs) (q : Go L (TD L) W ρ H sv ((rt P n).call g os κ' M) Q) : wpAny (model X.prog X.w) X.A (call (.ref (L.fa g)) us) (EP X pins sv Q) X.xe s := by
  refine wpAny_call (codeAny_mono (run_at (Nat.le_refl n) O O.room I.env0 I r sm ar q) fun r s' hq => ?_)
  cases r with
  | error e => exact O.call I hq
  | ok fl =>
    cases fl with
    | ret u => exact I.after hq
    | next => exact False.elim hq
    | brk => exact False.elim hq
    | cont => exact False.elim hq
theorem go_fn {ρ : List Addr} {H : Hp} {sv : St} {g : Nat} {os : List (Option D)} {κ' : List (Nat × CloD)} {M : Hm} {Q : VK} (O : XOk Z L P G n X W) (h : Go L (TD L) W ρ H sv ((rt P n).call g os κ' M) Q) : PySem.W.keepIn X.K (.ref (L.fa g)) = true := by
  obtain ⟨f, ef, _⟩ := call_eq h
  obtain ⟨fd, ps, ⟨hp, hkeep, hb⟩, F⟩ := O.wok.fns g f ef n (Nat.le_refl n)
  rw [O.K]; exact hkeep
theorem go_res {α : Type} {ρ : List Addr} {H : Hp} {sv : St} {T : List Addr → Hp → D → V → Prop} {r : Res α} {f : α → Hm → Res D} {Q : VK} (h : Go L T W ρ H sv (r.bind f) Q) : r ≠ .bad := fun z => by rw [z] at h; exact h
theorem argA0 {b j : Nat} {ρ : List Addr} {H : Hp} : ArgR Z L P η b [] ρ H [] [] := ⟨rfl, fun i d e => by simp at e, fun i c e => by cases e⟩
theorem se_call0 {x : Str} {g : Nat} {p pos : Pos} (O : XOk Z L P G n X W) (hg : Gl X x) (hm : G.fnm.lookup x = some g) (hdb : (x == ("__debug__" : Str)) = false) (hk : PySem.W.keepIn L.K (.ref (L.fa g)) = true) :
    SE Z L P n κ W X (.call g .nil) (.Call (.Name x p) [] [] pos) := by
  have hm' : X.mg x = some (.ref (L.fa g)) := by rw [O.mg]; exact O.wok.fnm _ _ hm
  refine ⟨fun pins s sv H Q I h => ?_⟩
  refine wpAny_Call_Name_kw (ld_glob I hg hm' ?_ hdb)
  obtain ⟨ρ, σ, M, sm, er, k, q⟩ := h
  exact PySem.W.callWith_K0 I.kIn (by rw [O.K]; exact hk) (run_own (us := []) (vs := []) O I .nil sm (argA0 (j := 0)) q)
theorem se_call {x : Str} {g : Nat} {ms : MEs} {e : Expr} {es : List Expr} {p pos : Pos} (O : XOk Z L P G n X W) (hg : Gl X x) (hm : G.fnm.lookup x = some g) (hdb : (x == ("__debug__" : Str)) = false) (ha : SAL Z L P n κ W X 0 ms (e :: es)) (hs : noStar (e :: es) = true) (hk : PySem.W.keepIn L.K (.ref (L.fa g)) = true) :
    SE Z L P n κ W X (.call g ms) (.Call (.Name x p) (e :: es) [] pos) := by
  have hm' : X.mg x = some (.ref (L.fa g)) := by rw [O.mg]; exact O.wok.fnm _ _ hm
  refine ⟨fun pins s sv H Q I h => ?_⟩
  refine wpAny_Call_Name_kw (ld_glob I hg hm' ?_ hdb)
  obtain ⟨ρ, σ, M, sm, er, k, q⟩ := h
  have q : Go L (TD L) W ρ H sv ((evA P (rt P n) κ ms 0 σ M).bind fun a M => (rt P n).call g a.1 a.2 M) Q := q
  have hA := ha.run (TD L) _ Q pos pins s sv H ρ σ M I sm er k q
  refine PySem.W.callWith_K (h₀ := X.base) I.ok.mod.kin (by rw [O.K]; exact hk) (wpAny_mono hA (fun us s1 ⟨vs, H1, ρ1, M1, a, I1, r, m1, s1, ra, q1⟩ => ⟨I1.kIn, ?_⟩) fun _ _ z => z) (star_cons hs) (star_plain (noStar_tail hs))
  exact run_own O I1 r s1 ra.argR q1
/-! ### methods -/
theorem se_meth {m : Str} {o : ME} {oe : Expr} {ms : MEs} {es : List Expr} {apos pos : Pos} (O : XOk Z L P G n X W) (ho : SE Z L P n κ W X o oe) (ha : SA Z L P n κ W X ms es) (h0 : es = [] → ms = .nil)
    (h1 : noSup oe = true) (h2 : noStar es = true) (h3 : (apos.endLine == pos.line) = true) (h4 : es.length < 30) : SE Z L P n κ W X (.meth m o ms) (.Call (.Attribute oe m apos) es [] pos) := by
  refine ⟨fun pins s sv H Q I h => ?_⟩
  obtain ⟨ρ, σ, M, sm, er, k, q⟩ := h
  refine PySem.W.methodCall_KW (thn (ho.run pins s sv H _ I (go_bind sm er k q)) fun u s1 ⟨x, H1, I1, rx, ρ1, M1, a, m1, s1, e1, k1, ra, q1⟩ => ?_) (meth_tree h1 h2 h3 h4)
  cases a <;> first | exact False.elim q1 | skip
  rename_i i
  cases eo : M1[i]? with
  | none => simp only [eo] at q1; exact False.elim q1
  | some o =>
    cases o with
    | ins C fs =>
      simp only [eo] at q1
      obtain ⟨a, rfl, hr, dx, fv, hi, rf⟩ := s1.at ra eo
      obtain rfl : u = Value.ref a := rx
      cases ec : P.clss[C]? with
      | none => simp only [ec, Option.bind_none] at q1; exact False.elim q1
      | some kl =>
        simp only [ec, Option.bind_some] at q1
        cases em : kl.meths.lookup m with
        | none => simp only [em] at q1; exact False.elim q1
        | some g =>
          cases ef : fs.lookup m with
          | some _ => simp only [em, ef] at q1; exact False.elim q1
          | none =>
            simp only [em, ef] at q1
            obtain ⟨c1, c2, c3⟩ := O.wok.cls _ _ ec
            have hm : Meth X.K (L.ca C) m (L.fa g) := by rw [O.K]; exact c3 _ _ em
            have q1 : Go L (TD L) W ρ1 H1 sv ((evs P (rt P n) κ ms σ M1).bind fun ds M => (rt P n).call g (some (.ref i) :: ds.map some) [] M) Q := q1
            refine getmeth_ok I1 hi (by rw [O.K]; exact c1) hm ((repF_lookup rf).2 ef) ?_
            cases es with
            | nil =>
              rw [h0 rfl] at q1
              exact PySem.W.callWith_K0 (first := [.ref a]) I1.kIn hm.kp (run_own (us := [.ref a]) (vs := [.ref a]) O I1 (.cons rfl .nil) s1 (ArgR.self (ds := []) ra rfl) q1)
            | cons e es =>
              refine PySem.W.callWith_K (first := [.ref a]) (h₀ := X.base) I.ok.mod.kin hm.kp (thn (ha.run pos pins _ sv H1 _ I1 (go_bind s1 e1 k1 q1)) fun us s2 ⟨vs, H2, I2, r, ρ2, M2, ds, m2, s2', e2, k2, rds, q2⟩ => ⟨I2.kIn, ?_⟩) (star_cons h2) (star_plain (noStar_tail h2))
              exact run_own (us := .ref a :: us) (vs := .ref a :: vs) O I2 (.cons rfl r) s2' (ArgR.self (m2.rep _ _ ra) rds) q2
    | _ => simp only [eo] at q1; exact False.elim q1
/-! ### new instances -/
theorem run_new {pins : List (Addr × Obj)} {sv : St} {H : Hp} {s : Shared} {Q : VK} {us : List Value} {vs : List V} {C : Nat} {ds : List D} {ρ : List Addr} {M : Hm} (O : XOk Z L P G n X W)
    (hC : ∀ k g, P.clss[C]? = some k → k.init = some g → Mk L.K (L.ca C) (L.fa g)) (I : Inv X pins sv H s) (r : Vals vs us) (sm : Sim L.toLay ρ H M) (ar : RepL L.toLay ρ H ds vs) (q : Go L (TD L) W ρ H sv ((rt P n).make C ds M) Q) :
    wpAny (model X.prog X.w) X.A (call (.ref (L.ca C)) us) (EP X pins sv Q) X.xe s := by
  cases n with
  | zero => exact False.elim q
  | succ k =>
    have q : Go L (TD L) W ρ H sv (match P.clss[C]?.bind (·.init) with
        | some g => ((rt P k).call g (some (.ref M.length) :: ds.map some) [] (M ++ [.ins C []])).bind fun v M' => match v with | .non => .ok (.ref M.length) M' | _ => .bad
        | none => .bad) Q := q
    cases ec : P.clss[C]? with
    | none => rw [ec] at q; exact False.elim q
    | some kl =>
      rw [ec] at q
      simp only [Option.bind_some] at q
      cases ei : kl.init with
      | none => rw [ei] at q; exact False.elim q
      | some g =>
        rw [ei] at q
        simp only at q
        have MK := hC kl g ec ei
        rw [← O.K] at MK
        have n1 : H (s.heap.objs.size + 1) = none := I.hok.fresh (Nat.le_succ _)
        have n2 : H s.heap.objs.size = none := I.hok.fresh (Nat.le_refl _)
        have ne : s.heap.objs.size ≠ s.heap.objs.size + 1 := Nat.ne_of_lt (Nat.lt_succ_self _)
        have I2 := Inv.made (C := L.ca C) I
        have sm1 : Sim L.toLay ρ (upd H s.heap.objs.size (.own (s.heap.objs.size + 1))) M := sm.upd n2
        have n3 : (upd H s.heap.objs.size (.own (s.heap.objs.size + 1))) (s.heap.objs.size + 1) = none := by rw [upd_ne (Ne.symm ne)]; exact n1
        have m1 : Mono ρ H ρ (upd H s.heap.objs.size (.own (s.heap.objs.size + 1))) := upd_keep n2
        have m2 : Mono ρ (upd H s.heap.objs.size (.own (s.heap.objs.size + 1))) (ρ ++ [s.heap.objs.size + 1]) (upd (upd H s.heap.objs.size (.own (s.heap.objs.size + 1))) (s.heap.objs.size + 1) (.ins (L.ca C) s.heap.objs.size [])) := mono_join n3
        have sm2 : Sim L.toLay (ρ ++ [s.heap.objs.size + 1]) (upd (upd H s.heap.objs.size (.own (s.heap.objs.size + 1))) (s.heap.objs.size + 1) (.ins (L.ca C) s.heap.objs.size [])) (M ++ [.ins C []]) :=
          sm1.join n3 m2 ⟨_, [], upd_same, rfl⟩
        have hself : Rep L.toLay (ρ ++ [s.heap.objs.size + 1]) (upd (upd H s.heap.objs.size (.own (s.heap.objs.size + 1))) (s.heap.objs.size + 1) (.ins (L.ca C) s.heap.objs.size [])) (.ref M.length) (.ref (s.heap.objs.size + 1)) := by
          refine ⟨_, rfl, ?_⟩
          rw [← sm.len, List.getElem?_append_right (Nat.le_refl _)]
          simp
        have q2 : Go L (TD L) W (ρ ++ [s.heap.objs.size + 1]) (upd (upd H s.heap.objs.size (.own (s.heap.objs.size + 1))) (s.heap.objs.size + 1) (.ins (L.ca C) s.heap.objs.size [])) sv
            ((rt P k).call g (some (.ref M.length) :: ds.map some) [] (M ++ [.ins C []])) (fun v H2 => v = .non ∧ Q (.ref (s.heap.objs.size + 1)) H2) := by
          have q := Go.mono q (m1.trans m2)
          cases z : (rt P k).call g (some (.ref M.length) :: ds.map some) [] (M ++ [.ins C []]) with
          | ok a M' =>
            rw [z] at q
            rw [Res.bind_ok] at q
            cases a <;> first | exact False.elim q | skip
            exact fun ρ' H' b mm ss rr => ⟨rr, q ρ' H' (.ref (s.heap.objs.size + 1)) mm ss (mm.rep _ _ hself)⟩
          | exc c x M' => rw [z] at q; exact q
          | bad => rw [z] at q; exact q
        have run := run_at (k := k) (us := .ref (s.heap.objs.size + 1) :: us) (vs := .ref (s.heap.objs.size + 1) :: vs) (A := X.A.under (.builtin "type.__call__" ⟨.ref (L.ca C) :: us, []⟩)) (Nat.le_succ k) O (O.room.make (L.ca C) us []) (I2.env0.make (L.ca C) us []) I2
          (.cons rfl r) sm2 (ArgR.self hself ((m1.trans m2).repL _ _ ar)) q2
        refine wpAny_call (make_map (f := L.fa g) I.kIn MK.makes MK.init (beq_iff_eq.mp MK.fn) (codeAny_mono run fun r s' hq' => ?_))
        cases r with
        | error e => exact O.call I2 hq'
        | ok fl =>
          cases fl with
          | ret u =>
            obtain ⟨v, H', I3, rv, ev, q3⟩ := I2.after hq'
            subst ev
            exact ⟨rv, ⟨V.ref (s.heap.objs.size + 1), H', I3, rfl, q3⟩⟩
          | next => exact False.elim hq'
          | brk => exact False.elim hq'
          | cont => exact False.elim hq'
theorem se_make {x : Str} {C : Nat} {ms : MEs} {es : List Expr} {p pos : Pos} (O : XOk Z L P G n X W) (hg : Gl X x) (hm : G.cnm.lookup x = some C) (hdb : (x == ("__debug__" : Str)) = false) (ha : SA Z L P n κ W X ms es) (h0 : es = [] → ms = .nil) (hs : noStar es = true) :
    SE Z L P n κ W X (.make C ms) (.Call (.Name x p) es [] pos) := by
  obtain ⟨hmg, kl, g, ec, ei, MK⟩ := O.wok.cnm _ _ hm
  have hm' : X.mg x = some (.ref (L.ca C)) := by rw [O.mg]; exact hmg
  have hC : ∀ k g, P.clss[C]? = some k → k.init = some g → Mk L.K (L.ca C) (L.fa g) := fun k g' e1 e2 => by
    rw [ec] at e1; cases e1
    rw [ei] at e2; cases e2
    exact MK
  have hk : PySem.W.keepIn X.K (.ref (L.ca C)) = true := by rw [O.K]; exact MK.kp
  refine ⟨fun pins s sv H Q I h => ?_⟩
  refine wpAny_Call_Name_kw (ld_glob I hg hm' ?_ hdb)
  obtain ⟨ρ, σ, M, sm, er, k, q⟩ := h
  have q : Go L (TD L) W ρ H sv ((evs P (rt P n) κ ms σ M).bind fun ds M => (rt P n).make C ds M) Q := q
  cases es with
  | nil =>
    rw [h0 rfl] at q
    exact PySem.W.callWith_K0 I.kIn hk (run_new (us := []) (vs := []) (ds := []) O hC I .nil sm rfl q)
  | cons e es =>
    refine PySem.W.callWith_K (h₀ := X.base) I.ok.mod.kin hk (thn (ha.run pos pins s sv H _ I (go_bind sm er k q)) fun us s1 ⟨vs, H1, I1, r, ρ1, M1, ds, m1, s1, e1, k1, ra, q1⟩ => ⟨I1.kIn, ?_⟩) (star_cons hs) (star_plain (noStar_tail hs))
    exact run_new O hC I1 r s1 ra q1
end
end Mi

end
section
/-! M10: calls of what a name holds; lambdas. -/
namespace Mi
open PySem L2
section
variable {Z : Wo} {L : XLay} {P : Prg} {G : GTab} {n : Nat} {κ : List (Nat × CloD)} {W : WX} {X : Cx} {η : Ent}
theorem slot_some {σ : Env} {i : Nat} {d : D} (q : slot σ i = some d) : σ[i]? = some (some d) := by
  unfold slot at q
  cases z : σ[i]? with
  | none => rw [z] at q; cases q
  | some o => rw [z] at q; cases o with
    | none => cases q
    | some d' => cases q; rfl
/-- a closure runs -/
theorem run_clo {pins : List (Addr × Obj)} {sv : St} {H : Hp} {s : Shared} {Q : VK} {us : List Value} {vs : List V} {ds : List D} {ρ : List Addr} {M : Hm} {f : Addr} {c : CloD} {Φ : List Addr → Hp → Prop} (O : XOk Z L P G n X W)
    (run : ∀ m, m ≤ n → ∀ (A : Around) (outer : List PySem.Env) (s : Shared) (H : Hp) (us : List Value) (vs : List V) (ds : List D) (ρ : List Addr) (M : Hm) (Q : VK) (E : XK) (sv : St), Room m A → Env0 Z.prog Z.w L.K Z.mg Z.base A outer s H → Un Z.ent.fs [] Z.ent.H H Z.ent.h s.heap → Vals vs us →
      Φ ρ H → Sim L.toLay ρ H M → RepL L.toLay ρ H ds vs → Go L (TD L) (wE E) ρ H sv ((rt P m).clo c ds M) Q →
      codeAny (model Z.prog Z.w) A (.call (.ref f) ⟨us, []⟩) (CR (CX Z.prog Z.w) outer Z.prog Z.w H s Q E) s)
    (I : Inv X pins sv H s) (r : Vals vs us) (hΦ : Φ ρ H) (sm : Sim L.toLay ρ H M) (rd : RepL L.toLay ρ H ds vs) (q : Go L (TD L) W ρ H sv ((rt P n).clo c ds M) Q) : wpAny (model X.prog X.w) X.A (call (.ref f) us) (EP X pins sv Q) X.xe s := by
  have h := run n (Nat.le_refl n) X.A X.stack s H us vs ds ρ M Q (fun c d H' => W c d sv H') sv O.room (by rw [← O.prog, ← O.w, ← O.K, ← O.mg, ← O.base]; exact I.env0) (O.una pins sv H s I) r hΦ sm rd (go_wE q)
  rw [← O.prog, ← O.w] at h
  refine wpAny_call (codeAny_mono h fun r s' hq => ?_)
  cases r with
  | error e => exact O.call I hq
  | ok fl =>
    cases fl with
    | ret u => exact I.after hq
    | next => exact False.elim hq
    | brk => exact False.elim hq
    | cont => exact False.elim hq
theorem fn_keep (O : XOk Z L P G n X W) {g : Nat} (h : P.fns[g]?.isSome = true) : PySem.W.keepIn X.K (.ref (L.fa g)) = true := by
  obtain ⟨f, ef⟩ := Option.isSome_iff_exists.mp h
  obtain ⟨fd, ps, ⟨hp, hkeep, hb⟩, F⟩ := O.wok.fns g f ef n (Nat.le_refl n)
  rw [O.K]; exact hkeep
theorem se_callv {i : Nat} {x : Str} {ms : MEs} {es : List Expr} {p pos : Pos} (O : XOk Z L P G n X W) (hN : X.N[i]? = some x) (hv : Vis X.env.scope x) (hd : (x == ("__debug__" : Str)) = false) (hcd : (x == ("__classdict__" : Str)) = false)
    (ha : SA Z L P n κ W X ms es) (h0 : es = [] → ms = .nil) (hs : noStar es = true) : SE Z L P n κ W X (.callv i ms) (.Call (.Name x p) es [] pos) := by
  refine ⟨fun pins s sv H Q I h => ?_⟩
  obtain ⟨ρ, σ, M, sm, er, k, q⟩ := h
  have q : Go L (TD L) W ρ H sv (match κ.lookup i with
    | some c => (evs P (rt P n) κ ms σ M).bind fun ds M => (rt P n).clo c ds M
    | none => match slot σ i with
      | some (.fn g) => if P.fns[g]?.isSome then (evs P (rt P n) κ ms σ M).bind fun ds M => (rt P n).call g (ds.map some) [] M else .bad
      | _ => .bad) Q := q
  cases ek : κ.lookup i with
  | some c =>
    rw [ek] at q
    simp only at q
    obtain ⟨v, ev, f, Φ, rfl, hΦ, st, fa, run⟩ := k i c ek
    refine wpAny_Call_Name_kw (thn ((pe_var (pos := p) hN hv hd hcd).run pins s sv H (fun v' H1 => v' = .ref f ∧ H1 = H) I ⟨_, ev, rfl, rfl⟩) fun u s1 ⟨v', H1, I1, r1, q1⟩ => ?_)
    obtain ⟨e1, e2⟩ := q1
    subst e1
    rw [e2] at I1
    obtain rfl : u = Value.ref f := r1
    have hfa : ∀ {H1 s1 ρ1}, Inv X pins sv H1 s1 → Φ ρ1 H1 → PySem.W.FnAt f s1.heap := fun {H1 s1 ρ1} J h => fa ρ1 H1 _ (O.una _ _ _ _ J) h
    cases es with
    | nil =>
      rw [h0 rfl] at q
      refine PySem.W.callWith_F0 (first := []) (hfa I1 hΦ) ?_
      exact run_clo (us := []) (vs := []) (ds := []) O run I1 .nil hΦ sm rfl q
    | cons e es =>
      refine PySem.W.callWith_F (first := []) (hfa I1 hΦ) (thn (ha.run pos pins s1 sv H _ I1 (go_bind sm er k q)) fun us s2 ⟨vs, H2, I2, r, ρ2, M2, ds, m2, sm2, e2, k2, rds, q2⟩ => ⟨hfa I2 (st _ _ _ _ m2 hΦ), ?_⟩) (star_cons hs) (star_plain (noStar_tail hs))
      exact run_clo (us := us) O run I2 r (st _ _ _ _ m2 hΦ) sm2 rds q2
  | none =>
    rw [ek] at q
    simp only at q
    cases es' : slot σ i with
    | none => rw [es'] at q; exact False.elim q
    | some d =>
      rw [es'] at q
      cases d <;> first | exact False.elim q | skip
      rename_i g
      obtain ⟨c, q⟩ := go_if q
      obtain ⟨v, ev, rv⟩ := er.2 i _ (slot_some es')
      have rv : v = .ref (L.fa g) := rv
      subst rv
      refine wpAny_Call_Name_kw (thn ((pe_var (pos := p) hN hv hd hcd).run pins s sv H (fun v' H1 => v' = .ref (L.fa g) ∧ H1 = H) I ⟨_, ev, rfl, rfl⟩) fun u s1 ⟨v', H1, I1, r1, q1⟩ => ?_)
      obtain ⟨e1, e2⟩ := q1
      subst e1
      rw [e2] at I1
      obtain rfl : u = Value.ref (L.fa g) := r1
      cases es with
      | nil =>
        rw [h0 rfl] at q
        exact PySem.W.callWith_K0 I1.kIn (fn_keep O c) (run_own (us := []) (vs := []) O I1 .nil sm (argA0 (j := 0)) q)
      | cons e es =>
        refine PySem.W.callWith_K (h₀ := X.base) I1.ok.mod.kin (fn_keep O c) (thn (ha.run pos pins s1 sv H _ I1 (go_bind sm er k q)) fun us s2 ⟨vs, H2, I2, r, ρ2, M2, ds, m2, sm2, e2, k2, rds, q2⟩ => ⟨I2.kIn, ?_⟩) (star_cons hs) (star_plain (noStar_tail hs))
        exact run_own O I2 r sm2 (ArgR.of_repL rds) q2
/-! ### contexts of bodies -/
abbrev Wo.at (Z : Wo) (η : Ent) : Wo := { Z with ent := η }
theorem WOk.to {k : Nat} (h : WOk Z L P G n) (hk : k ≤ n) : WOk (Z.at η) L P G k :=
  ⟨h.blt, h.fnm, h.csts, fun g f e m hm => h.fns g f e m (Nat.le_trans hm hk), h.cls, h.xnm, h.exf, h.exm, h.xf, h.lps, h.fkp, h.cnm⟩
theorem ncx_ok {k : Nat} {N : List Str} {F : NdefX.NF} {f : Addr} {A : Around} {outer : List PySem.Env} {s : Shared} {H : Hp} {E : XK} (h : WOk Z L P G n) (hk : k ≤ n) (hN : N.Nodup) (hr : Room k (A.deeper (NdefX.envF F f s.heap.objs.size))) :
    XOk (Z.at ⟨frs outer, H, s.heap⟩) L P G k (NdefX.ncx (CX Z.prog Z.w) Z.prog Z.w L.K Z.mg Z.base N F f A outer s H E) (wE E) := by
  refine ⟨rfl, rfl, rfl, rfl, rfl, rfl, hN, ?_, ⟨_, _, _, rfl, rfl, rfl⟩, hr, fun pins sv H' s' I => I.base, h.to hk⟩
  refine TakesA.of ?_ rfl
  · exact takes_of (X := NdefX.ncx (CX Z.prog Z.w) Z.prog Z.w L.K Z.mg Z.base N F f A outer s H E) rfl rfl rfl rfl
theorem cx_ok {k : Nat} {N : List Str} {qual : Str} {scope : Scope} {f : Addr} {cd : Value} {A : Around} {outer : List PySem.Env} {s : Shared} {H : Hp} {E : XK} (h : WOk Z L P G n) (hk : k ≤ n) (hN : N.Nodup) (hr : Room k (A.deeper (PyProof.Rows.envOfC qual scope s.heap.objs.size f cd))) :
    XOk (Z.at ⟨frs outer, H, s.heap⟩) L P G k (cxOf (CX Z.prog Z.w) Z.prog Z.w L.K Z.mg Z.base N qual scope f cd A outer s H E) (wE E) := by
  refine ⟨rfl, rfl, rfl, rfl, rfl, rfl, hN, ?_, ⟨_, _, _, rfl, rfl, rfl⟩, hr, fun pins sv H' s' I => I.base, h.to hk⟩
  refine TakesA.of ?_ rfl
  · exact takes_of (X := cxOf (CX Z.prog Z.w) Z.prog Z.w L.K Z.mg Z.base N qual scope f cd A outer s H E) rfl rfl rfl rfl
/-! ### a lambda as a closure -/
theorem cells_later {cl : List (Str × Addr)} {fr : List Str} {ws : List (Option V)} {h h1 : Heap} {H H1 : Hp} {fs : List Addr} (C : NdefX.CellsAt cl fr ws h H) (nf : ∀ y c, cl.lookup y = some c → c ∉ fs) (un : Un fs [] H H1 h h1) : NdefX.CellsAt cl fr ws h1 H1 := by
  have kp : ∀ y c, cl.lookup y = some c → ∀ v, h.IsCell c v → h1.IsCell c v := fun y c e v ⟨o, ho, hd⟩ => ⟨o, un.keep c o ho (C.all y c e).1 (nf y c e) (by simp), hd⟩
  refine ⟨C.len, fun y c e => ?_, C.inj, fun i y e => ?_⟩
  · obtain ⟨hn, v, z⟩ := C.all y c e
    have z2 := kp y c e v z
    obtain ⟨o, ho, _⟩ := z
    exact ⟨un.free c o ho hn (by simp), v, z2⟩
  · obtain ⟨c, hc, hv⟩ := C.has i y e
    exact ⟨c, hc, fun v ev => by
      obtain ⟨u, r, z⟩ := hv v ev
      exact ⟨u, r, kp y c hc _ z⟩⟩
theorem startF_env {ρ : List Addr} {H : Hp} {N : List Str} {ds wd : List D} {vs wv : List V} (r : RepL L.toLay ρ H ds vs) (w : RepL L.toLay ρ H wd wv) : EnvR L.toLay ρ H (startE N.length (ds.map some ++ wd.map some)) (NdefX.startF N vs (wv.map some)) := by
  have l1 := r.len
  have l2 := w.len
  have ap := r.append w
  refine ⟨?_, fun i d e => ?_⟩
  · unfold startE NdefX.startF
    simp only [List.length_append, List.length_map, List.length_replicate]
    omega
  · unfold startE at e
    by_cases hi : i < ds.length + wd.length
    · rw [List.getElem?_append_left (by simpa using hi), ← List.map_append, List.getElem?_map] at e
      cases z : (ds ++ wd)[i]? with
      | none => rw [z] at e; cases e
      | some d' =>
        rw [z] at e; cases e
        obtain ⟨v, ev, rv⟩ := ap.at z
        refine ⟨v, ?_, rv⟩
        unfold NdefX.startF
        rw [← List.append_assoc, List.getElem?_append_left (by simp; omega), ← List.map_append, List.getElem?_map, ev]
        rfl
    · rw [List.getElem?_append_right (by simp; omega), List.getElem?_replicate] at e
      split at e <;> cases e
theorem clo_of {h : Heap} {H : Hp} {fs : List Addr} {ρ : List Addr} {f c' : Addr} {pm ctv : Value} {q : Str} {params : Arguments} {body : Expr} {scope : Scope} {cl : List (Str × Addr)} {N ps fr : List Str} {wd : List D} {wv : List V} {mb : ME} (wok : WOk Z L P G n)
    (hf : h.get? f = some (PySem.W.kla_obj "<lambda>" q params body scope cl pm c' ctv)) (hfn : H f = none) (hfs : f ∉ fs) (hco : H c' = some (LamX.CodeO c' q)) (hc : c' ∉ ρ) (S : NdefX.NScope N ps fr scope)
    (hbind : ∀ us : List Value, us.length = ps.length → bindArgs (PySem.W.kla_fn "<lambda>" q params body scope cl pm (.ref c') ctv) ⟨us, []⟩ = pure (ps.zip us)) (C : NdefX.CellsAt cl fr (wv.map some) h H) (hcf : ∀ y c, cl.lookup y = some c → c ∉ fs) (rw' : RepL L.toLay ρ H wd wv)
    (hbody : ∀ k, k < n → ∀ (F : NdefX.NF) (A : Around) (outer : List PySem.Env) (s : Shared) (H : Hp) (E : XK), F.scope = scope → XOk (Z.at ⟨frs outer, H, s.heap⟩) L P G k (NdefX.ncx (CX Z.prog Z.w) Z.prog Z.w L.K Z.mg Z.base N F f A outer s H E) (wE E) →
      SE (Z.at ⟨frs outer, H, s.heap⟩) L P k [] (wE E) (NdefX.ncx (CX Z.prog Z.w) Z.prog Z.w L.K Z.mg Z.base N F f A outer s H E) mb body) :
    CloV Z L P ⟨fs, H, h⟩ n ρ H (.ref f) ⟨ps.length, wd.map some, N.length, mb⟩ := by
  refine ⟨f, fun ρ1 H1 => c' ∉ ρ1 ∧ H1 c' = some (LamX.CodeO c' q) ∧ RepL L.toLay ρ1 H1 wd wv, rfl, ⟨hc, hco, rw'⟩, fun ρ1 H1 ρ2 H2 m ⟨a1, a2, a3⟩ => ⟨m.notin a2 LamX.codeO_ne a1, m.keep _ _ a2 a1 LamX.codeO_ne, m.repL _ _ a3⟩, fun ρ1 H1 h1 un _ => ?_, ?_⟩
  · exact ⟨_, _, _, _, un.keep f _ hf hfn hfs (by simp)⟩
  · intro m hm A outer s H1 us vs ds ρ1 M Q E sv hr e0 un r ⟨a1, a2, a3⟩ sm rd go
    cases m with
    | zero => exact False.elim go
    | succ k =>
      have go : Go L (TD L) (wE E) ρ1 H1 sv (if ds.length = ps.length then ev P (rt P k) [] mb (startE N.length (ds.map some ++ wd.map some)) M else .bad) Q := go
      by_cases hl : ds.length = ps.length
      · rw [if_pos hl] at go
        have hf1 := un.keep f _ hf hfn hfs (by simp)
        have lim : s.heap.NoLimit := e0.mod.nolimit.keeps fun b o e => (e0.bs b o e).1
        obtain ⟨⟨oc, vs0, t, hoc, hdc, hvc⟩, _, _⟩ := e0.hok c' _ a2
        have C1 := cells_later C hcf un
        have hlv : vs.length = ps.length := by rw [rd.len, hl]
        refine PySem.W.kla_callFunE hr.depth hf1 rfl S.co S.gen rfl ⟨c', oc, vs0, t, rfl, hoc, hdc, hvc⟩ ?_
        rw [hbind us (by rw [← r.length]; exact hlv)]
        refine wpAny_pure (wpAny_newFunctionEnv S.nocell (fun ⟨x, _⟩ hy => S.par x (List.of_mem_zip hy).1) (fun h₁ hns hsb => ⟨lim.fresh _ hsb, ?_⟩) S.kind)
        have kp : ∀ b o, s.heap.get? b = some o → h₁.get? b = some o := fun b o e => hsb.extBut b o (Nat.ne_of_lt (Heap.lt_size e)) (Heap.get?_push_of_some _ e)
        have J : Inv (NdefX.ncx (CX Z.prog Z.w) Z.prog Z.w L.K Z.mg Z.base N ⟨"<lambda>", q, params, [], scope, cl, c'⟩ f A outer s H1 E) [] (NdefX.startF N vs (wv.map some)) H1 { s with heap := h₁, toks := s.toks + (ps.zip us).length } :=
          NdefX.inv_startN (F := ⟨"<lambda>", q, params, [], scope, cl, c'⟩) S hr.hd e0 hlv r C1 hns kp
        have O' : XOk (Z.at ⟨frs outer, H1, s.heap⟩) L P G k (NdefX.ncx (CX Z.prog Z.w) Z.prog Z.w L.K Z.mg Z.base N ⟨"<lambda>", q, params, [], scope, cl, c'⟩ f A outer s H1 E) (wE E) :=
          ncx_ok wok (by omega) S.nd (hr.deeper _)
        have hb := hbody k (by omega) ⟨"<lambda>", q, params, [], scope, cl, c'⟩ A outer s H1 E rfl O'
        have hrun := hb.run [] _ _ H1 Q J ⟨ρ1, _, M, sm, startF_env rd a3, fun i c e => (nomatch e), go_wE (W := wE E) go⟩
        show codeAny _ _ (.expr body (NdefX.envF ⟨"<lambda>", q, params, [], scope, cl, c'⟩ f s.heap.objs.size)) _ _
        refine PySem.W.kla_codeExpr (wpAny_mono hrun (fun v s' hq => ?_) fun e s' hq => hq)
        obtain ⟨w', H', J', rv, q'⟩ := hq
        exact ⟨w', H', J'.os, J'.bare, J'.base, J'.hok, rv, q'⟩
      · rw [if_neg hl] at go
        exact False.elim go
end
end Mi

end
section
/-! M11: a lambda among the arguments. -/
namespace Mi
open PySem L2
section
variable {Z : Wo} {L : XLay} {P : Prg} {G : GTab} {n : Nat} {κ : List (Nat × CloD)} {W : WX} {X : Cx} {η : Ent}
/-- lambdas may be made here -/
def LamMk (L : XLay) (X : Cx) : Prop := ∃ c T, LamX.TabB X.base X.mg c T ∧ X.env.code = .ref c ∧ (T, X.env.qual ++ ("<lambda>" : Str)) ∈ L.T ∧ ∀ p ∈ L.T, p.1 = T → p.2 = X.env.qual ++ ("<lambda>" : Str)
theorem caps_at {ρ : List Addr} {H : Hp} {σ : Env} {sv : St} (er : EnvR L.toLay ρ H σ sv) : ∀ {caps : List Nat} {wd : List D}, caps.mapM (slot σ) = some wd → ∃ wv : List V, caps.map (NdefX.slotAt sv) = wv.map some ∧ RepL L.toLay ρ H wd wv
  | [], wd, h => by
    cases h
    exact ⟨[], rfl, rfl⟩
  | i :: is, wd, h => by
    rw [List.mapM_cons] at h
    cases e1 : slot σ i with
    | none => rw [e1] at h; cases h
    | some d =>
      cases e2 : is.mapM (slot σ) with
      | none => rw [e1, e2] at h; cases h
      | some ds =>
        rw [e1, e2] at h
        cases h
        obtain ⟨v, ev, rv⟩ := er.2 i d (slot_some e1)
        obtain ⟨wv, e3, r3⟩ := caps_at er e2
        exact ⟨v :: wv, by rw [List.map_cons, e3, NdefX.slotAt_of ev]; rfl, v, wv, rfl, rv, r3⟩
theorem sim_ext {ρ : List Addr} {H H1 : Hp} {M : Hm} (sm : Sim L.toLay ρ H M) (e : LamX.ExtN H H1) (t : LamX.Tabs L.T H1) : Sim L.toLay ρ H1 M ∧ Mono ρ H ρ H1 := by
  have m : Mono ρ H ρ H1 := ⟨⟨[], by simp, by simp⟩, fun a o h _ n => e a o h n, fun a o h n => ⟨o, e a o h n, n⟩⟩
  refine ⟨⟨sm.len, sm.nd, fun k o a h1 h2 => ?_, fun p hp => ⟨(sm.tab p hp).1, t p hp⟩⟩, m⟩
  obtain ⟨u, h3, h4, _⟩ := sm.lt (List.mem_of_getElem? h2)
  exact m.orep (sm.obj k o a h1 h2) ((e a u h3 h4).trans h3.symm)
theorem sal_lam {j : Nat} {nps : Nat} {caps : List Nat} {N ps fr : List Str} {mb : ME} {ms : MEs} {params : Arguments} {body : Expr} {scope : Scope} {lpos : Pos} {es : List Expr} (O : XOk Z L P G n X W) (mk : LamMk L X)
    (hdef : defaultsOf params X.env = ([], [])) (S : NdefX.NScope N ps fr scope) (hps : ps.length = nps)
    (hfree : ∀ y ∈ scope.names, y.2 = .free → X.env.scope.names.lookup y.1 = some .cell ∨ X.env.scope.names.lookup y.1 = some .free) (hfrm : ∀ y ∈ fr, (y, NameKind.free) ∈ scope.names) (hdf : ∀ y ∈ scope.names, y.2 = .free → X.fn y.1 = true) (hcap : caps.map (fun i => X.N[i]?) = fr.map some)
    (hbind : ∀ (q : Str) (cl : List (Str × Addr)) (pm cv ctv : Value) (us : List Value), us.length = ps.length → bindArgs (PySem.W.kla_fn "<lambda>" q params body scope cl pm cv ctv) ⟨us, []⟩ = pure (ps.zip us))
    (hbody : ∀ k, k < n → ∀ (F : NdefX.NF) (f : Addr) (A : Around) (outer : List PySem.Env) (s : Shared) (H : Hp) (E : XK), F.scope = scope → XOk (Z.at ⟨frs outer, H, s.heap⟩) L P G k (NdefX.ncx (CX Z.prog Z.w) Z.prog Z.w L.K Z.mg Z.base N F f A outer s H E) (wE E) →
      SE (Z.at ⟨frs outer, H, s.heap⟩) L P k [] (wE E) (NdefX.ncx (CX Z.prog Z.w) Z.prog Z.w L.K Z.mg Z.base N F f A outer s H E) mb body)
    (h2 : SAL Z L P n κ W X (j + 1) ms es) : SAL Z L P n κ W X j (.cons (.lam nps caps N mb) ms) (.Lambda params body scope lpos :: es) := by
  refine ⟨fun T2 g Q2 pos pins s sv H ρ σ M I sm er k q => ?_⟩
  obtain ⟨c, T, TB, hcode, hm, hu⟩ := mk
  have q : Go L T2 W ρ H sv ((match caps.mapM (slot σ) with
    | some ws => (evA P (rt P n) κ ms (j + 1) σ M).bind fun a M => .ok ((none : Option D) :: a.1, (j, CloD.mk nps (ws.map some) N.length mb) :: a.2) M
    | none => .bad).bind g) Q2 := q
  cases ec : caps.mapM (slot σ) with
  | none => rw [ec] at q; exact False.elim q
  | some wd =>
    rw [ec] at q
    simp only [Res.bind_assoc] at q
    have hT : LamX.Tabs L.T H := fun p hp => (sm.tab p hp).2
    have hfree' : ∀ y ∈ scope.names, y.2 = .free → ∃ c, X.env.cells.lookup y.1 = some c := fun y hy e => (hfree y hy e).elim (fun z => I.ok.has _ (.inl z)) fun z => I.ok.has _ (.inr z)
    show wpAny _ _ (spliced ((false, eval (.Lambda params body scope lpos) X.env) :: backTo pos (starEach es X.env))) _ _ s
    refine Calls.spliced_cons (LamX.lam_make2 I TB hcode hm hu hT hdef hfree' fun f c' pm ctv H1 s1 I1 eN T1 hf hfn hfr hco => ?_)
    obtain ⟨sm1, m1⟩ := sim_ext sm eN T1
    have pin1 : s1.heap.get? f = some (PySem.W.kla_obj "<lambda>" (X.env.qual ++ ("<lambda>" : Str)) params body scope (cloFrom X.env.cells scope.names []) pm c' ctv) ∧ H1 f = none ∧ f ≠ X.env.locals ∧ f ∉ X.fs ∧ ∀ v, (PySem.W.kla_obj "<lambda>" (X.env.qual ++ ("<lambda>" : Str)) params body scope (cloFrom X.env.cells scope.names []) pm c' ctv).data ≠ .cell v := by
      refine ⟨hf, hfn, fun z => ?_, fun z => hfr ?_, fun v z => by cases z⟩
      · obtain ⟨m, ⟨o', es', ep, ho', hd', _⟩, _⟩ := I1.loc
        rw [← z, hf] at ho'
        cases ho'
        cases hd'
      · rcases I1.ok.stk with e | ⟨e, hfm⟩
        · rw [e]; exact z
        · rw [e]
          unfold frs
          rw [List.filterMap_cons, hfm]
          exact List.mem_cons_of_mem _ z
    have I1' : Inv X (pins ++ [(f, PySem.W.kla_obj "<lambda>" (X.env.qual ++ ("<lambda>" : Str)) params body scope (cloFrom X.env.cells scope.names []) pm c' ctv)]) sv H1 s1 := I1.pins_of fun p hp => by
      rcases List.mem_append.mp hp with hp | hp
      · exact I1.pin p (List.mem_append_right _ hp)
      · rw [List.mem_singleton] at hp
        subst hp
        exact pin1
    refine wpAny_mono (h2.run T2 _ Q2 pos _ s1 sv H1 ρ σ M I1' sm1 (m1.env er) (k.mono m1) (Go.mono q m1)) (fun us s2 ⟨vs, H2, ρ2, M2, b, I2, rv, m2, sm2, ab, q2⟩ => ?_) fun _ _ z => z
    have pin2 := I2.pin (f, PySem.W.kla_obj "<lambda>" (X.env.qual ++ ("<lambda>" : Str)) params body scope (cloFrom X.env.cells scope.names []) pm c' ctv) (by simp)
    have er2 := (m1.trans m2).env er
    obtain ⟨wv, ewv, rwv⟩ := caps_at er2 ec
    have C : NdefX.CellsAt (cloFrom X.env.cells scope.names []) fr (wv.map some) s2.heap H2 := by
      have := NdefX.cells_of I2 (NdefX.Caps.made (X := X) (fr := fr) (js := caps) I2.ok hfree hfrm hcap)
      rw [ewv] at this
      exact this
    have hc' : c' ∉ ρ := sm1.notext hco
    have hcf : ∀ y c, (cloFrom X.env.cells scope.names []).lookup y = some c → c ∉ frs X.stack := fun y c e z => by
      have e1 := NdefX.clo_cm hfree' e
      obtain ⟨v, o, ho, hd⟩ := I2.cell y c e1
      rcases List.mem_cons.mp (I2.stkSub c z) with e2 | e2
      · exact I2.cne y c e1 e2
      · rcases cloFrom_mem (PySem.mem_of_lookup e) with hm | ⟨h1, _⟩
        · cases hm
        · have ge := I2.ok.cab y c (hdf _ h1 rfl) e1
          obtain ⟨_, o', e', _⟩ := I2.ok.funs.mem e2
          exact absurd (Nat.lt_of_lt_of_le (Heap.lt_size e') ge) (Nat.lt_irrefl _)
    have clo : CloV Z L P (XCall X H2 s2) n ρ2 H2 (.ref f) ⟨ps.length, wd.map some, N.length, mb⟩ :=
      clo_of O.wok pin2.1 pin2.2.1 hfr (m2.keep _ _ hco hc' LamX.codeO_ne) (m2.notin hco LamX.codeO_ne hc') S (fun us hl => hbind _ _ _ _ _ us hl) C hcf rwv (fun k hk F A outer s H E e O' => hbody k hk F f A outer s H E e O')
    rw [hps] at clo
    refine ⟨.ref f :: vs, H2, ρ2, M2, (none :: b.1, (j, ⟨nps, wd.map some, N.length, mb⟩) :: b.2), I2.pins_of fun p hp => I2.pin p (by simp [hp]), .cons rfl rv, m1.trans m2, sm2, ⟨by simp [ab.1], fun i d e => ?_, fun i cc e => ?_⟩, q2⟩
    · cases i with
      | zero => simp at e
      | succ i =>
        obtain ⟨v, ev, r⟩ := ab.2.1 i d (by simpa using e)
        exact ⟨v, by simpa using ev, r⟩
    · by_cases hij : i = j
      · subst hij
        rw [List.lookup_cons, beq_self_eq_true] at e
        cases e
        exact ⟨0, .ref f, rfl, rfl, clo⟩
      · have : (i == j) = false := by simpa using hij
        rw [List.lookup_cons, this] at e
        obtain ⟨k, v, ek, ev, r⟩ := ab.2.2 i cc e
        exact ⟨k + 1, v, by omega, by simpa using ev, r⟩
end
end Mi

end
section
/-! M12: list comprehensions that exceptions may leave. -/
namespace Mi
open PySem L2
/-! ### the block's end -/
section
variable {M : Model} {A : Around} {E : Value → Shared → Prop} {s : Shared} {env : PySem.Env}
/-- what is asked of the block's end, the block's own environment told -/
def CompP (M : Model) (A : Around) (E : Value → Shared → Prop) (use : Option (Value → Sem Unit)) (Q : Value → Shared → Prop) (acc : Value) (ce : PySem.Env) (r : Result) (s' : Shared) : Prop := match r with
  | .ok _ => (match use with
    | none => ∃ m, s'.heap.Ns ce.locals m ∧ ∀ h', Heap.SameBut ce.locals s'.heap h' → Q acc { s' with heap := h' }
    | some u => wpAny M A (u acc) (fun _ t => ∃ m, t.heap.Ns ce.locals m ∧ ∀ h', Heap.SameBut ce.locals t.heap h' → Q .none { t with heap := h' }) E s')
  | .error x => ∃ m, s'.heap.Ns ce.locals m ∧ ∀ h', Heap.SameBut ce.locals s'.heap h' → wpAny M A (passOn "comprehension.variables-let-go" x ce : Sem Value) (fun _ _ => False) E { s' with heap := h' }
theorem compr_free {e : Expr} {scope : Scope} {pos : Pos} {newAcc first : Sem Value} {g : Comprehension} {gs : List Comprehension} {cl : List (Str × Addr)} {use : Option (Value → Sem Unit)} {Q : Value → Shared → Prop}
    (c1 : clausesOf e = g :: gs) (c2 : ∀ x, foldedSetIterable g.iter env x = pure x) (c3 : closureFor scope env = pure cl) (c4 : scope.kind = .function) (c5 : ∀ x ∈ scope.names, x.2 = .local → scope.names.lookup x.1 = some .local)
    (hh : wpAny M A first (fun x t1 => wpAny M A (pyIter x) (fun it t2 => wpAny M A newAcc (fun acc t3 => wpAny M A (newFunctionEnv scope env.globals cl [] env.qual none .none (some env)) (fun ce t4 =>
      codeAny M A (.compStart e 0 it acc { ce with scope := relabel scope env }) (CompP M A E use Q acc { ce with scope := relabel scope env }) t4) E t3) E t2) E t1) E s) :
    wpAny M A (comprehension e scope env pos newAcc false first use) Q E s := by
  unfold comprehension
  rw [c3, c1]
  refine wpAny_bind (wpAny_mono hh (fun x t1 k1 => ?_) fun _ _ z => z)
  refine wpAny_bind (wpAny_standAt ?_)
  refine wpAny_bind (wpAny_of_eq (c2 x) ?_)
  refine wpAny_bind (wpAny_holding (wpAny_mono k1 (fun it t2 k2 => ?_) fun _ _ z => z))
  refine wpAny_standIf (wpAny_bind (wpAny_mono k2 (fun acc t3 k3 => ?_) fun _ _ z => z))
  refine wpAny_bind (wpAny_pure (wpAny_bind (wpAny_mono k3 (fun ce t4 k4 => ?_) fun _ _ z => z)))
  dsimp only
  have own : ∀ x ∈ (scope.names.filter fun x => (x.2 == .local || x.2 == .cell) && x.1 != (".0" : Str)).reverse, x.2 = .local → PySem.Env.kindOf { ce with scope := relabel scope env } x.1 = some .local := fun x hx hl =>
    lookup_relabel_local (c5 x (List.mem_filter.mp (List.mem_reverse.mp hx)).1 hl)
  have own2 : ∀ x ∈ (scope.names.filter fun x => (x.2 == .local || x.2 == .cell) && x.1 != (".0" : Str)).reverse.drop 1 ++ (scope.names.filter fun x => (x.2 == .local || x.2 == .cell) && x.1 != (".0" : Str)).reverse.take 1,
      x.2 = .local → PySem.Env.kindOf { ce with scope := relabel scope env } x.1 = some .local := fun x hx => (List.mem_append.mp hx).elim (fun q => own x (List.mem_of_mem_drop q)) fun q => own x (List.mem_of_mem_take q)
  refine wpAny_holding (wpAny_bind (wpAny_attempt (wpAny_holding (wpAny_run (codeAny_mono k4 fun r t5 k5 => ?_)))))
  cases r with
  | ok f =>
    cases use with
    | none =>
      obtain ⟨m, nm, k6⟩ := k5
      refine wpAny_bind (wpAny_holding (wpAny_comp_letGo (cenv := { ce with scope := relabel scope env }) c4 _ t5 m own nm fun h' m' _ sb => ?_))
      exact wpAny_pure (k6 h' sb)
    | some u =>
      refine wpAny_bind (wpAny_rule (wpAny_bind (wpAny_holding (wpAny_mono k5 (fun _ t6 k6 => ?_) fun _ _ z => z))))
      obtain ⟨m, nm, k7⟩ := k6
      refine wpAny_bind (wpAny_comp_letGo (cenv := { ce with scope := relabel scope env }) c4 _ t6 m own2 nm fun h' m' _ sb => ?_)
      exact wpAny_pure (k7 h' sb)
  | error x =>
    obtain ⟨m, nm, k6⟩ := k5
    refine wpAny_bind (wpAny_holding (wpAny_comp_letGo (cenv := { ce with scope := relabel scope env }) c4 _ t5 m own nm fun h' m' _ sb => ?_))
    exact wpAny_mono (k6 h' sb) (fun _ _ z => z.elim) fun _ _ z => z
theorem note_eq {x : Value} {e1 e2 : PySem.Env} (h : e1.frame = e2.frame) : noteFrame x e1 = noteFrame x e2 := by
  unfold noteFrame frameOf
  rw [h]
end
section
variable {X : Cx} {pins : List (Addr × Obj)} {sv : St} {H3 : Hp} {s3 : Shared} {W : WX}
/-- what leaves the block leaves the expression -/
theorem XA.out {scope : Scope} {ce : PySem.Env} {fp : List Addr} {use : Option (Value → Sem Unit)} {Qf : Value → Shared → Prop} {acc : Value} {xe : Value → Shared → Prop} (tk : TakesA X W) (stk : ∃ e0 o0 l, X.stack = e0 :: o0 ∧ e0.frame = some l ∧ X.env.frame = some l)
    (I3 : Inv X pins sv H3 s3) (hfp : ∀ b ∈ fp, FpOk X pins H3 b) (cL : ce.locals = s3.heap.objs.size) (cF : ce.frame = X.env.frame) {u : Value} {s' : Shared}
    (x : XA ((X.blk s3 H3 scope ce fp).wish xe) (fun c d _ H => W c d sv H) u s') : notedBy (model X.prog X.w) X.A ce (fun e t => CompP (model X.prog X.w) X.A X.xe use Qf acc ce (.error e) t) u s' := by
  obtain ⟨a, B, sI, pb, sb, H, cls, d, l, e, I, nb, up, hl, sky, na, os, ag, w⟩ := x
  subst e
  have I := Inv.unwish I
  obtain ⟨e0, o0, l0, hst, he0, hX⟩ := stk
  have hl : ce.frame = some l := hl
  rw [cF, hX] at hl
  cases hl
  have nb : ∀ b o, sI.heap.get? b = some o → b ∉ frs X.stack → B.get? b = some o := nb
  have sky : Sky B X.stack a (Zc cls d) l s'.heap := sky
  have hfr : X.A.frames = some (e0 :: o0) := by rw [I3.ok.frames, hst]
  rw [hst] at sky
  -- the outer's view
  have J : Inv X pins sv H sI := I3.call' (ch := fp) I.os I.base I.hok I.bare fun b hb => ⟨(hfp b hb).2.2.2.1, (hfp b hb).2.1, (hfp b hb).2.2.2.2.1, (hfp b hb).2.2.2.2.2⟩
  have nC : H ce.locals = none := I.free
  obtain ⟨m, nm, _⟩ := I.loc
  have nm : sI.heap.Ns ce.locals m := nm
  have fC := I3.fpOk (b := ce.locals) (H' := H) (Nat.le_of_eq cL.symm) nC
  have cst : ce.locals ∉ frs X.stack := fun z => by
    rcases List.mem_cons.mp (I3.stkSub _ z) with q | q
    · exact fC.2.1 q
    · exact fC.2.2.1 q
  obtain ⟨oC, es, ep, hoC, hdC, hrC⟩ := nm
  have bC := nb _ _ hoC cst
  -- noted
  have noted : ∀ {Q : Unit → Shared → Prop} {E : Value → Shared → Prop}, (∀ h1, HandSPX.HeldZ B (e0 :: o0) a (Zc cls d) l h1 → s'.heap.UpToSlots h1 → Q () { s' with heap := h1 }) → wpAny (model X.prog X.w) X.A (noteFrame (.ref a) ce) Q E s' := fun {Q E} hQ => by
    rw [note_eq (e2 := e0) (by rw [cF, hX, he0])]
    rcases sky with ⟨hB, hn, hl, oe, vs, he, hz, hd, h1⟩ | fl | hh
    · exact HandSPX.look_newZ Zc.steady hfr hl he0 he hB hn hd h1 hz hQ
    · exact HandSPX.looks_onZ Zc.steady hfr he0 fl hQ
    · exact HandSPX.againZ he0 hh.2.2.2 (hQ s'.heap hh (Heap.UpToSlots.refl _))
  show wpAny _ _ (noteFrame (.ref a) ce) _ _ s'
  refine noted fun h1 hh up1 => ?_
  obtain ⟨st1, na1, ff1, oe, vs, T, oT, ts, hoe, hz, hdd, h1v, hnT, hTe, hoT, hdT, h3v⟩ := hh
  refine ⟨m, ⟨oC, es, ep, st1 _ _ bC, hdC, hrC⟩, fun h2 sbt => ?_⟩
  have neA : a ≠ ce.locals := fun z => by rw [z, bC] at na1; cases na1
  have neT : T ≠ ce.locals := fun z => by rw [z, bC] at hnT; cases hnT
  have k2 : ∀ b, b ≠ ce.locals → h2.get? b = h1.get? b := fun b hb => sbt.2 b hb
  -- the ground without the block's own dict
  have hB2 : HandSPX.HeldZ (PySem.W.hideAll B [ce.locals]) (e0 :: o0) a (Zc cls d) l h2 := by
    refine ⟨fun b o e => ?_, ?_, ?_, oe, vs, T, oT, ts, (k2 _ neA).trans hoe, hz, hdd, h1v, ?_, hTe, (k2 _ neT).trans hoT, hdT, h3v⟩
    · have nb' : b ≠ ce.locals := fun z => by rw [z, PySem.W.hideAll_none _ (by simp)] at e; cases e
      exact (k2 b nb').trans (st1 b o (PySem.W.of_hideAll _ e))
    · cases q : (PySem.W.hideAll B [ce.locals]).get? a with
      | none => rfl
      | some o =>
        have z := PySem.W.of_hideAll _ q
        rw [na1] at z; cases z
    · have hb2 : ∀ l, (∀ b ∈ frs l, b ∈ frs X.stack) → h1.FunFrames B l → h2.FunFrames (PySem.W.hideAll B [ce.locals]) l := by
        intro l
        induction l with
        | nil => intro _ _; trivial
        | cons f r ih =>
          intro hs hl
          obtain ⟨hk, ⟨L0, o, hf, hn, ho, hd⟩, hr⟩ := hl
          have hL : L0 ∈ frs X.stack := hs L0 (by unfold frs; rw [List.filterMap_cons, hf]; exact List.mem_cons_self)
          have nL : L0 ≠ ce.locals := fun z => cst (z ▸ hL)
          refine ⟨hk, ⟨L0, o, hf, ?_, (k2 _ nL).trans ho, hd⟩, ih (fun b hb => hs b (by unfold frs; rw [List.filterMap_cons, hf]; exact List.mem_cons_of_mem _ hb)) hr⟩
          cases q : (PySem.W.hideAll B [ce.locals]).get? L0 with
          | none => rfl
          | some o =>
            have z := PySem.W.of_hideAll _ q
            rw [hn] at z; cases z
      exact hb2 _ (by rw [hst]; exact fun b hb => hb) ff1
    · cases q : (PySem.W.hideAll B [ce.locals]).get? T with
      | none => rfl
      | some o =>
        have z := PySem.W.of_hideAll _ q
        rw [hnT] at z; cases z
  unfold PySem.passOn
  refine wpAny_bind (wpAny_field ((k2 _ neA).trans hoe) hdd h1v ?_)
  rw [if_neg (show ¬ ((Value.ref T == Value.none) = true) from by simp)]
  have fin : wpAny (model X.prog X.w) X.A (setFlight (.ref a) ce.frame) (fun _ t => wpAny (model X.prog X.w) X.A (throw (.ref a) : Sem Value) (fun _ _ => False) X.xe t) X.xe { s' with heap := h2 } := by
    rw [cF, hX]
    refine HandSPX.setFlight_onZ hB2 fun h4 hh4 up4 => wpAny_throw (tk _ _ ?_)
    have JC : Inv X pins sv H { sI with heap := PySem.W.hideAll sI.heap [ce.locals], toks := sI.toks } := J.turned (it := ce.locals) (fun b o hb e => PySem.W.hideAll_get _ e (by simpa using hb)) fC.1 fC.2.1 fC.2.2.2.1 fC.2.2.2.2.1 fC.2.2.2.2.2
    refine ⟨a, PySem.W.hideAll B [ce.locals], _, pins, sv, H, cls, d, l, rfl, JC, fun b o e hb => ?_, fun b o e hd => ?_, hX, .inr (.inr (by rw [hst]; exact hh4)), na, os, ag, w⟩
    · have nb' : b ≠ ce.locals := fun z => by rw [z, PySem.W.hideAll_none _ (by simp)] at e; cases e
      exact PySem.W.hideAll_get _ (nb b o (PySem.W.of_hideAll _ e) hb) (by simpa using nb')
    · have nb' : b ≠ ce.locals := fun z => by rw [z, PySem.W.hideAll_none _ (by simp)] at e; cases e
      obtain ⟨sl1, q1⟩ := up b o (PySem.W.of_hideAll _ e) hd
      obtain ⟨sl2, q2⟩ := up1 b _ q1 hd
      obtain ⟨sl3, q3⟩ := up4 b _ ((k2 b nb').trans q2) hd
      exact ⟨sl3, q3⟩
  first
    | exact wpAny_bind (wpAny_pure (wpAny_bind fin))
    | exact wpAny_bind fin
end
end Mi

end
section
/-! M13: what loops and comprehensions walk. -/
namespace Mi
open PySem L2
/-- the iterator serves what the source holds -/
def ItR (L : XLay) : List Addr → Hp → Src → It → Prop := fun ρ H s J => ∀ ρ' H' M', Mono ρ H ρ' H' → Sim L.toLay ρ' H' M' → ∀ i,
  (∀ d, s.at i M' = some d → J.go i H' ∧ ∀ x H'', J.yld i H' x H'' → Mono ρ' H' ρ' H'' ∧ Sim L.toLay ρ' H'' M' ∧ Rep L.toLay ρ' H'' d x) ∧ (s.len M' = some i → J.stop i H')
section
variable {Z : Wo} {L : XLay} {P : Prg} {G : GTab} {n : Nat} {κ : List (Nat × CloD)} {W : WX} {X : Cx}
/-- the iterable does what the term says -/
abbrev SI (Z : Wo) (L : XLay) (P : Prg) (n : Nat) (κ : List (Nat × CloD)) (W : WX) (X : Cx) (tg : Expr) (m : MI) (e : Expr) : Prop := PI X tg e (tK Z L P Z.ent (ItR L) n κ W (evI P (rt P n) κ m))
theorem itr_list {ρ : List Addr} {H : Hp} {ds : List D} {a : Addr} {vs : List V} {v : V} {M : Hm} (h : ∀ ρ' H', Mono ρ H ρ' H' → ∃ vs, SqL L.K H' a vs ∧ RepL L.toLay ρ' H' ds vs) : ItR L ρ H (.items ds) (Itl L.K a) := by
  intro ρ' H' M' m sm i
  obtain ⟨vs, hq, r⟩ := h ρ' H' m
  refine ⟨fun d e => ?_, fun e => ?_⟩
  · obtain ⟨x, ex, rx⟩ := r.at e
    refine ⟨⟨vs, x, hq, ex⟩, fun y H'' ⟨e1, hy⟩ => ?_⟩
    subst e1
    have := hy vs hq
    rw [ex] at this
    cases this
    exact ⟨Mono.refl, sm, rx⟩
  · have e : some ds.length = some i := e
    cases e
    exact ⟨vs, hq, by rw [r.len]; exact Nat.le_refl _⟩
theorem itr_tup {ρ : List Addr} {H : Hp} {ds : List D} {a : Addr} (h : ∀ ρ' H', Mono ρ H ρ' H' → ∃ vs, SqT L.K H' a vs ∧ RepL L.toLay ρ' H' ds vs) : ItR L ρ H (.items ds) (Itt L.K a) := by
  intro ρ' H' M' m sm i
  obtain ⟨vs, hq, r⟩ := h ρ' H' m
  refine ⟨fun d e => ?_, fun e => ?_⟩
  · obtain ⟨x, ex, rx⟩ := r.at e
    refine ⟨⟨vs, x, hq, ex⟩, fun y H'' ⟨e1, hy⟩ => ?_⟩
    subst e1
    have := hy vs hq
    rw [ex] at this
    cases this
    exact ⟨Mono.refl, sm, rx⟩
  · have e : some ds.length = some i := e
    cases e
    exact ⟨vs, hq, by rw [r.len]; exact Nat.le_refl _⟩
theorem itr_obj {ρ : List Addr} {H : Hp} {k : Nat} {a : Addr} (h : ρ[k]? = some a) : ItR L ρ H (.obj k) (Itl L.K a) := by
  intro ρ' H' M' m sm i
  have hr := m.at h
  have e0 : ∀ xs, M'[k]? = some (.lst xs) → ∃ vs, SqL L.K H' a vs ∧ RepL L.toLay ρ' H' xs vs := fun xs e => by
    obtain ⟨vs, h1, r⟩ := sm.obj k _ a e hr
    exact ⟨vs, SqL.of h1, r⟩
  refine ⟨fun d e => ?_, fun e => ?_⟩
  · unfold Src.at at e
    cases z : M'[k]? with
    | none => simp [z] at e
    | some o =>
      cases o with
      | lst xs =>
        simp only [z] at e
        obtain ⟨vs, hq, r⟩ := e0 xs z
        obtain ⟨x, ex, rx⟩ := r.at e
        refine ⟨⟨vs, x, hq, ex⟩, fun y H'' ⟨e1, hy⟩ => ?_⟩
        subst e1
        have := hy vs hq
        rw [ex] at this
        cases this
        exact ⟨Mono.refl, sm, rx⟩
      | _ => simp [z] at e
  · unfold Src.len at e
    cases z : M'[k]? with
    | none => simp [z] at e
    | some o =>
      cases o with
      | lst xs =>
        simp only [z] at e
        cases e
        obtain ⟨vs, hq, r⟩ := e0 xs z
        exact ⟨vs, hq, by rw [r.len]; exact Nat.le_refl _⟩
      | _ => simp [z] at e
theorem rngD_at {lo : Int} {k i : Nat} {d : D} (e : (rngD lo k)[i]? = some d) : i < k ∧ d = .int (lo + i) := by
  unfold rngD at e
  rw [List.getElem?_map] at e
  by_cases hi : i < k
  · rw [List.getElem?_range hi] at e
    cases e
    exact ⟨hi, rfl⟩
  · rw [List.getElem?_eq_none (by simpa using hi)] at e
    cases e
theorem itr_range {ρ : List Addr} {H : Hp} {lo : Int} {k : Nat} : ItR L ρ H (.items (rngD lo k)) (Itr lo k) := by
  intro ρ' H' M' m sm i
  refine ⟨fun d e => ?_, fun e => ?_⟩
  · obtain ⟨h1, rfl⟩ := rngD_at e
    exact ⟨h1, fun x H'' ⟨e1, e2⟩ => by subst e1; subst e2; exact ⟨Mono.refl, sm, rfl⟩⟩
  · have e : some (rngD lo k).length = some i := e
    unfold rngD at e
    rw [List.length_map, List.length_range] at e
    cases e
    exact Nat.le_refl _
theorem itr_str {ρ : List Addr} {H : Hp} {x : Str} : ItR L ρ H (.items (x.cps.toList.map fun c => .str ⟨#[c]⟩)) (Its x) := by
  intro ρ' H' M' m sm i
  refine ⟨fun d e => ?_, fun e => ?_⟩
  · have e : (x.cps.toList.map fun c => D.str ⟨#[c]⟩)[i]? = some d := e
    rw [List.getElem?_map] at e
    cases z : x.cps.toList[i]? with
    | none => rw [z] at e; cases e
    | some c =>
      rw [z] at e; cases e
      have hi := (List.getElem?_eq_some_iff.mp z).1
      have z' : x.cps[i]? = some c := by rw [← Array.getElem?_toList]; exact z
      refine ⟨(show i < x.cps.size from by simpa using hi), fun y H'' ⟨e1, c', e2, e3⟩ => ?_⟩
      subst e1
      rw [z'] at e2
      cases e2
      exact ⟨Mono.refl, sm, e3⟩
  · have e : some (x.cps.toList.map fun c => D.str ⟨#[c]⟩).length = some i := e
    rw [List.length_map] at e
    cases e
    exact Nat.le_of_eq (by simp)
/-! ### iterables -/
theorem si_val {m : ME} {e tg : Expr} (O : XOk Z L P G n X W) (h : SE Z L P n κ W X m e) : SI Z L P n κ W X tg (.val m) e := by
  refine ⟨fun pins s sv H R I hh => ?_⟩
  obtain ⟨ρ, σ, M, sm, er, k, q⟩ := hh
  have q : Go L (ItR L) W ρ H sv ((ev P (rt P n) κ m σ M).bind fun x M => lift (srcOf M x) M) R := q
  have hl := pi_list (tg := tg) h
  have ht := pi_tup (tg := tg) h
  have hs := pi_str (tg := tg) h
  rw [O.K] at hl ht
  cases ev_ : ev P (rt P n) κ m σ M with
  | bad => rw [ev_] at q; exact False.elim q
  | exc c x M1 =>
    rw [ev_] at q
    refine hl.run pins s sv H R I ⟨ρ, σ, M, sm, er, k, ?_⟩
    rw [ev_]
    exact q
  | ok d M1 =>
    rw [ev_, Res.bind_ok] at q
    cases es : srcOf M1 d with
    | none => rw [es] at q; exact False.elim q
    | some src =>
      rw [es] at q
      have q : ∀ ρ' H' J, Mono ρ H ρ' H' → Sim L.toLay ρ' H' M1 → ItR L ρ' H' src J → R J H' := q
      cases d with
      | lst ds =>
        cases es
        refine hl.run pins s sv H R I ⟨ρ, σ, M, sm, er, k, ?_⟩
        rw [ev_]
        intro ρ1 H1 b m1 sm1 rb
        obtain ⟨a, vs, rfl, hq, r⟩ := lst_sq rb
        refine ⟨a, rfl, ⟨vs, hq⟩, q ρ1 H1 _ m1 sm1 (itr_list (v := .non) (vs := vs) (M := M1) fun ρ2 H2 m2 => ?_)⟩
        obtain ⟨a', vs', e', hq', r'⟩ := lst_sq (m2.rep _ _ rb)
        cases e'
        exact ⟨vs', hq', r'⟩
      | flst ds =>
        cases es
        refine hl.run pins s sv H R I ⟨ρ, σ, M, sm, er, k, ?_⟩
        rw [ev_]
        intro ρ1 H1 b m1 sm1 rb
        obtain ⟨a, vs, rfl, hq, r⟩ := flst_sq rb
        refine ⟨a, rfl, ⟨vs, hq⟩, q ρ1 H1 _ m1 sm1 (itr_list (v := .non) (vs := vs) (M := M1) fun ρ2 H2 m2 => ?_)⟩
        obtain ⟨a', vs', e', hq', r'⟩ := flst_sq (m2.rep _ _ rb)
        cases e'
        exact ⟨vs', hq', r'⟩
      | tup ds =>
        cases es
        refine ht.run pins s sv H R I ⟨ρ, σ, M, sm, er, k, ?_⟩
        rw [ev_]
        intro ρ1 H1 b m1 sm1 rb
        obtain ⟨a, vs, rfl, hq, r⟩ := tup_sq rb
        refine ⟨a, rfl, ⟨vs, hq⟩, q ρ1 H1 _ m1 sm1 (itr_tup fun ρ2 H2 m2 => ?_)⟩
        obtain ⟨a', vs', e', hq', r'⟩ := tup_sq (m2.rep _ _ rb)
        cases e'
        exact ⟨vs', hq', r'⟩
      | str x =>
        refine hs.run pins s sv H R I ⟨ρ, σ, M, sm, er, k, ?_⟩
        rw [ev_]
        intro ρ1 H1 b m1 sm1 rb
        unfold srcOf at es
        simp only at es
        split at es
        · cases es
          exact ⟨x, rb, q ρ1 H1 _ m1 sm1 itr_str⟩
        · cases es
      | ref j =>
        refine hl.run pins s sv H R I ⟨ρ, σ, M, sm, er, k, ?_⟩
        rw [ev_]
        intro ρ1 H1 b m1 sm1 rb
        unfold srcOf at es
        cases z : M1[j]? with
        | none => simp [z] at es
        | some o =>
          cases o with
          | lst xs =>
            simp only [z] at es
            cases es
            obtain ⟨a, rfl, hr, vs, h1, r⟩ := sm1.at rb z
            exact ⟨a, rfl, ⟨vs, SqL.of h1⟩, q ρ1 H1 _ m1 sm1 (itr_obj hr)⟩
          | _ => simp [z] at es
      | _ => cases es
theorem rng_ok {i : Int} (h : rngOk i = true) : -(2 ^ 62) ≤ i ∧ i < 2 ^ 62 := by
  unfold rngOk at h
  rw [Bool.and_eq_true] at h
  exact ⟨of_decide_eq_true h.1, of_decide_eq_true h.2⟩
theorem rng_mem : ("range" : Str) ∈ biNames := by decide +kernel
theorem si_rng1 {m : ME} {e tg : Expr} {p pos : Pos} (O : XOk Z L P G n X W) (h : SE Z L P n κ W X m e) (hg : Gl X "range") (hs : noStar [e] = true) : SI Z L P n κ W X tg (.rng1 m) (.Call (.Name "range" p) [e] [] pos) := by
  have pi := pi_range1 (tg := tg) (p := p) (pos := pos) hg (by rw [O.mg]; exact O.wok.blt _ rng_mem) (pa_cons h pa_nil (star_cons hs)) (star_cons hs)
  refine ⟨fun pins s sv H R I hh => pi.run pins s sv H R I ?_⟩
  obtain ⟨ρ, σ, M, sm, er, k, q⟩ := hh
  refine tK.mono (go_bind sm er k q) fun x H1 ⟨ρ1, M1, a, m1, s1, e1, k1, rx, q1⟩ => ?_
  cases a <;> first | exact False.elim q1 | skip
  rename_i j
  obtain ⟨c, q1⟩ := go_if q1
  have rx : x = .int j := rx
  subst rx
  exact ⟨j, rfl, (rng_ok c).1, (rng_ok c).2, go_ok (T := ItR L) s1 q1 itr_range⟩
theorem rng2D_of {T : List Addr → Hp → Src → It → Prop} {ρ : List Addr} {H : Hp} {sv : St} {a b : D} {M : Hm} {R : It → Hp → Prop} (h : Go L T W ρ H sv (rng2D a b M) R) :
    ∃ i j, a = .int i ∧ b = .int j ∧ (rngOk i && rngOk j) = true ∧ Go L T W ρ H sv (.ok (.items (rngD i (j - i).toNat)) M) R := by
  cases a with
  | int i =>
    cases b with
    | int j =>
      obtain ⟨c, h⟩ := go_if h
      exact ⟨i, j, rfl, rfl, c, h⟩
    | _ => exact False.elim h
  | _ => exact False.elim h
theorem si_rng2 {m1 m2 : ME} {e1 e2 tg : Expr} {p pos : Pos} (O : XOk Z L P G n X W) (h1 : SE Z L P n κ W X m1 e1) (h2 : SE Z L P n κ W X m2 e2) (hg : Gl X "range") (hs : noStar [e1, e2] = true) : SI Z L P n κ W X tg (.rng2 m1 m2) (.Call (.Name "range" p) [e1, e2] [] pos) := by
  have hs2 := noStar_tail hs
  have pi := pi_range2 (tg := tg) (p := p) (pos := pos) hg (by rw [O.mg]; exact O.wok.blt _ rng_mem) (pa_cons h1 (pa_cons h2 pa_nil (star_cons hs2)) (star_cons hs)) (by rw [star_cons hs, star_cons hs2]; rfl) (star_cons hs2)
  refine ⟨fun pins s sv H R I hh => pi.run pins s sv H R I ?_⟩
  obtain ⟨ρ, σ, M, sm, er, k, q⟩ := hh
  refine tK.mono (go_bind sm er k q) fun x H1 ⟨ρ1, M1, a, m1, s1, e1, k1, rx, q1⟩ => ?_
  refine tK.mono (go_bind s1 e1 k1 q1) fun y H2 ⟨ρ2, M2, b, m2, s2, e2, k2, ry, q2⟩ => ?_
  obtain ⟨i, j, rfl, rfl, c, q2⟩ := rng2D_of q2
  rw [Bool.and_eq_true] at c
  have rx : x = .int i := rx
  have ry : y = .int j := ry
  subst rx; subst ry
  exact ⟨i, j, rfl, ⟨(rng_ok c.1).1, (rng_ok c.1).2, (rng_ok c.2).1, (rng_ok c.2).2⟩, go_ok (T := ItR L) s2 q2 itr_range⟩
end
end Mi

end
section
/-! M14: targets. -/
namespace Mi
open PySem L2
theorem asg_cons {e : Expr} {es : List Expr} {env : PySem.Env} (h : noStar (e :: es) = true) : assignEach (e :: es) env = (false, assign e env) :: assignEach es env := by
  cases e <;> first | rfl | cases h
theorem asg_len {env : PySem.Env} : ∀ {es : List Expr}, noStar es = true → (assignEach es env).length = es.length
  | [], _ => rfl
  | e :: es, h => by
    rw [asg_cons h]
    exact congrArg Nat.succ (asg_len (noStar_tail h))
theorem asg_star {env : PySem.Env} : ∀ {es : List Expr}, noStar es = true → (assignEach es env).findIdx? (·.1) = none
  | [], _ => rfl
  | e :: es, h => by
    rw [asg_cons h, List.findIdx?_cons]
    simp only [Bool.false_eq_true, if_false]
    rw [asg_star (noStar_tail h)]
    rfl
section
variable {Z : Wo} {L : XLay} {P : Prg} {G : GTab} {n : Nat} {κ : List (Nat × CloD)} {W : WX} {X : Cx}
theorem EnvR.set {ρ : List Addr} {H : Hp} {σ : Env} {sv : St} {d : D} {x : V} (e : EnvR L.toLay ρ H σ sv) (i : Nat) (r : Rep L.toLay ρ H d x) : EnvR L.toLay ρ H (σ.set i (some d)) (sv.set i (some x)) := by
  refine ⟨by rw [List.length_set, List.length_set]; exact e.1, fun j d' h => ?_⟩
  by_cases hij : i = j
  · subst hij
    by_cases hl : i < σ.length
    · rw [List.getElem?_set_self hl] at h
      cases h
      exact ⟨x, List.getElem?_set_self (by rw [e.1]; exact hl), r⟩
    · rw [List.getElem?_eq_none (by simpa using hl)] at h
      cases h
  · rw [List.getElem?_set_ne hij] at h
    obtain ⟨v, ev, rv⟩ := e.2 j d' h
    exact ⟨v, by rw [List.getElem?_set_ne hij]; exact ev, rv⟩
theorem KR.set {η : Ent} {ρ : List Addr} {H : Hp} {sv : St} {x : V} (k : KR Z L P η n κ ρ H sv) {i : Nat} (f : free κ i = true) : KR Z L P η n κ ρ H (sv.set i (some x)) := fun j c e => by
  have hij : i ≠ j := fun z => by
    subst z
    unfold free at f
    rw [e] at f
    cases f
  obtain ⟨v, ev, hv⟩ := k j c e
  exact ⟨v, by rw [List.getElem?_set_ne hij]; exact ev, hv⟩
/-- no wish for an exception -/
abbrev WF : WX := fun _ _ _ _ => False
/-- the slots behind a store; C: what stays of them -/
def TE2 (Z : Wo) (L : XLay) (P : Prg) (n : Nat) (κ : List (Nat × CloD)) (C : St → Prop) : List Addr → Hp → Env → St → Prop := fun ρ H σ sv => EnvR L.toLay ρ H σ sv ∧ KR Z L P Z.ent n κ ρ H sv ∧ C sv
def tG (Z : Wo) (L : XLay) (P : Prg) (n : Nat) (κ : List (Nat × CloD)) (C : St → Prop) (t : MT) : TG := fun x sv H R => ∃ ρ σ M d, Sim L.toLay ρ H M ∧ EnvR L.toLay ρ H σ sv ∧ KR Z L P Z.ent n κ ρ H sv ∧ C sv ∧ Rep L.toLay ρ H d x ∧
  Go L (TE2 Z L P n κ C) WF ρ H sv (asg P (rt P n) κ t d σ M) R
def tGs (Z : Wo) (L : XLay) (P : Prg) (n : Nat) (κ : List (Nat × CloD)) (C : St → Prop) (ts : MTs) : TGs := fun xs sv H R => ∃ ρ σ M ds, Sim L.toLay ρ H M ∧ EnvR L.toLay ρ H σ sv ∧ KR Z L P Z.ent n κ ρ H sv ∧ C sv ∧ RepL L.toLay ρ H ds xs ∧
  Go L (TE2 Z L P n κ C) WF ρ H sv (asgs P (rt P n) κ ts ds σ M) R
theorem pg_weak {tg : Expr} {t t' : TG} (h : PG X tg t) (f : ∀ x sv H Q, t' x sv H Q → t x sv H Q) : PG X tg t' := ⟨fun pins s σ H v u Q I r q => h.run pins s σ H v u Q I r (f v σ H Q q)⟩
theorem pgs_weak {tg : List Expr} {t t' : TGs} (h : PGs X tg t) (f : ∀ x sv H Q, t' x sv H Q → t x sv H Q) : PGs X tg t' := ⟨fun pins s σ H v u Q I r q => h.run pins s σ H v u Q I r (f v σ H Q q)⟩
theorem go_sv {α β : Type} {T : List Addr → Hp → α → β → Prop} {ρ : List Addr} {H : Hp} {sv sv' : St} {r : Res α} {Q : β → Hp → Prop} (h : Go L T WF ρ H sv r Q) : Go L T WF ρ H sv' r Q := by
  cases r with
  | ok a M => exact h
  | exc c x M => exact h
  | bad => exact h
variable {C : St → Prop}
theorem sg_nm {i : Nat} {x : Str} {pos : Pos} (hN : X.N.Nodup) (hi : X.N[i]? = some x) (hx : Loc X.env.scope x) (hf : X.fn x = true ∨ X.env.scope.names.lookup x = some .local) (hC : ∀ sv v, C sv → C (sv.set i (some v))) : PG X (.Name x pos) (tG Z L P n κ C (.nm i)) :=
  pg_weak (pg_name hN hi hx hf) fun x sv H Q h => by
    obtain ⟨ρ, σ, M, d, sm, er, k, cc, rd, q⟩ := h
    have q : Go L (TE2 Z L P n κ C) WF ρ H sv (if free κ i then .ok (σ.set i (some d)) M else .bad) Q := q
    obtain ⟨c, q⟩ := go_if q
    exact go_ok (T := TE2 Z L P n κ C) sm q ⟨er.set i rd, k.set c, hC _ _ cc⟩
theorem sgs_nil : PGs X [] (tGs Z L P n κ C .nil) := pgs_weak pgs_nil fun xs sv H Q h => by
  obtain ⟨ρ, σ, M, ds, sm, er, k, cc, rd, q⟩ := h
  cases ds with
  | nil => exact ⟨rd, go_ok (T := TE2 Z L P n κ C) sm q ⟨er, k, cc⟩⟩
  | cons => exact False.elim q
theorem sgs_cons {t : MT} {ts : MTs} {e : Expr} {es : List Expr} (hs : noStar (e :: es) = true) (h1 : PG X e (tG Z L P n κ C t)) (h2 : PGs X es (tGs Z L P n κ C ts)) : PGs X (e :: es) (tGs Z L P n κ C (.cons t ts)) :=
  pgs_weak (pgs_cons h1 h2 (by rw [asg_cons hs]; rfl)) fun xs sv H Q h => by
    obtain ⟨ρ, σ, M, ds, sm, er, k, cc, rd, q⟩ := h
    cases ds with
    | nil => exact False.elim q
    | cons d ds =>
      obtain ⟨v, r, rfl, h1, h2⟩ := rd
      refine ⟨v, r, rfl, ρ, σ, M, d, sm, er, k, cc, h1, ?_⟩
      have q : Go L (TE2 Z L P n κ C) WF ρ H sv ((asg P (rt P n) κ t d σ M).bind fun σ M => asgs P (rt P n) κ ts ds σ M) Q := q
      cases ea : asg P (rt P n) κ t d σ M with
      | ok σ' M' =>
        rw [ea, Res.bind_ok] at q
        exact fun ρ1 H1 sv' m s t => ⟨ρ1, σ', M', ds, s, t.1, t.2.1, t.2.2, m.repL _ _ h2, go_sv (Go.mono q m)⟩
      | exc c x M' => rw [ea] at q; exact q
      | bad => rw [ea] at q; exact q
theorem sg_tp {ts : MTs} {es : List Expr} {k : Nat} {pos : Pos} (O : XOk Z L P G n X W) (hs : noStar es = true) (hl : es.length = ts.size) (h : PGs X es (tGs Z L P n κ C ts)) : PG X (.Tuple es k pos) (tG Z L P n κ C (.tp ts)) :=
  pg_weak (pg_tup O.calm h (asg_len hs) (asg_star hs)) fun x sv H Q h => by
    obtain ⟨ρ, σ, M, d, sm, er, k, cc, rd, q⟩ := h
    cases d <;> first | exact False.elim q | skip
    rename_i ds
    obtain ⟨a, vs, rfl, hq, r⟩ := tup_sq rd
    have q : Go L (TE2 Z L P n κ C) WF ρ H sv (if ds.length = ts.size then asgs P (rt P n) κ ts ds σ M else .bad) Q := q
    by_cases hd : ds.length = ts.size
    · rw [if_pos hd] at q
      exact ⟨a, vs, rfl, by rw [O.K]; exact hq, by rw [r.len, hd, hl], ρ, σ, M, ds, sm, er, k, cc, r, q⟩
    · rw [if_neg hd] at q
      exact False.elim q
/-- o[i] = .. -/
def rSet (L : XLay) : TSet := fun o i v H Q => rSetL o i v H Q ∨ rSetD o i v H Q
theorem set_any (hu : X.A.units + 1 < cLine) : PSet X (rSet L) := by
  intro pins s σ H o i v ov iv u Q I ro ri rv h
  rcases h with h | h
  · exact set_list pins s σ H o i v ov iv u Q I ro ri rv h
  · exact set_dict hu pins s σ H o i v ov iv u Q I ro ri rv h
theorem setSub_ok {ρ : List Addr} {H : Hp} {sv : St} {σ : Env} {M : Hm} {x y d : D} {vx vy vd : V} {T : List Addr → Hp → Env → St → Prop} {R : St → Hp → Prop} (sm : Sim L.toLay ρ H M) (rx : Rep L.toLay ρ H x vx) (ry : Rep L.toLay ρ H y vy) (rd : Rep L.toLay ρ H d vd)
    (hT : ∀ H', Mono ρ H ρ H' → T ρ H' σ sv) (q : Go L T WF ρ H sv (setSub x y d σ M) R) : rSet L vx vy vd H (fun H' => R sv H') := by
  cases x <;> first | exact False.elim q | skip
  rename_i k
  unfold setSub at q
  cases eo : M[k]? with
  | none => simp only [eo] at q; exact False.elim q
  | some o =>
    cases o with
    | lst xs =>
      simp only [eo] at q
      cases y <;> first | exact False.elim q | skip
      rename_i i
      simp only at q
      cases ej : ixN xs.length i with
      | none => simp only [ej] at q; exact False.elim q
      | some j =>
        simp only [ej] at q
        obtain ⟨a, rfl, hr, vs, ha, rr⟩ := sm.at rx eo
        have m : Mono ρ H ρ (upd H a (.lst (vs.set j vd))) := mono_write (List.mem_of_getElem? hr)
        exact .inl ⟨a, vs, i, j, rfl, ry, ha, by rw [rr.len]; exact ej, q ρ _ sv m (sm.write hr ⟨_, upd_same, m.repL _ _ (rr.set j rd)⟩) (hT _ m)⟩
    | dic ks vs =>
      simp only [eo] at q
      cases ek : keyD y with
      | none => simp only [ek] at q; exact False.elim q
      | some kk =>
        simp only [ek] at q
        obtain ⟨c, q⟩ := go_if q
        obtain ⟨a, rfl, hr, ws, ha, l, rr⟩ := sm.at rx eo
        obtain ⟨ws', e1, l', r'⟩ := kput_rep (k := kk) (d := d) (w := vd) l rr rd
        have m : Mono ρ H ρ (upd H a (.dK (putK (ks.zip ws) kk vd))) := mono_write (List.mem_of_getElem? hr)
        have hz : (ks.zip ws).length < sizeLine := by
          rw [List.length_zip, ← l, Nat.min_self, sizeLine_eq]
          exact of_decide_eq_true c
        refine .inr ⟨a, _, rfl, by rw [key_rep ek ry]; exact DPut.k ha hz, q ρ _ sv m (sm.write hr ⟨ws', ?_, l', m.repL _ _ r'⟩) (hT _ m)⟩
        rw [upd_same, e1]
    | ins C fs => simp only [eo] at q; exact False.elim q
theorem sg_sb {mo mi : ME} {o i : Expr} {pos : Pos} (O : XOk Z L P G n X W) (ho : SE Z L P n κ WF X mo o) (hi : SE Z L P n κ WF X mi i)
    (ha : ∀ v, assign (.Subscript o i pos) X.env v = (do
      let ov ← holding [v] (eval o X.env)
      let iv ← holding [v, ov] (eval i X.env)
      standAt pos
      holding [v, ov, iv] (setItem ov iv v)
      release [v, ov, iv] [])) : PG X (.Subscript o i pos) (tG Z L P n κ C (.sb mo mi)) :=
  pg_weak (pg_sub ho hi (set_any (L := L) O.hu1) ha) fun x sv H Q h => by
    obtain ⟨ρ, σ, M, d, sm, er, k, cc, rd, q⟩ := h
    have q : Go L (TE2 Z L P n κ C) WF ρ H sv ((ev P (rt P n) κ mo σ M).bind fun x M => (ev P (rt P n) κ mi σ M).bind fun y M => setSub x y d σ M) Q := q
    refine tK.mono (go_bind sm er k q) fun ov H1 ⟨ρ1, M1, a, m1, s1, e1, k1, ra, q1⟩ => ?_
    refine tK.mono (go_bind s1 e1 k1 q1) fun iv H2 ⟨ρ2, M2, b, m2, s2, e2, k2, rb, q2⟩ => ?_
    exact setSub_ok s2 (m2.rep _ _ ra) rb ((m1.trans m2).rep _ _ rd) (fun H' m => ⟨m.env e2, k2.mono m, cc⟩) q2
end
end Mi

end
section
/-! M15: list comprehensions of one clause. -/
namespace Mi
open PySem L2
theorem wipe_at {σ : St} {j : Nat} : ∀ {vs : List Nat}, (wipe σ vs)[j]? = if j ∈ vs ∧ j < σ.length then some none else σ[j]?
  | [] => by simp [wipe]
  | v :: vs => by
    unfold wipe
    by_cases h : v = j
    · subst h
      by_cases hl : v < σ.length
      · rw [List.getElem?_set_self (by rw [wipe_length]; exact hl), if_pos ⟨List.mem_cons_self, hl⟩]
      · rw [List.getElem?_eq_none (by simpa [wipe_length] using hl), if_neg (fun z => hl z.2), List.getElem?_eq_none (by simpa using hl)]
    · rw [List.getElem?_set_ne h, wipe_at]
      have : (j ∈ v :: vs ∧ j < σ.length) ↔ (j ∈ vs ∧ j < σ.length) := by
        rw [List.mem_cons]
        exact ⟨fun ⟨a, b⟩ => ⟨a.resolve_left (fun z => h z.symm), b⟩, fun ⟨a, b⟩ => ⟨.inr a, b⟩⟩
      simp only [this]
theorem wipe_idem {σ : St} {vs : List Nat} : wipe (wipe σ vs) vs = wipe σ vs := by
  apply List.ext_getElem?
  intro j
  rw [wipe_at, wipe_at, wipe_length]
  by_cases h : j ∈ vs ∧ j < σ.length <;> simp [h]
theorem wipe_set {σ : St} {vs : List Nat} {i : Nat} {v : Option V} (h : i ∈ vs) : wipe (σ.set i v) vs = wipe σ vs := by
  apply List.ext_getElem?
  intro j
  rw [wipe_at, wipe_at, List.length_set]
  by_cases hj : j ∈ vs ∧ j < σ.length
  · simp [hj]
  · simp only [hj, if_false]
    by_cases hij : i = j
    · subst hij
      have hl : ¬ i < σ.length := fun z => hj ⟨h, z⟩
      rw [List.getElem?_eq_none (by simpa using hl), List.getElem?_eq_none (by simpa using hl)]
    · rw [List.getElem?_set_ne hij]
theorem wipeE_at {σ : Env} {j : Nat} {d : D} : ∀ {vs : List Nat}, (wipeE σ vs)[j]? = some (some d) → σ[j]? = some (some d) ∧ j ∉ vs
  | [], h => ⟨h, by simp⟩
  | v :: vs, h => by
    unfold wipeE at h
    by_cases hi : v = j
    · subst hi
      by_cases hv : v < (wipeE σ vs).length
      · rw [List.getElem?_set_self hv] at h; cases h
      · rw [List.getElem?_eq_none (by simpa using hv)] at h; cases h
    · rw [List.getElem?_set_ne hi] at h
      obtain ⟨h1, h2⟩ := wipeE_at h
      exact ⟨h1, by simp only [List.mem_cons, not_or]; exact ⟨fun e => hi e.symm, h2⟩⟩
theorem wipeE_len {σ : Env} : ∀ {vs : List Nat}, (wipeE σ vs).length = σ.length
  | [] => rfl
  | v :: vs => by unfold wipeE; rw [List.length_set, wipeE_len]
section
variable {Z : Wo} {L : XLay} {P : Prg} {G : GTab} {n : Nat} {κ : List (Nat × CloD)} {W : WX} {X : Cx}
theorem EnvR.wipe {ρ : List Addr} {H : Hp} {σ : Env} {sv : St} (e : EnvR L.toLay ρ H σ sv) (vs : List Nat) : EnvR L.toLay ρ H (wipeE σ vs) (L2.wipe sv vs) := by
  refine ⟨by rw [wipe_length, wipeE_len]; exact e.1, fun j d h => ?_⟩
  obtain ⟨h1, h2⟩ := wipeE_at h
  obtain ⟨v, ev, r⟩ := e.2 j d h1
  exact ⟨v, by rw [wipe_at, if_neg (fun z => h2 z.1)]; exact ev, r⟩
theorem KR.wipe {η : Ent} {ρ : List Addr} {H : Hp} {sv : St} (k : KR Z L P η n κ ρ H sv) {vs : List Nat} (f : vs.all (free κ) = true) : KR Z L P η n κ ρ H (L2.wipe sv vs) := fun j c e => by
  have hj : j ∉ vs := fun z => by
    have := List.all_eq_true.mp f j z
    unfold free at this
    rw [e] at this
    cases this
  obtain ⟨v, ev, hv⟩ := k j c e
  exact ⟨v, by rw [wipe_at, if_neg (fun z => hj z.1)]; exact ev, hv⟩
/-! ### tests of a clause -/
abbrev SPT (Z : Wo) (L : XLay) (P : Prg) (n : Nat) (κ : List (Nat × CloD)) (W : WX) (X : Cx) (ts : MQs) (es : List Expr) : Prop := PTs X es (tK Z L P Z.ent (TId Bool) n κ W (evTB P (rt P n) κ true ts))
theorem pts_weak {es : List Expr} {t t' : TT} (h : PTs X es t) (f : ∀ sv H Q, t' sv H Q → t sv H Q) : PTs X es t' := ⟨fun pins s σ H Q I q => h.run pins s σ H Q I (f σ H Q q)⟩
theorem spt_nil : SPT Z L P n κ W X .nil [] := pts_weak pts_nil fun sv H Q h => by
  obtain ⟨ρ, σ, M, sm, er, k, q⟩ := h
  exact go_ok (T := TId Bool) sm q rfl
theorem spt_one {t : MQ} {e : Expr} (h : SQ Z L P n κ W X t e) : SPT Z L P n κ W X (.cons t .nil) [e] := pts_weak (pts_one h) fun sv H Q h => by
  obtain ⟨ρ, σ, M, sm, er, k, q⟩ := h
  refine ⟨ρ, σ, M, sm, er, k, sub_go q ?_⟩
  show ((evT P (rt P n) κ t σ M).bind fun b M => if b = true then .ok true M else .ok b M) = _
  cases evT P (rt P n) κ t σ M with
  | ok b M1 => cases b <;> rfl
  | exc _ _ _ => rfl
  | bad => rfl
/-! ### the block's context -/
/-- the block, an exception's wish given -/
abbrev Xb (X : Cx) (s : Shared) (H : Hp) (scope : Scope) (ce : PySem.Env) (fp : List Addr) (xe : Value → Shared → Prop) : Cx := (X.blk s H scope ce fp).wish xe
theorem blk_ok {scope : Scope} {ce : PySem.Env} {fp : List Addr} {use : Option (Value → Sem Unit)} {Qf : Value → Shared → Prop} {acc : Value} {pins : List (Addr × Obj)} {sv : St} {H3 : Hp} {s3 : Shared} (O : XOk Z L P G n X W)
    (I3 : Inv X pins sv H3 s3) (hfp : ∀ b ∈ fp, FpOk X pins H3 b) (cL : ce.locals = s3.heap.objs.size) (cF : ce.frame = X.env.frame) :
    XOk Z L P G n (Xb X s3 H3 scope ce fp (notedBy (model X.prog X.w) X.A ce fun e t => CompP (model X.prog X.w) X.A X.xe use Qf acc ce (.error e) t)) (fun c d _ H => W c d sv H) := by
  refine ⟨O.prog, O.w, O.mg, O.base, O.K, O.calm, O.nd, fun u s' x => XA.out O.tk O.stk I3 hfp cL cF x, ?_, O.room, fun p' sv' H' s' Ib => ?_, O.wok⟩
  · obtain ⟨e0, o0, l, h1, h2, h3⟩ := O.stk
    exact ⟨e0, o0, l, h1, h2, cF.trans h3⟩
  · have Ib := Inv.unwish Ib
    exact O.una pins sv H' s' (I3.call' (ch := fp) Ib.os Ib.base Ib.hok Ib.bare fun b hb => ⟨(hfp b hb).2.2.2.1, (hfp b hb).2.1, (hfp b hb).2.2.2.2.1, (hfp b hb).2.2.2.2.2⟩)
abbrev lObj (its : List Value) (k : Nat) : Obj := { cls := .type "list", data := .seq its.toArray k }
/-- what the block's parts must do -/
structure BlkS (Z : Wo) (L : XLay) (P : Prg) (G : GTab) (n : Nat) (κ : List (Nat × CloD)) (W : WX) (X : Cx) (scope : Scope) (tg : Expr) (ifs : List Expr) (elt : Expr) (mt : MT) (mifs : MQs) (me : ME) (own : List Nat) : Prop where
  tg : ∀ (s : Shared) (H : Hp) (cl : List (Str × Addr)) (c : Addr) (fp : List Addr) (xe : Value → Shared → Prop) (sv : St), XOk Z L P G n (Xb X s H scope (compEnvC scope cl c X.env) fp xe) (fun c d _ H => W c d sv H) →
    PG (Xb X s H scope (compEnvC scope cl c X.env) fp xe) tg (tG Z L P n κ (fun sv' => wipe sv' own = wipe sv own) mt)
  ts : ∀ (s : Shared) (H : Hp) (cl : List (Str × Addr)) (c : Addr) (fp : List Addr) (xe : Value → Shared → Prop) (sv : St), XOk Z L P G n (Xb X s H scope (compEnvC scope cl c X.env) fp xe) (fun c d _ H => W c d sv H) →
    SPT Z L P n κ (fun c d _ H => W c d sv H) (Xb X s H scope (compEnvC scope cl c X.env) fp xe) mifs ifs
  el : ∀ (s : Shared) (H : Hp) (cl : List (Str × Addr)) (c : Addr) (fp : List Addr) (xe : Value → Shared → Prop) (sv : St), XOk Z L P G n (Xb X s H scope (compEnvC scope cl c X.env) fp xe) (fun c d _ H => W c d sv H) →
    SE Z L P n κ (fun c d _ H => W c d sv H) (Xb X s H scope (compEnvC scope cl c X.env) fp xe) me elt
theorem go_Wb {α β : Type} {T : List Addr → Hp → α → β → Prop} {ρ : List Addr} {H : Hp} {sv sv' : St} {r : Res α} {Q : β → Hp → Prop} (h : Go L T W ρ H sv r Q) : Go L T (fun c d _ H => W c d sv H) ρ H sv' r Q := by
  cases r with
  | ok a M => exact h
  | exc c x M => exact h
  | bad => exact h
theorem go_Wu {α β : Type} {T : List Addr → Hp → α → β → Prop} {ρ : List Addr} {H : Hp} {sv sv' : St} {r : Res α} {Q : β → Hp → Prop} (h : Go L T (fun c d _ H => W c d sv H) ρ H sv' r Q) : Go L T W ρ H sv r Q := by
  cases r with
  | ok a M => exact h
  | exc c x M => exact h
  | bad => exact h
/-- a turn -/
def turnD (P : Prg) (R : Rt) (κ : List (Nat × CloD)) (me : ME) (mt : MT) (mifs : MQs) (own : List Nat) (σ : Env) : D → Hm → Res (Option D) := fun d M => (asg P R κ mt d (wipeE σ own) M).use fun σ' M => (evTB P R κ true mifs σ' M).bind fun b M =>
  if b then (ev P R κ me σ' M).bind fun y M => .ok (some y) M else .ok none M
theorem lcx_core {pins : List (Addr × Obj)} {s : Shared} {sv : St} {H : Hp} {Q : VK} {elt tg iter : Expr} {ifs : List Expr} {scope : Scope} {own : List (Str × Nat)} {pos pos' : Pos} {use : Option (Value → Sem Unit)} {Qf : Value → Shared → Prop}
    {me : ME} {mt : MT} {mi : MI} {mifs : MQs} {h : Bool} (O : XOk Z L P G n X W) (I : Inv X pins sv H s) (hi : SI Z L P n κ W X tg mi iter) (ok : BlkOk X.N X.env.scope scope own) (bs : BlkS Z L P G n κ W X scope tg ifs elt mt mifs me (own.map (·.2)))
    (hs : ∀ x, foldedSetIterable iter X.env x = pure x) (hr : tK Z L P Z.ent (TD L) n κ W (ev P (rt P n) κ (.lc h me mt mi mifs (own.map (·.2)))) sv H Q)
    (hRR : ∀ dL ce s' m H', Inv X pins sv H' s' → Q (.ref dL) H' → s'.heap.Ns ce.locals m → FpOk X pins H' ce.locals → CompP (model X.prog X.w) X.A X.xe use Qf (.ref dL) ce (.ok .next) s') :
    wpAny (model X.prog X.w) X.A (comprehension (.ListComp elt [⟨tg, iter, ifs, 0⟩] scope pos) scope X.env pos' (newList []) false (eval iter X.env) use) Qf X.xe s := by
  have hfree : ∀ y ∈ scope.names, y.2 = .free → ∃ c, X.env.cells.lookup y.1 = some c := fun y hy e => (ok.free y hy e).elim (fun k => I.ok.has _ (.inl k)) fun k => I.ok.has _ (.inr k)
  obtain ⟨ρ, σ, M, sm, er, kr, q⟩ := hr
  have q : Go L (TD L) W ρ H sv ((evI P (rt P n) κ mi σ M).bind fun src M => (lift (src.len M) M).bind fun k M =>
      if szOk k && (own.map (·.2)).all (free κ) then (compGo src (turnD P (rt P n) κ me mt mifs (own.map (·.2)) σ) k 0 M).bind fun ds M => mkl h ds M else .bad) Q := q
  refine compr_free (use := use) rfl hs (closure_ok hfree) ok.kind (fun y hy e => by rw [ok.uniq y hy, e])
    (thn (hi.run pins s sv H _ I (go_bind sm er kr q)) fun xv s1 hx => thn hx fun itv s2 h2 => ?_)
  obtain ⟨it, fp, tn, J, H2, e, I2, T, st2, f2, ρ2, M2, src, m2, sm2, er2, kr2, itr, q2⟩ := h2
  subst e
  obtain ⟨k0, ek, q2⟩ := go_lift q2
  obtain ⟨cnd, q2⟩ := go_if q2
  rw [Bool.and_eq_true] at cnd
  have k0z : k0 ≤ 16777216 := of_decide_eq_true cnd.1
  refine wpAny_newObj_type (newEnv_comp ?_) (by show 0 ≤ sizeLine; decide)
  generalize hD : s2.heap.objs.size = dL
  generalize hs3 : ({ s2 with heap := s2.heap.push { cls := .type "list", data := .seq ([] : List Value).toArray } } : Shared) = s3
  have h3 : s3.heap = s2.heap.push { cls := .type "list", data := .seq ([] : List Value).toArray } := by rw [← hs3]
  have I3 : Inv X pins sv H2 s3 := by
    rw [← hs3]
    exact I2.kept (t' := s2.toks) fun b o e => Heap.get?_push_of_some _ e
  have D3 : s3.heap.get? dL = some (lObj [] 0) := by
    rw [h3, ← hD]
    exact Heap.get?_push_size _ rfl
  have sz : ∀ b ∈ fp, b < s2.heap.objs.size := fun b hb => by
    obtain ⟨o, e, _⟩ := T.obj _ _ st2 b hb
    exact Heap.lt_size e
  have Dn : ∀ b ∈ fp, b ≠ dL := fun b hb => by
    rw [← hD]
    exact Nat.ne_of_lt (sz b hb)
  have fD : FpOk X pins H2 dL := I2.fpOk (Nat.le_of_eq hD) (I2.hok.fresh (Nat.le_of_eq hD))
  have f3 : ∀ b ∈ dL :: fp, FpOk X pins H2 b ∧ b < s3.heap.objs.size := fun b hb => by
    rcases List.mem_cons.mp hb with e | hb
    · subst e
      exact ⟨fD, by rw [h3, Heap.size_push, hD]; exact Nat.lt_succ_self _⟩
    · exact ⟨f2 b hb, by rw [h3, Heap.size_push]; exact Nat.lt_succ_of_lt (sz b hb)⟩
  have st3 : tn 0 s3.heap := T.keep _ _ _ st2 fun b _ o e => by rw [h3]; exact Heap.get?_push_of_some _ e
  have I4 := block_start I3 ok O.nd f3
  have cL : (compEnvC scope (cellsFrom (s3.heap.objs.size + 1) scope.names (cloFrom X.env.cells scope.names [])) s3.heap.objs.size X.env).locals = s3.heap.objs.size := rfl
  have cF : (compEnvC scope (cellsFrom (s3.heap.objs.size + 1) scope.names (cloFrom X.env.cells scope.names [])) s3.heap.objs.size X.env).frame = X.env.frame := rfl
  have OB := blk_ok (use := use) (Qf := Qf) (acc := .ref dL) (scope := scope) O I3 (fun b hb => (f3 b hb).1) cL cF
  have pg := bs.tg _ _ _ _ _ _ _ OB
  have pt := bs.ts _ _ _ _ _ _ _ OB
  have pe := bs.el _ _ _ _ _ _ _ OB
  show codeAny _ _ (.compStart (.ListComp elt [⟨tg, iter, ifs, 0⟩] scope pos) 0 (.ref it) (.ref dL) (compEnvC scope (cellsFrom (s3.heap.objs.size + 1) scope.names (cloFrom X.env.cells scope.names [])) s3.heap.objs.size X.env))
    (CompP (model X.prog X.w) X.A X.xe use Qf (.ref dL) (compEnvC scope (cellsFrom (s3.heap.objs.size + 1) scope.names (cloFrom X.env.cells scope.names [])) s3.heap.objs.size X.env)) { s3 with heap := pushCells (s3.heap.push { cls := .type "dict", data := .dict #[] }) scope.names }
  generalize hce : compEnvC scope (cellsFrom (s3.heap.objs.size + 1) scope.names (cloFrom X.env.cells scope.names [])) s3.heap.objs.size X.env = ce at I4 OB pg pt pe cL cF ⊢
  generalize hs4 : ({ s3 with heap := pushCells (s3.heap.push { cls := .type "dict", data := .dict #[] }) scope.names } : Shared) = s4 at I4 ⊢
  have k34 : ∀ b o, s3.heap.get? b = some o → s4.heap.get? b = some o := fun b o e => by
    rw [← hs4]
    exact pushCells_keeps _ _ _ _ (Heap.get?_push_of_some _ e)
  have st4 : tn 0 s4.heap := T.keep _ _ _ st3 fun b _ o e => k34 b o e
  generalize hxe : (notedBy (model X.prog X.w) X.A ce fun e t => CompP (model X.prog X.w) X.A X.xe use Qf (.ref dL) ce (.error e) t) = xe at OB pg pt pe
  have I4 : Inv (Xb X s3 H2 scope ce (dL :: fp) xe) [] (wipe sv (own.map (·.2))) H2 s4 := Inv.wish I4 xe
  have exf : ∀ {pp : List (Addr × Obj)} {sv' : St} {H' : Hp} {s' : Shared}, Inv (Xb X s3 H2 scope ce (dL :: fp) xe) pp sv' H' s' → ∀ b ∈ dL :: fp, H' b = none → (∀ p ∈ pp, p.1 ≠ b) → FpOk (Xb X s3 H2 scope ce (dL :: fp) xe) pp H' b := fun {pp sv' H' s'} I' b hb hn hp =>
    ⟨hn, (I'.ok.exf b hb).1, I'.ok.exfs b hb, .inl hb, fun x c e => (I'.ok.exf b hb).2 x c e, fun p hpp => hp p hpp⟩
  -- the new list, held as it stands
  have pinD : ∀ {its : List Value} {kk : Nat} {sv' : St} {H' : Hp} {s' : Shared} {pp : List (Addr × Obj)}, Inv (Xb X s3 H2 scope ce (dL :: fp) xe) pp sv' H' s' → H' dL = none → s'.heap.get? dL = some (lObj its kk) → (∀ p ∈ pp, p.1 ≠ dL) → Inv (Xb X s3 H2 scope ce (dL :: fp) xe) [(dL, lObj its kk)] sv' H' s' :=
    fun {its kk sv' H' s' pp} I' hn hg _ => I'.pins_of fun p hp => by
      rw [List.mem_singleton] at hp
      subst hp
      exact ⟨hg, hn, (I'.ok.exf dL List.mem_cons_self).1, I'.ok.exfs dL List.mem_cons_self, fun v z => by cases z⟩
  have loop : codeAny (model X.prog X.w) X.A (.compLoop (.ListComp elt [⟨tg, iter, ifs, 0⟩] scope pos) 0 (.ref it) (.ref dL) ce) (CompP (model X.prog X.w) X.A X.xe use Qf (.ref dL) ce) s4 := by
    refine compLoop_any (fun k s' => ∃ i H' ρ' M' acc accV its kk, Inv (Xb X s3 H2 scope ce (dL :: fp) xe) [(dL, lObj its kk)] (wipe sv (own.map (·.2))) H' s' ∧ tn i s'.heap ∧ (∀ b ∈ fp, H' b = none) ∧ Vals accV its ∧ RepL L.toLay ρ' H' acc accV ∧
      Mono ρ2 H2 ρ' H' ∧ Sim L.toLay ρ' H' M' ∧ acc.length + k ≤ 16777216 ∧ Go L (TD L) W ρ' H' sv ((compGo src (turnD P (rt P n) κ me mt mifs (own.map (·.2)) σ) k i M').bind fun ds M => mkl h (acc ++ ds) M) Q) ?_ k0
      ⟨0, H2, ρ2, M2, [], [], [], 0, pinD I4 fD.1 (k34 _ _ D3) (by simp), st4, fun b hb => (f2 b hb).1, .nil, rfl, Mono.refl, sm2, by simpa using k0z, q2⟩
    rintro k s5 ⟨i, H5, ρ5, M5, acc, accV, its, kk, I5, st5, n5, va, ra, m5, sm5, hz, q5⟩
    have stat5 : ∀ b ∈ fp, FpOk (Xb X s3 H2 scope ce (dL :: fp) xe) [(dL, lObj its kk)] H5 b := fun b hb => exf I5 b (List.mem_cons_of_mem _ hb) (n5 b hb) fun p hp => by
      rw [List.mem_singleton] at hp
      subst hp
      exact (Dn b hb).symm
    obtain ⟨itA, itZ⟩ := itr ρ5 H5 M5 m5 sm5 i
    have er5 := (m2.trans m5).env er
    have kr5 := kr.mono (m2.trans m5)
    cases k with
    | zero =>
      have q5 : Go L (TD L) W ρ5 H5 sv ((if src.len M5 = some i then Res.ok [] M5 else .bad).bind fun ds M => mkl h (acc ++ ds) M) Q := q5
      by_cases hl : src.len M5 = some i
      · rw [if_pos hl, Res.bind_ok, List.append_nil] at q5
        have td := T.done (Xb X s3 H2 scope ce (dL :: fp) xe) rfl rfl rfl O.calm i _ s5 _ H5 (fun _ _ => False) I5 stat5 st5 (itZ hl)
        refine thnF td fun r s6 ⟨hr, I6⟩ => ?_
        subst hr
        obtain ⟨D6, nD6, _⟩ := I6.pin (dL, lObj its kk) (by simp)
        have U6 := Inv.unwish I6
        have I7 : Inv X pins sv H5 s6 := I3.call' (ch := dL :: fp) U6.os U6.base U6.hok U6.bare fun b hb => ⟨(f3 b hb).1.2.2.2.1, (f3 b hb).1.2.1, (f3 b hb).1.2.2.2.2.1, (f3 b hb).1.2.2.2.2.2⟩
        have I8 : Inv X pins sv H5 { s6 with heap := PySem.W.hideAll s6.heap [dL], toks := s6.toks } := I7.turned (it := dL) (fun b o hb e => PySem.W.hideAll_get _ e (by simpa using hb)) nD6 fD.2.1 fD.2.2.2.1 fD.2.2.2.2.1 fD.2.2.2.2.2
        have hlen : accV.length ≤ sizeLine := by rw [ra.len, sizeLine_eq]; omega
        have I9 : Inv X pins sv (upd H5 dL (.lst accV)) s6 := I8.laidN (h' := s6.heap) (t' := s6.toks) (fun b o e => PySem.W.of_hideAll _ e) (PySem.W.hideAll_none _ (by simp)) nD6 ⟨hlen, its, kk, va, D6⟩
        have qq := go_mkl sm5 ra q5 dL nD6
        have nC : H5 ce.locals = none := I6.free
        have neC : ce.locals ≠ dL := by
          rw [cL, h3, Heap.size_push, hD]
          exact Nat.ne_of_gt (Nat.lt_succ_self _)
        obtain ⟨m, hn, _⟩ := I6.loc
        exact hRR dL ce s6 m _ I9 qq hn (I3.fpOk (Nat.le_of_eq cL.symm) (by rw [upd_ne neC]; exact nC))
      · rw [if_neg hl] at q5
        exact False.elim q5
    | succ k =>
      have q5 : Go L (TD L) W ρ5 H5 sv (((lift (src.at i M5) M5).bind fun d M => (turnD P (rt P n) κ me mt mifs (own.map (·.2)) σ d M).bind fun o M => (compGo src (turnD P (rt P n) κ me mt mifs (own.map (·.2)) σ) k (i + 1) M).bind fun r M => .ok (o.toList ++ r) M).bind fun ds M => mkl h (acc ++ ds) M) Q := q5
      simp only [Res.bind_assoc, Res.bind_ok] at q5
      obtain ⟨d, ed, q5⟩ := go_lift q5
      obtain ⟨go, yl⟩ := itA d ed
      have ti := T.item (Xb X s3 H2 scope ce (dL :: fp) xe) rfl rfl rfl O.calm i _ s5 _ H5 (fun _ _ => False) I5 stat5 st5 go
      refine thnF ti fun r s6 ⟨u, hr, h6⟩ => ?_
      subst hr
      refine thnF h6 fun _ s7 ⟨x, H7, I7, r7, y7, st7, n7⟩ => ?_
      obtain ⟨m7, sm7, rx⟩ := yl x H7 y7
      have I7' := I7.pinned (fun b hb => exf I7 b (List.mem_cons_of_mem _ hb) (n7 b hb) fun p hp => by
        rw [List.mem_singleton] at hp
        subst hp
        exact (Dn b hb).symm) (T.obj _ _ st7)
      -- the turn's end
      have fin : ∀ {sv' : St} {s' : Shared} {H' : Hp} {ρ' : List Addr} {M' : Hm} {acc' : List D} {accV' : List V} {its' : List Value} {kk' : Nat}, wipe sv' (own.map (·.2)) = wipe sv (own.map (·.2)) → Inv (Xb X s3 H2 scope ce (dL :: fp) xe) (pinsAt fp s7.heap) sv' H' s' → H' dL = none → s'.heap.get? dL = some (lObj its' kk') →
          Vals accV' its' → RepL L.toLay ρ' H' acc' accV' → Mono ρ2 H2 ρ' H' → Sim L.toLay ρ' H' M' → acc'.length + k ≤ 16777216 → Go L (TD L) W ρ' H' sv ((compGo src (turnD P (rt P n) κ me mt mifs (own.map (·.2)) σ) k (i + 1) M').bind fun ds M => mkl h (acc' ++ ds) M) Q →
          ∃ m, m < k + 1 ∧ ∃ i H' ρ' M' acc accV its kk, Inv (Xb X s3 H2 scope ce (dL :: fp) xe) [(dL, lObj its kk)] (wipe sv (own.map (·.2))) H' s' ∧ tn i s'.heap ∧ (∀ b ∈ fp, H' b = none) ∧ Vals accV its ∧ RepL L.toLay ρ' H' acc accV ∧
            Mono ρ2 H2 ρ' H' ∧ Sim L.toLay ρ' H' M' ∧ acc.length + m ≤ 16777216 ∧ Go L (TD L) W ρ' H' sv ((compGo src (turnD P (rt P n) κ me mt mifs (own.map (·.2)) σ) m i M').bind fun ds M => mkl h (acc ++ ds) M) Q :=
        fun {sv' s' H' ρ' M' acc' accV' its' kk'} hw I' nD gD va' ra' m' sm' hz' q' => by
          have pin' : ∀ b ∈ fp, ∀ o, s7.heap.get? b = some o → s'.heap.get? b = some o ∧ H' b = none := fun b hb o e =>
            let z := I'.pin (b, o) (List.mem_append_right _ (mem_pinsAt hb e))
            ⟨z.1, z.2.1⟩
          have hl : (wipe sv (own.map (·.2))).length = sv'.length := by rw [← hw, wipe_length]
          have I2' : Inv (Xb X s3 H2 scope ce (dL :: fp) xe) (pinsAt fp s7.heap) (wipe sv (own.map (·.2))) H' s' := I'.weak hl fun j v e => by
            rw [← hw] at e
            exact (wipe_some e).1
          refine ⟨k, Nat.lt_succ_self _, i + 1, H', ρ', M', acc', accV', its', kk', pinD I2' nD gD fun p hp => ?_, T.keep _ _ _ st7 fun b hb o e => (pin' b hb o e).1, fun b hb => ?_, va', ra', m', sm', hz', q'⟩
          · exact Dn _ (of_pinsAt hp).1
          · obtain ⟨o, e, _⟩ := T.obj _ _ st7 b hb
            exact (pin' b hb o e).2
      have back : ∀ {sv' : St} {s' : Shared} {H' : Hp}, Inv (Xb X s3 H2 scope ce (dL :: fp) xe) ([(dL, lObj its kk)] ++ pinsAt fp s7.heap) sv' H' s' → Inv (Xb X s3 H2 scope ce (dL :: fp) xe) (pinsAt fp s7.heap) sv' H' s' ∧ H' dL = none ∧ s'.heap.get? dL = some (lObj its kk) := fun {sv' s' H'} I' => by
        obtain ⟨a1, a2, _⟩ := I'.pin (dL, lObj its kk) (by simp)
        exact ⟨I'.pins_of fun p hp => I'.pin p (List.mem_append_right _ (List.mem_append_right _ hp)), a2, a1⟩
      have toE : ∀ e s', xe e s' → notedBy (model X.prog X.w) X.A ce (fun e t => CompP (model X.prog X.w) X.A X.xe use Qf (.ref dL) ce (.error e) t) e s' := fun e s' z => by rw [hxe]; exact z
      cases ea : asg P (rt P n) κ mt d (wipeE σ (own.map (·.2))) M5 with
      | exc c y M' => simp only [turnD, ea] at q5; exact False.elim q5
      | bad => simp only [turnD, ea] at q5; exact False.elim q5
      | ok σ8 M8 =>
        simp only [turnD, ea, Res.use_ok] at q5
        have q7 := go_Wb (sv' := wipe sv (own.map (·.2))) (Go.mono q5 m7)
        refine wpAny_mono (pg.run _ s7 _ H7 x u (fun sv8 H8 => ∃ ρ8, Mono ρ5 H7 ρ8 H8 ∧ Sim L.toLay ρ8 H8 M8 ∧ EnvR L.toLay ρ8 H8 σ8 sv8 ∧ KR Z L P Z.ent n κ ρ8 H8 sv8 ∧ wipe sv8 (own.map (·.2)) = wipe sv (own.map (·.2))) I7' r7
          ⟨ρ5, _, M5, d, sm7, (m7.env er5).wipe _, (kr5.mono m7).wipe cnd.2, wipe_idem, rx, by rw [ea]; exact fun ρ8 H8 sv8 m8 sm8 t8 => ⟨ρ8, m8, sm8, t8.1, t8.2.1, t8.2.2⟩⟩) (fun _ s8 h8 => ?_) toE
        obtain ⟨sv8, H8, I8, ρ8, m8, sm8, er8, kr8, hw8⟩ := h8
        have q8 := go_Wb (W := fun c d _ H => W c d sv H) (sv' := sv8) (Go.mono q7 m8)
        simp only [Res.bind_assoc] at q8
        refine wpAny_mono (pt.run _ s8 sv8 H8 _ I8 (go_bind sm8 er8 kr8 q8)) (fun b s9 h9 => ?_) toE
        obtain ⟨H9, I9, ρ9, M9, b', m9, sm9, er9, kr9, eb, q9⟩ := h9
        have eb : b = b' := eb
        subst eb
        have m59 := (m5.trans m7).trans (m8.trans m9)
        cases b with
        | false =>
          simp only [Bool.false_eq_true, if_false, Res.bind_ok, Option.toList, List.nil_append] at q9 ⊢
          obtain ⟨B1, nD9, gD9⟩ := back I9
          exact fin hw8 B1 nD9 gD9 va ((m7.trans (m8.trans m9)).repL _ _ ra) m59 sm9 (by omega) (go_Wu (W := W) (sv' := sv8) q9)
        | true =>
          simp only [if_true, Res.bind_assoc, Res.bind_ok] at q9 ⊢
          refine wpAny_mono (pe.run _ s9 sv8 H9 _ I9 (go_bind sm9 er9 kr9 q9)) (fun z s10 h10 => ?_) toE
          obtain ⟨yv, H10, I10, r10, ρ10, M10, y, m10, sm10, er10, kr10, ry, q10⟩ := h10
          obtain ⟨B1, nD10, gD10⟩ := back I10
          have hlen := va.length
          have hl2 := ra.len
          refine PyProof.Rows.append_at (its := its.toArray) (n := kk) gD10 (fun h' sb ho' => ?_) (by rw [List.size_toArray, sizeLine_eq]; omega)
          have I11 : Inv (Xb X s3 H2 scope ce (dL :: fp) xe) (pinsAt fp s7.heap) sv8 H10 { s10 with heap := h', toks := s10.toks } := B1.turned (it := dL) (fun b o hb e => (sb.2 b hb).trans e) nD10 (B1.ok.exf dL List.mem_cons_self).1 (.inl List.mem_cons_self)
            (fun x c e => (B1.ok.exf dL List.mem_cons_self).2 x c e) (fun p hp => Dn _ (of_pinsAt hp).1)
          have m210 := m59.trans m10
          exact fin (acc' := acc ++ [y]) (accV' := accV ++ [yv]) (its' := its ++ [z]) (kk' := kk + 1) hw8 I11 nD10 (by rw [ho']; simp) (va.append (.cons r10 .nil)) (((m7.trans (m8.trans (m9.trans m10))).repL _ _ ra).append (RepL.mk1 ry)) m210 sm10
            (by rw [List.length_append, List.length_singleton]; omega) (by
              have := go_Wu (W := W) (sv' := sv8) q10
              simpa [List.append_assoc] using this)
  exact codeAny_compStart_list loop (T.self X.A 0 _ _ _ st4 loop)
end
end Mi

end
section
/-! M16: statements. -/
namespace Mi
open PySem L2
section
variable (Z : Wo) (L : XLay) (P : Prg) (n : Nat) (κ : List (Nat × CloD)) (W : WX)
/-- what a statement's result brings -/
def GoS (ρ : List Addr) (H : Hp) (r : SR) (D : Ends) : Prop := match r with
  | .nxt σ M => ∀ ρ' H' sv, Mono ρ H ρ' H' → Sim L.toLay ρ' H' M → EnvR L.toLay ρ' H' σ sv → KR Z L P Z.ent n κ ρ' H' sv → D.nx sv H'
  | .ret d M => ∀ ρ' H' v, Mono ρ H ρ' H' → Sim L.toLay ρ' H' M → Rep L.toLay ρ' H' d v → D.rt v H'
  | .brk σ M => ∀ ρ' H' sv, Mono ρ H ρ' H' → Sim L.toLay ρ' H' M → EnvR L.toLay ρ' H' σ sv → KR Z L P Z.ent n κ ρ' H' sv → D.bk sv H'
  | .cnt σ M => ∀ ρ' H' sv, Mono ρ H ρ' H' → Sim L.toLay ρ' H' M → EnvR L.toLay ρ' H' σ sv → KR Z L P Z.ent n κ ρ' H' sv → D.ct sv H'
  | .exc c x σ M => ∀ ρ' H' sv dd v, Mono ρ H ρ' H' → Sim L.toLay ρ' H' M → EnvR L.toLay ρ' H' σ sv → KR Z L P Z.ent n κ ρ' H' sv → Rep L.toLay ρ' H' x v → dd ∉ ρ' → H' dd = some (.xd [("place", v), ("name", .str (L.xn c))]) → W (.ref (L.xa c)) (some dd) sv H'
  | .bad => False
def tS (f : Env → Hm → SR) : TS := fun D sv H => ∃ ρ σ M, Sim L.toLay ρ H M ∧ EnvR L.toLay ρ H σ sv ∧ KR Z L P Z.ent n κ ρ H sv ∧ GoS Z L P n κ W ρ H (f σ M) D
abbrev SSt (X : Cx) (m : MS) (st : Stmt) : Prop := PS X st (tS Z L P n κ W (exec P (rt P n) κ m))
abbrev SSs (X : Cx) (ms : MSs) (st : List Stmt) : Prop := PSs X st (tS Z L P n κ W (execs P (rt P n) κ ms))
/-- a context of statements -/
structure XS (G : GTab) (X : Cx) : Prop where
  ok : XOk Z L P G n X W
  hp : PassesOwn (model X.prog X.w) X.A X.env X.xe
  hs : X.stack = X.env :: X.outer
  hf : X.env.frame = some X.env.locals
  ex : X.ex = []
end
section
variable {Z : Wo} {L : XLay} {P : Prg} {G : GTab} {n : Nat} {κ : List (Nat × CloD)} {W : WX} {X : Cx} {ρ ρ1 : List Addr} {H H1 : Hp} {σ : Env} {sv : St} {M : Hm} {r : SR} {De De' : Ends}
theorem GoS.mono (h : GoS Z L P n κ W ρ H r De) (m : Mono ρ H ρ1 H1) : GoS Z L P n κ W ρ1 H1 r De := by
  cases r with
  | nxt σ M => exact fun ρ' H' sv k => h ρ' H' sv (m.trans k)
  | ret d M => exact fun ρ' H' v k => h ρ' H' v (m.trans k)
  | brk σ M => exact fun ρ' H' sv k => h ρ' H' sv (m.trans k)
  | cnt σ M => exact fun ρ' H' sv k => h ρ' H' sv (m.trans k)
  | exc c x σ M => exact fun ρ' H' sv dd v k => h ρ' H' sv dd v (m.trans k)
  | bad => exact h
theorem GoS.imp (h : GoS Z L P n κ W ρ H r De) (h1 : ∀ sv H, De.nx sv H → De'.nx sv H) (h2 : ∀ v H, De.rt v H → De'.rt v H) (h3 : ∀ sv H, De.bk sv H → De'.bk sv H) (h4 : ∀ sv H, De.ct sv H → De'.ct sv H) : GoS Z L P n κ W ρ H r De' := by
  cases r with
  | nxt σ M => exact fun ρ' H' sv k a b c => h1 _ _ (h ρ' H' sv k a b c)
  | ret d M => exact fun ρ' H' v k a b => h2 _ _ (h ρ' H' v k a b)
  | brk σ M => exact fun ρ' H' sv k a b c => h3 _ _ (h ρ' H' sv k a b c)
  | cnt σ M => exact fun ρ' H' sv k a b c => h4 _ _ (h ρ' H' sv k a b c)
  | exc c x σ M => exact h
  | bad => exact h
/-- an expression in a statement -/
theorem go_st {α β : Type} {T : List Addr → Hp → α → β → Prop} {f : Env → Hm → Res α} {g : α → Hm → SR} (sm : Sim L.toLay ρ H M) (er : EnvR L.toLay ρ H σ sv) (k : KR Z L P Z.ent n κ ρ H sv) (h : GoS Z L P n κ W ρ H ((f σ M).st σ g) De) :
    tK Z L P Z.ent T n κ W f sv H (fun b H1 => ∃ ρ1 M1 a, Mono ρ H ρ1 H1 ∧ Sim L.toLay ρ1 H1 M1 ∧ EnvR L.toLay ρ1 H1 σ sv ∧ KR Z L P Z.ent n κ ρ1 H1 sv ∧ T ρ1 H1 a b ∧ GoS Z L P n κ W ρ1 H1 (g a M1) De) := by
  refine ⟨ρ, σ, M, sm, er, k, ?_⟩
  cases q : f σ M with
  | ok a M1 =>
    rw [q] at h
    exact fun ρ' H' b m s' t => ⟨ρ', M1, a, m, s', m.env er, k.mono m, t, GoS.mono h m⟩
  | exc c x M1 =>
    rw [q] at h
    exact fun ρ' H' dd v m s r nd e => h ρ' H' sv dd v m s (m.env er) (k.mono m) r nd e
  | bad =>
    rw [q] at h
    exact h
theorem ps_weak {st : Stmt} {t t' : TS} (h : PS X st t) (f : ∀ De sv H, t' De sv H → t De sv H) : PS X st t' := ⟨fun pins s σ H De I q => h.run pins s σ H De I (f De σ H q)⟩
theorem pss_weak {st : List Stmt} {t t' : TS} (h : PSs X st t) (f : ∀ De sv H, t' De sv H → t De sv H) : PSs X st t' := ⟨fun pins s σ H De I q => h.run pins s σ H De I (f De σ H q)⟩
theorem gos_nxt {σ' : Env} (sm : Sim L.toLay ρ H M) (er : EnvR L.toLay ρ H σ' sv) (k : KR Z L P Z.ent n κ ρ H sv) (h : GoS Z L P n κ W ρ H (.nxt σ' M) De) : De.nx sv H := h ρ H sv Mono.refl sm er k
/-! ### lists of statements -/
theorem ss_nil : SSs Z L P n κ W X .nil [] := pss_weak pss_nil fun De sv H h => by
  obtain ⟨ρ, σ, M, sm, er, k, q⟩ := h
  exact gos_nxt sm er k q
theorem ss_cons {m : MS} {ms : MSs} {st : Stmt} {sts : List Stmt} (h1 : SSt Z L P n κ W X m st) (h2 : SSs Z L P n κ W X ms sts) : SSs Z L P n κ W X (.cons m ms) (st :: sts) := pss_weak (pss_cons h1 h2) fun De sv H h => by
  obtain ⟨ρ, σ, M, sm, er, k, q⟩ := h
  refine ⟨ρ, σ, M, sm, er, k, ?_⟩
  have q : GoS Z L P n κ W ρ H ((exec P (rt P n) κ m σ M).andThen fun σ M => execs P (rt P n) κ ms σ M) De := q
  cases e : exec P (rt P n) κ m σ M with
  | nxt σ' M' =>
    rw [e] at q
    exact fun ρ' H' sv' mm s er' k' => ⟨ρ', σ', M', s, er', k', GoS.mono q mm⟩
  | ret d M' => rw [e] at q; exact q
  | brk σ' M' => rw [e] at q; exact q
  | cnt σ' M' => rw [e] at q; exact q
  | exc c x σ' M' => rw [e] at q; exact q
  | bad => rw [e] at q; exact q
/-! ### small ones -/
theorem ss_pas {pos : Pos} : SSt Z L P n κ W X .pas (.Pass pos) := ps_weak ps_pass fun De sv H h => by
  obtain ⟨ρ, σ, M, sm, er, k, q⟩ := h
  exact gos_nxt sm er k q
theorem ss_doc {x : Str} {j : Nat} {p p' : Pos} : SSt Z L P n κ W X .pas (.Expr (.Constant (.str x) j p) p') := ps_weak ps_doc fun De sv H h => by
  obtain ⟨ρ, σ, M, sm, er, k, q⟩ := h
  exact gos_nxt sm er k q
theorem ss_brk {pos : Pos} : SSt Z L P n κ W X .brk (.Break pos) := ps_weak ps_break fun De sv H h => by
  obtain ⟨ρ, σ, M, sm, er, k, q⟩ := h
  exact q ρ H sv Mono.refl sm er k
theorem ss_cnt {pos : Pos} : SSt Z L P n κ W X .cnt (.Continue pos) := ps_weak ps_continue fun De sv H h => by
  obtain ⟨ρ, σ, M, sm, er, k, q⟩ := h
  exact q ρ H sv Mono.refl sm er k
theorem ss_retn {pos : Pos} : SSt Z L P n κ W X .retn (.Return none pos) := ps_weak ps_retN fun De sv H h => by
  obtain ⟨ρ, σ, M, sm, er, k, q⟩ := h
  exact q ρ H .non Mono.refl sm rfl
theorem ss_ret {m : ME} {e : Expr} {pos : Pos} (h : SE Z L P n κ W X m e) : SSt Z L P n κ W X (.ret m) (.Return (some e) pos) := ps_weak (ps_ret h) fun De sv H h => by
  obtain ⟨ρ, σ, M, sm, er, k, q⟩ := h
  refine tK.mono (go_st sm er k q) fun x H1 ⟨ρ1, M1, a, m1, s1, e1, k1, rx, q1⟩ => ?_
  exact q1 ρ1 H1 x Mono.refl s1 rx
/-- no comprehension: nothing is swapped -/
def noComp : Expr → Bool
  | .ListComp _ _ _ _ => false
  | .SetComp _ _ _ _ => false
  | .DictComp _ _ _ _ _ => false
  | _ => true
theorem swaps_of {e : Expr} {t : Option Expr} {l : Nat} {env : PySem.Env} (h : noComp e = true) : swapsWith e t l env = pure false := by
  cases e <;> first | rfl | cases h
theorem ss_expr {m : ME} {e : Expr} {pos : Pos} (h : SE Z L P n κ W X m e) (hc : noComp e = true) : SSt Z L P n κ W X (.expr m) (.Expr e pos) := ps_weak (ps_expr h (swaps_of hc)) fun De sv H h => by
  obtain ⟨ρ, σ, M, sm, er, k, q⟩ := h
  refine tK.mono (go_st sm er k q) fun x H1 ⟨ρ1, M1, a, m1, s1, e1, k1, rx, q1⟩ => ?_
  exact gos_nxt s1 e1 k1 q1
/-! ### if -/
theorem ss_if {t : MQ} {a b : MSs} {e : Expr} {as bs : List Stmt} {pos : Pos} (ht : SQ Z L P n κ W X t e) (ha : SSs Z L P n κ W X a as) (hb : SSs Z L P n κ W X b bs) : SSt Z L P n κ W X (.ife t a b) (.If e as bs pos) := ps_weak (ps_if ht ha hb) fun De sv H h => by
  obtain ⟨ρ, σ, M, sm, er, k, q⟩ := h
  refine tK.mono (go_st sm er k q) fun c H1 ⟨ρ1, M1, a, m1, s1, e1, k1, rx, q1⟩ => ?_
  have rx : c = a := rx
  subst rx
  cases c with
  | true => exact ⟨ρ1, σ, M1, s1, e1, k1, q1⟩
  | false => exact ⟨ρ1, σ, M1, s1, e1, k1, q1⟩
/-! ### stores -/
theorem put_ok {t : MT} {d : D} {x : V} {g : Env → Hm → SR} (sm : Sim L.toLay ρ H M) (er : EnvR L.toLay ρ H σ sv) (k : KR Z L P Z.ent n κ ρ H sv) (rd : Rep L.toLay ρ H d x) (h : GoS Z L P n κ W ρ H ((asg P (rt P n) κ t d σ M).put g) De) :
    tG Z L P n κ (fun _ => True) t x sv H (fun sv' H1 => ∃ ρ1 M1 σ1, Mono ρ H ρ1 H1 ∧ Sim L.toLay ρ1 H1 M1 ∧ EnvR L.toLay ρ1 H1 σ1 sv' ∧ KR Z L P Z.ent n κ ρ1 H1 sv' ∧ GoS Z L P n κ W ρ1 H1 (g σ1 M1) De) := by
  refine ⟨ρ, σ, M, d, sm, er, k, trivial, rd, ?_⟩
  cases e : asg P (rt P n) κ t d σ M with
  | ok σ1 M1 =>
    rw [e] at h
    exact fun ρ1 H1 sv' m s t => ⟨ρ1, M1, σ1, m, s, t.1, t.2.1, GoS.mono h m⟩
  | exc c x M1 => rw [e] at h; exact False.elim h
  | bad => rw [e] at h; exact False.elim h
theorem ss_asg {t : MT} {m : ME} {tg e : Expr} {pos : Pos} (he : SE Z L P n κ W X m e) (hg : PG X tg (tG Z L P n κ (fun _ => True) t)) (hs : noStar [tg] = true) (h1 : swapsWithSole [tg] e pos.line X.env = pure false) (h2 : swappedStores [tg] e X.env = pure none) :
    SSt Z L P n κ W X (.asg t m) (.Assign [tg] e pos) := ps_weak (ps_asg he hg h1 h2 (by rw [asg_cons hs]; rfl)) fun De sv H h => by
  obtain ⟨ρ, σ, M, sm, er, k, q⟩ := h
  refine tK.mono (go_st sm er k q) fun x H1 ⟨ρ1, M1, a, m1, s1, e1, k1, rx, q1⟩ => ?_
  obtain ⟨ρ2, σ2, M2, d2, a1, a2, a3, a4, a5, a6⟩ := put_ok s1 e1 k1 rx q1
  refine ⟨ρ2, σ2, M2, d2, a1, a2, a3, a4, a5, a6.imp fun sv' H2 ⟨ρ3, M3, σ3, m3, s3, e3, k3, q3⟩ => gos_nxt s3 e3 k3 q3⟩
theorem ss_nm {i : Nat} {x : Str} {m : ME} {e : Expr} {pos pos' : Pos} (O : XOk Z L P G n X W) (he : SE Z L P n κ W X m e) (hi : X.N[i]? = some x) (hx : Loc X.env.scope x) (hf : X.fn x = true ∨ X.env.scope.names.lookup x = some .local) (hc : noComp e = true) :
    SSt Z L P n κ W X (.asg (.nm i) m) (.Assign [.Name x pos'] e pos) := ps_weak (ps_set O.nd hi hx he (swaps_of hc) hf) fun De sv H h => by
  obtain ⟨ρ, σ, M, sm, er, k, q⟩ := h
  refine tK.mono (go_st sm er k q) fun y H1 ⟨ρ1, M1, a, m1, s1, e1, k1, rx, q1⟩ => ?_
  have q1 : GoS Z L P n κ W ρ1 H1 ((if free κ i then (.ok (σ.set i (some a)) M1 : Res Env) else .bad).put fun σ M => .nxt σ M) De := q1
  by_cases c : free κ i = true
  · rw [if_pos c, Res.put_ok] at q1
    exact gos_nxt s1 (e1.set i rx) (k1.set c) q1
  · rw [if_neg c] at q1
    exact False.elim q1
end
end Mi

end
section
/-! M17: loops. -/
namespace Mi
open PySem L2
section
variable {Z : Wo} {L : XLay} {P : Prg} {G : GTab} {n : Nat} {κ : List (Nat × CloD)} {W : WX} {X : Cx} {ρ ρ1 : List Addr} {H H1 : Hp} {σ : Env} {sv : St} {M : Hm} {r : SR} {De De' : Ends}
/-- a turn's end, in a loop -/
def loopR (next : Env → Hm → SR) (r : SR) : SR := match r with
  | .nxt σ M => next σ M
  | .cnt σ M => next σ M
  | .brk σ M => .nxt σ M
  | r => r
theorem go_loop {next : Env → Hm → SR} {N : St → Hp → Prop} (h : GoS Z L P n κ W ρ H (loopR next r) De) (hN : ∀ ρ' H' σ' sv' M', Mono ρ H ρ' H' → Sim L.toLay ρ' H' M' → EnvR L.toLay ρ' H' σ' sv' → KR Z L P Z.ent n κ ρ' H' sv' → GoS Z L P n κ W ρ' H' (next σ' M') De → N sv' H') :
    GoS Z L P n κ W ρ H r { De with nx := N, ct := N, bk := De.nx } := by
  cases r with
  | nxt σ' M' =>
    have h : GoS Z L P n κ W ρ H (next σ' M') De := h
    exact fun ρ' H' sv' m s e k => hN ρ' H' σ' sv' M' m s e k (GoS.mono h m)
  | cnt σ' M' =>
    have h : GoS Z L P n κ W ρ H (next σ' M') De := h
    exact fun ρ' H' sv' m s e k => hN ρ' H' σ' sv' M' m s e k (GoS.mono h m)
  | brk σ' M' => exact h
  | ret d M' => exact h
  | exc c x σ' M' => exact h
  | bad => exact h
theorem whl_eq {test : Env → Hm → Res Bool} {turn : Env → Hm → SR} {k : Nat} : whlGo test turn (k + 1) σ M = (test σ M).st σ fun b M => if b then loopR (whlGo test turn k) (turn σ M) else .nxt σ M := rfl
theorem for_eq {s : Src} {turn : D → Env → Hm → SR} {k i : Nat} {d : D} (e : s.at i M = some d) : forGo s turn (k + 1) i σ M = loopR (forGo s turn k (i + 1)) (turn d σ M) := by
  rw [forGo, e]
  rfl
theorem ss_whl {t : MQ} {b : MSs} {e : Expr} {bs : List Stmt} {pos : Pos} (S : XS Z L P n W G X) (ht : SQ Z L P n κ W X t e) (hb : SSs Z L P n κ W X b bs) : SSt Z L P n κ W X (.whl t b) (.While e bs [] pos) := ps_weak (ps_while S.hp ht hb) fun De sv H h => by
  obtain ⟨ρ, σ, M, sm, er, k, q⟩ := h
  refine ⟨fun m sv' H' => ∃ ρ' σ' M', Sim L.toLay ρ' H' M' ∧ EnvR L.toLay ρ' H' σ' sv' ∧ KR Z L P Z.ent n κ ρ' H' sv' ∧ GoS Z L P n κ W ρ' H' (whlGo (evT P (rt P n) κ t) (execs P (rt P n) κ b) m σ' M') De, ⟨P.fuel, ρ, σ, M, sm, er, k, q⟩, ?_⟩
  rintro m sv1 H1 ⟨ρ1, σ1, M1, s1, e1, k1, q1⟩
  cases m with
  | zero => exact False.elim q1
  | succ m =>
    rw [whl_eq] at q1
    refine tK.mono (go_st s1 e1 k1 q1) fun c H2 ⟨ρ2, M2, a, m2, s2, e2, k2, rc, q2⟩ => ?_
    have rc : c = a := rc
    subst rc
    cases c with
    | false => exact gos_nxt s2 e2 k2 q2
    | true =>
      refine ⟨fun sv' H' => ∃ ρ' σ' M', Sim L.toLay ρ' H' M' ∧ EnvR L.toLay ρ' H' σ' sv' ∧ KR Z L P Z.ent n κ ρ' H' sv' ∧ GoS Z L P n κ W ρ' H' (whlGo (evT P (rt P n) κ t) (execs P (rt P n) κ b) m σ' M') De, fun sv' H' h => ⟨m, Nat.lt_succ_self _, h⟩, ρ2, σ1, M2, s2, e2, k2, ?_⟩
      exact go_loop q2 fun ρ' H' σ' sv' M' m' s' e' k' q' => ⟨ρ', σ', M', s', e', k', q'⟩
theorem ss_for {t : MT} {it : MI} {b : MSs} {tg e : Expr} {bs : List Stmt} {pos : Pos} (S : XS Z L P n W G X) (hi : SI Z L P n κ W X tg it e) (hg : PG X tg (tG Z L P n κ (fun _ => True) t)) (hb : SSs Z L P n κ W X b bs) (hs : ∀ x, foldedSetIterable e X.env x = pure x) :
    SSt Z L P n κ W X (.fr t it b) (.For tg e bs [] pos) := ps_weak (ps_for S.hp S.ok.calm hi hg hb hs) fun De sv H h => by
  obtain ⟨ρ, σ, M, sm, er, k, q⟩ := h
  refine tK.mono (go_st sm er k q) fun J H1 ⟨ρ1, M1, src, m1, s1, e1, k1, itr, q1⟩ => ?_
  cases el : src.len M1 with
  | none => simp only [el] at q1; exact False.elim q1
  | some k0 =>
    simp only [el] at q1
    refine ⟨fun i m sv' H' => ∃ ρ' σ' M', Mono ρ1 H1 ρ' H' ∧ Sim L.toLay ρ' H' M' ∧ EnvR L.toLay ρ' H' σ' sv' ∧ KR Z L P Z.ent n κ ρ' H' sv' ∧ GoS Z L P n κ W ρ' H' (forGo src (fun d σ M => (asg P (rt P n) κ t d σ M).put fun σ M => execs P (rt P n) κ b σ M) m i σ' M') De,
      ⟨k0, ρ1, σ, M1, Mono.refl, s1, e1, k1, q1⟩, ?_⟩
    rintro i m sv2 H2 ⟨ρ2, σ2, M2, m2, s2, e2, k2, q2⟩
    obtain ⟨itA, itZ⟩ := itr ρ2 H2 M2 m2 s2 i
    cases m with
    | zero =>
      have q2 : GoS Z L P n κ W ρ2 H2 (if src.len M2 = some i then .nxt σ2 M2 else .bad) De := q2
      by_cases hl : src.len M2 = some i
      · rw [if_pos hl] at q2
        exact .inl ⟨itZ hl, gos_nxt s2 e2 k2 q2⟩
      · rw [if_neg hl] at q2
        exact False.elim q2
    | succ m =>
      cases ed : src.at i M2 with
      | none =>
        rw [forGo, ed] at q2
        exact False.elim q2
      | some d =>
        rw [for_eq ed] at q2
        obtain ⟨go, yl⟩ := itA d ed
        refine .inr ⟨go, fun sv' H' => ∃ ρ' σ' M', Mono ρ1 H1 ρ' H' ∧ Sim L.toLay ρ' H' M' ∧ EnvR L.toLay ρ' H' σ' sv' ∧ KR Z L P Z.ent n κ ρ' H' sv' ∧ GoS Z L P n κ W ρ' H' (forGo src (fun d σ M => (asg P (rt P n) κ t d σ M).put fun σ M => execs P (rt P n) κ b σ M) m (i + 1) σ' M') De,
          fun sv' H' h => ⟨m, Nat.lt_succ_self _, h⟩, fun x H3 y3 => ?_⟩
        obtain ⟨m3, s3, rx⟩ := yl x H3 y3
        cases ea : asg P (rt P n) κ t d σ2 M2 with
        | exc c y M' => rw [ea] at q2; exact False.elim q2
        | bad => rw [ea] at q2; exact False.elim q2
        | ok σ4 M4 =>
          rw [ea, Res.put_ok] at q2
          refine ⟨ρ2, σ2, M2, d, s3, m3.env e2, k2.mono m3, trivial, rx, ?_⟩
          rw [ea]
          refine fun ρ4 H4 sv4 m4 s4 t4 => ⟨ρ4, σ4, M4, s4, t4.1, t4.2.1, ?_⟩
          exact go_loop (GoS.mono q2 (m3.trans m4)) fun ρ' H' σ' sv' M' m' s' e' k' q' => ⟨ρ', σ', M', ((m2.trans m3).trans m4).trans m', s', e', k', q'⟩
/-! ### comprehensions -/
theorem se_lc {elt tg iter : Expr} {ifs : List Expr} {scope : Scope} {own : List (Str × Nat)} {pos : Pos} {me : ME} {mt : MT} {mi : MI} {mifs : MQs} {h : Bool} (O : XOk Z L P G n X W) (hi : SI Z L P n κ W X tg mi iter) (ok : BlkOk X.N X.env.scope scope own)
    (bs : BlkS Z L P G n κ W X scope tg ifs elt mt mifs me (own.map (·.2))) (hs : ∀ x, foldedSetIterable iter X.env x = pure x) : SE Z L P n κ W X (.lc h me mt mi mifs (own.map (·.2))) (.ListComp elt [⟨tg, iter, ifs, 0⟩] scope pos) := by
  refine ⟨fun pins s sv H Q I hr => ?_⟩
  rw [eval_ListComp]
  refine lcx_core O I hi ok bs hs hr fun dl ce s' m H' I' q hn f => ⟨m, hn, fun h'' sb => ?_⟩
  obtain ⟨f0, f1, f2, f3, f4, f5⟩ := f
  exact ⟨.ref dl, H', I'.turned (t' := s'.toks) (fun b o hb e => (sb.2 b hb).trans e) f0 f1 f3 f4 f5, rfl, q⟩
/-- name = [..] on one line, the name a local -/
theorem ss_setlc {i : Nat} {y : Str} {py spos : Pos} {elt tg iter : Expr} {ifs : List Expr} {scope : Scope} {own : List (Str × Nat)} {pos : Pos} {me : ME} {mt : MT} {mi : MI} {mifs : MQs} {h : Bool} (O : XOk Z L P G n X W) (hy : X.N[i]? = some y) (hyl : X.env.scope.names.lookup y = some .local)
    (hsw : swapsWith (.ListComp elt [⟨tg, iter, ifs, 0⟩] scope pos) (some (.Name y py)) spos.line X.env = pure true) (hi : SI Z L P n κ W X tg mi iter) (ok : BlkOk X.N X.env.scope scope own)
    (bs : BlkS Z L P G n κ W X scope tg ifs elt mt mifs me (own.map (·.2))) (hs : ∀ x, foldedSetIterable iter X.env x = pure x) :
    SSt Z L P n κ W X (.asg (.nm i) (.lc h me mt mi mifs (own.map (·.2)))) (.Assign [.Name y py] (.ListComp elt [⟨tg, iter, ifs, 0⟩] scope pos) spos) := by
  refine ⟨fun pins s sv H De I hr => ?_⟩
  obtain ⟨ρ, σ, M, sm, er, k, q⟩ := hr
  rw [exec_Assign_Name_used _ _ _ _ hsw]
  refine wpAny_bind (wpAny_standAt (wpAny_bind ?_))
  show wpAny _ X.A (do let _ ← comprehension (.ListComp elt [⟨tg, iter, ifs, 0⟩] scope pos) scope X.env (firstIterPos [⟨tg, iter, ifs, 0⟩] pos) (newList []) false (eval iter X.env) (some (assign (.Name y py) X.env))) _ _ s
  have hr := go_st (T := TD L) sm er k q
  refine wpAny_bind (thn (lcx_core (Qf := fun _ s' => SP X pins De .next s') O I hi ok bs hs hr fun dl ce s' m H' I' q' hn f => ?_) fun _ s' hq => wpAny_pure (wpAny_pure hq))
  show wpAny _ _ (assign (.Name y py) X.env (.ref dl)) _ _ _
  refine wpAny_assign_Name (store_ok2 (v := V.ref dl) I' O.nd hy (.inl hyl) rfl (fun s2 I2 ⟨a, sb, ha⟩ => ?_) (.inr hyl))
  obtain ⟨f0, f1, f2, f3, f4, f5⟩ := f
  have haC : ce.locals ≠ a := by
    rcases ha with z | z
    · rw [z]; exact f1
    · exact fun e => f4 y a z e.symm
  refine ⟨m, hn.sameBut sb haC, fun h3 sb3 => ?_⟩
  refine ⟨_, H', I2.turned (t' := s2.toks) (fun b o hb e => (sb3.2 b hb).trans e) f0 f1 f3 f4 f5, ?_⟩
  obtain ⟨ρ1, M1, d, m1, s1, e1, k1, rd, q1⟩ := q'
  have q1 : GoS Z L P n κ W ρ1 H' ((if free κ i then (.ok (σ.set i (some d)) M1 : Res Env) else .bad).put fun σ M => .nxt σ M) De := q1
  by_cases c : free κ i = true
  · rw [if_pos c, Res.put_ok] at q1
    exact gos_nxt s1 (e1.set i rd) (k1.set c) q1
  · rw [if_neg c] at q1
    exact False.elim q1
end
end Mi

end
section
/-! M18: augmented and parallel assignments, attributes. -/
namespace Mi
open PySem L2
section
variable {Z : Wo} {L : XLay} {P : Prg} {G : GTab} {n : Nat} {κ : List (Nat × CloD)} {W : WX} {X : Cx} {ρ ρ1 : List Addr} {H H1 : Hp} {σ : Env} {sv : St} {M : Hm} {r : SR} {De De' : Ends}
/-- numbers and strs -/
def rAugI (L : XLay) (o : BOp) : TIp := fun x y H Q => ∃ ρ a b z, Rep L.toLay ρ H a x ∧ Rep L.toLay ρ H b y ∧ augI o a b = some z ∧ ∀ w, Rep L.toLay ρ H z w → Q w H
theorem ip_aug {o : BOp} : PIp X (bopr o) (rAugI L o) := by
  intro pins s sv H x y v u Q I rx ry h
  obtain ⟨ρ, a, b, z, ra, rb, e, q⟩ := h
  unfold augI at e
  split at e
  · cases e; exact iop_add pins s sv H x y v u Q I rx ry ⟨_, _, ra, rb, q _ rfl⟩
  · cases e; exact iop_sub pins s sv H x y v u Q I rx ry ⟨_, _, ra, rb, q _ rfl⟩
  · cases e; exact iop_and pins s sv H x y v u Q I rx ry ⟨_, _, ra, rb, q _ rfl⟩
  · cases e; exact iop_or pins s sv H x y v u Q I rx ry ⟨_, _, ra, rb, q _ rfl⟩
  · cases e; exact iop_xor pins s sv H x y v u Q I rx ry ⟨_, _, ra, rb, q _ rfl⟩
  · split at e
    · rename_i c
      cases e
      exact iop_add_str pins s sv H x y v u Q I rx ry ⟨_, _, ra, rb, sz_ok c, q _ rfl⟩
    · cases e
  · cases e
/-- name op= .. -/
def rAug (L : XLay) (o : BOp) : TIp := fun x y H Q => rAugI L o x y H Q ∨ (o = .add ∧ rExt2 x y H Q)
theorem ip_augA {o : BOp} : PIp X (bopr o) (rAug L o) := by
  intro pins s sv H x y v u Q I rx ry h
  rcases h with h | ⟨rfl, h⟩
  · exact ip_aug pins s sv H x y v u Q I rx ry h
  · exact iop_ext pins s sv H x y v u Q I rx ry h
theorem envR_same {i : Nat} {d : D} {x : V} (e : EnvR L.toLay ρ H σ sv) (h : σ[i]? = some (some d)) (r : Rep L.toLay ρ H d x) : EnvR L.toLay ρ H σ (sv.set i (some x)) := by
  have := e.set i r
  rwa [show σ.set i (some d) = σ from List.ext_getElem? fun j => by
    by_cases hij : i = j
    · subst hij
      rw [List.getElem?_set_self (List.getElem?_eq_some_iff.mp h).1, h]
    · rw [List.getElem?_set_ne hij]] at this
theorem ss_aug {o : BOp} {i : Nat} {x : Str} {m : ME} {e : Expr} {pos pos' : Pos} (O : XOk Z L P G n X W) (hi : X.N[i]? = some x) (hx : Loc X.env.scope x) (hf : X.fn x = true ∨ X.env.scope.names.lookup x = some .local) (he : SE Z L P n κ W X m e) :
    SSt Z L P n κ W X (.aug o i m) (.AugAssign (.Name x pos') (bopr o) e pos) := ps_weak (ps_aug O.nd hi hx he (ip_augA (L := L)) hf) fun De sv H h => by
  obtain ⟨ρ, σ, M, sm, er, k, q⟩ := h
  have q : GoS Z L P n κ W ρ H (match slot σ i with
    | some x => if free κ i then (ev P (rt P n) κ m σ M).st σ fun y M => augS o i x y σ M else .bad
    | none => .bad) De := q
  cases es : slot σ i with
  | none => rw [es] at q; exact False.elim q
  | some d =>
    rw [es] at q
    simp only at q
    by_cases c : free κ i = true
    · rw [if_pos c] at q
      obtain ⟨v, ev, rv⟩ := er.2 i d (slot_some es)
      refine ⟨v, ev, tK.mono (go_st sm er k q) fun y H1 ⟨ρ1, M1, b, m1, s1, e1, k1, ry, q1⟩ => ?_⟩
      have rv1 := m1.rep _ _ rv
      unfold augS at q1
      cases ea : augI o d b with
      | some z =>
        rw [ea] at q1
        exact .inl ⟨ρ1, d, b, z, rv1, ry, ea, fun w rw' => gos_nxt s1 (e1.set i rw') (k1.set c) q1⟩
      | none =>
        rw [ea] at q1
        simp only at q1
        cases e2 : obj? M1 d with
        | none => cases o <;> simp only [e2] at q1 <;> exact False.elim q1
        | some p =>
          cases e3 : trk? M1 b with
          | none => cases o <;> simp only [e2, e3] at q1 <;> exact False.elim q1
          | some ys =>
            cases o <;> simp only [e2, e3] at q1 <;> first | exact False.elim q1 | skip
            by_cases cz : szOk (p.2.length + ys.length) = true
            · rw [if_pos cz] at q1
              obtain ⟨a, vs, rfl, hr, ha, rr⟩ := obj?_at s1 e2 rv1
              obtain ⟨b', ws, rfl, hb, rw'⟩ := trk?_at s1 ry e3
              have mm : Mono ρ1 H1 ρ1 (upd H1 a (.lst (vs ++ ws))) := mono_write (List.mem_of_getElem? hr)
              refine .inr ⟨rfl, a, b', vs, ws, rfl, rfl, ha, hb, by rw [rr.len, rw'.len]; exact sz_ok cz, ?_⟩
              exact q1 ρ1 _ _ mm (s1.write hr ⟨_, upd_same, mm.repL _ _ (rr.append rw')⟩) (envR_same (mm.env e1) (slot_some es) (mm.rep _ _ rv1)) ((k1.mono mm).set c)
            · rw [if_neg cz] at q1
              exact False.elim q1
    · rw [if_neg c] at q
      exact False.elim q
/-! ### attributes -/
theorem repF_put : ∀ {fs : List (Str × D)} {vs : List (Str × V)} {f : Str} {d : D} {v : V}, RepF L.toLay ρ H fs vs → Rep L.toLay ρ H d v → RepF L.toLay ρ H (putFld f d fs) (putF f v vs)
  | [], _, f, d, v, h, r => by
    rw [show _ = [] from h]
    exact ⟨v, [], rfl, r, rfl⟩
  | (g, w) :: t, _, f, d, v, ⟨x, u, e, h1, h2⟩, r => by
    subst e
    unfold putFld putF
    by_cases hg : g = f
    · subst hg
      simp only [beq_self_eq_true, if_true]
      exact ⟨v, u, rfl, r, h2⟩
    · simp only [hg, if_false]
      exact ⟨x, _, rfl, h1, repF_put h2 r⟩
theorem repF_len : ∀ {fs : List (Str × D)} {vs : List (Str × V)}, RepF L.toLay ρ H fs vs → vs.length = fs.length
  | [], _, h => by rw [show _ = [] from h]; rfl
  | (g, w) :: t, _, ⟨x, u, e, h1, h2⟩ => by
    subst e
    exact congrArg Nat.succ (repF_len h2)
/-- o.f = d -/
theorem setAt_ok {f : Str} {x d : D} {vx vd : V} {g : Env → Hm → SR} (O : XOk Z L P G n X W) (sm : Sim L.toLay ρ H M) (er : EnvR L.toLay ρ H σ sv) (k : KR Z L P Z.ent n κ ρ H sv) (rx : Rep L.toLay ρ H x vx) (rd : Rep L.toLay ρ H d vd) (h : GoS Z L P n κ W ρ H ((setAt P f x d σ M).put g) De) :
    ∃ kx a C dx fv fs, x = .ref kx ∧ vx = .ref a ∧ M[kx]? = some (.ins C fs) ∧ H a = some (.ins (L.ca C) dx fv) ∧ L2.Cls X.K (L.ca C) ∧ NoAttr X.K (L.ca C) f ∧ fv.length < 1000 ∧
      ∃ ρ1 M1, Sim L.toLay ρ1 (upd H a (.ins (L.ca C) dx (putF f vd fv))) M1 ∧ EnvR L.toLay ρ1 (upd H a (.ins (L.ca C) dx (putF f vd fv))) σ sv ∧ KR Z L P Z.ent n κ ρ1 (upd H a (.ins (L.ca C) dx (putF f vd fv))) sv ∧ GoS Z L P n κ W ρ1 (upd H a (.ins (L.ca C) dx (putF f vd fv))) (g σ M1) De := by
  cases x <;> first | exact False.elim h | skip
  rename_i kx
  unfold setAt at h
  cases eo : M[kx]? with
  | none => simp only [eo] at h; exact False.elim h
  | some o =>
    cases o with
    | ins C fs =>
      simp only [eo] at h
      by_cases c : (P.clss[C]?.any (fun k => k.own.contains f) && decide (fs.length < 1000)) = true
      · rw [if_pos c, Res.put_ok] at h
        rw [Bool.and_eq_true] at c
        obtain ⟨c1, c2⟩ := c
        obtain ⟨a, rfl, hr, dx, fv, hi, rf⟩ := sm.at rx eo
        cases ec : P.clss[C]? with
        | none => rw [ec] at c1; cases c1
        | some kl =>
          rw [ec] at c1
          have c1 : kl.own.contains f = true := c1
          obtain ⟨d1, d2, _⟩ := O.wok.cls _ _ ec
          have mm : Mono ρ H ρ (upd H a (.ins (L.ca C) dx (putF f vd fv))) := mono_write (List.mem_of_getElem? hr)
          exact ⟨kx, a, C, dx, fv, fs, rfl, rfl, eo, hi, by rw [O.K]; exact d1, by rw [O.K]; exact d2 f (List.contains_iff_mem.mp c1), by rw [repF_len rf]; exact of_decide_eq_true c2,
            ρ, _, sm.write (o := .ins C (putFld f d fs)) hr ⟨dx, _, upd_same, mm.repF _ _ (repF_put rf rd)⟩, mm.env er, k.mono mm, GoS.mono h mm⟩
      · rw [if_neg c] at h
        exact False.elim h
    | _ => simp only [eo] at h; exact False.elim h
theorem ss_at {f : Str} {mo m : ME} {o e : Expr} {pos pos' : Pos} (O : XOk Z L P G n X W) (he : SE Z L P n κ W X m e) (ho : SE Z L P n κ WF X mo o) (hc : noComp e = true) : SSt Z L P n κ W X (.asg (.at f mo) m) (.Assign [.Attribute o f pos'] e pos) :=
  ps_weak (ps_fld ho he (swaps_of hc)) fun De sv H h => by
    obtain ⟨ρ, σ, M, sm, er, k, q⟩ := h
    refine tK.mono (go_st sm er k q) fun y H1 ⟨ρ1, M1, d, m1, s1, e1, k1, rd, q1⟩ => ?_
    have q1 : GoS Z L P n κ W ρ1 H1 (((ev P (rt P n) κ mo σ M1).bind fun x M => setAt P f x d σ M).put fun σ M => .nxt σ M) De := q1
    refine ⟨ρ1, σ, M1, s1, e1, k1, ?_⟩
    cases eo : ev P (rt P n) κ mo σ M1 with
    | bad => rw [eo] at q1; exact False.elim q1
    | exc c v M2 => rw [eo] at q1; exact False.elim q1
    | ok x M2 =>
      rw [eo, Res.bind_ok] at q1
      intro ρ2 H2 vx m2 s2 rx
      obtain ⟨_, a, C, dx, fv, _, _, rfl, _, hi, c1, c2, hl, ρ3, M3, s3, e3, k3, q3⟩ := setAt_ok O s2 (m2.env e1) (k1.mono m2) rx (m2.rep _ _ rd) (GoS.mono q1 m2)
      exact ⟨a, _, dx, fv, rfl, hi, c1, c2, hl, gos_nxt s3 e3 k3 q3⟩
end
end Mi

end
section
/-! M19: o.f op= e; parallel assignments. -/
namespace Mi
open PySem L2
section
variable {Z : Wo} {L : XLay} {P : Prg} {G : GTab} {n : Nat} {κ : List (Nat × CloD)} {W : WX} {X : Cx} {ρ ρ1 : List Addr} {H H1 : Hp} {σ : Env} {sv : St} {M : Hm} {r : SR} {De De' : Ends}
theorem ss_augf {op : BOp} {f : Str} {mo m : ME} {o e : Expr} {pos tpos : Pos} (O : XOk Z L P G n X W) (ho : SE Z L P n κ W X mo o) (he : SE Z L P n κ W X m e) : SSt Z L P n κ W X (.augf op f mo m) (.AugAssign (.Attribute o f tpos) (bopr op) e pos) :=
  ps_weak (ps_fldaug ho he (fun pins s sv H x y u v Q => ip_aug (L := L) (o := op) pins s sv H x y u v Q)) fun De sv H h => by
    obtain ⟨ρ, σ, M, sm, er, k, q⟩ := h
    refine tK.mono (go_st sm er k q) fun xv H1 ⟨ρ1, M1, x, m1, s1, e1, k1, rx, q1⟩ => ?_
    cases eg : getFld P f x M1 with
    | none => simp only [eg] at q1; exact False.elim q1
    | some d =>
      simp only [eg] at q1
      obtain ⟨kx, a, C, dx, fv, w, fs, rfl, rfl, hr, eo, hi, c1, c2, ew, rw'⟩ := getFld_at O s1 rx eg
      refine ⟨a, _, dx, fv, w, rfl, hi, c1, c2, ew, ?_⟩
      refine tK.mono (go_st s1 e1 k1 q1) fun y H2 ⟨ρ2, M2, b, m2, s2, e2, k2, ry, q2⟩ => ?_
      cases ea : augI op d b with
      | none => simp only [ea] at q2; exact False.elim q2
      | some z =>
        simp only [ea] at q2
        refine ⟨ρ2, d, b, z, m2.rep _ _ rw', ry, ea, fun vz rz => ?_⟩
        by_cases cs : sameCls (.ref kx) M1 M2 = true
        · rw [if_pos cs] at q2
          obtain ⟨kx', a', C', dx', fv', fs', e1', e2', eo', hi', d1, d2, hl, ρ3, M3, s3, e3, k3, q3⟩ := setAt_ok O s2 e2 k2 (m2.rep _ _ rx) rz q2
          cases e1'
          cases e2'
          unfold sameCls at cs
          simp only [eo, eo'] at cs
          have : C = C' := by simpa using cs
          subst this
          exact ⟨dx', fv', hi', hl, gos_nxt s3 e3 k3 q3⟩
        · rw [if_neg cs] at q2
          exact False.elim q2
theorem go_par {is : List Nat} {ms : MEs} {es : List Expr} {pos : Pos} (ha : SA Z L P n κ W X ms es) (sm : Sim L.toLay ρ H M) (er : EnvR L.toLay ρ H σ sv) (k : KR Z L P Z.ent n κ ρ H sv) (q : GoS Z L P n κ W ρ H (exec P (rt P n) κ (.par is ms) σ M) De) :
    tK Z L P Z.ent (TDs L) n κ W (evs P (rt P n) κ ms) sv H (fun vs H1 => ∃ ρ1 M1 ds σ1, Mono ρ H ρ1 H1 ∧ Sim L.toLay ρ1 H1 M1 ∧ EnvR L.toLay ρ1 H1 σ sv ∧ KR Z L P Z.ent n κ ρ1 H1 sv ∧ RepL L.toLay ρ1 H1 ds vs ∧ is.all (free κ) = true ∧ setAll is ds σ = some σ1 ∧ GoS Z L P n κ W ρ1 H1 (.nxt σ1 M1) De) := by
  refine tK.mono (go_st sm er k q) fun vs H1 ⟨ρ1, M1, ds, m1, s1, e1, k1, rd, q1⟩ => ?_
  by_cases c : is.all (free κ) = true
  · rw [if_pos c] at q1
    cases es : setAll is ds σ with
    | none => simp only [es] at q1; exact False.elim q1
    | some σ1 =>
      simp only [es] at q1
      exact ⟨ρ1, M1, ds, σ1, m1, s1, e1, k1, rd, c, es, q1⟩
  · rw [if_neg c] at q1
    exact False.elim q1
theorem ss_par2 {i j : Nat} {x y : Str} {a b : Expr} {ms : MEs} {px py pt pt2 pos : Pos} {kt k2 : Nat} (O : XOk Z L P G n X W) (hi : X.N[i]? = some x) (hj : X.N[j]? = some y) (hij : i ≠ j) (hx : X.env.scope.names.lookup x = some .local) (hy : X.env.scope.names.lookup y = some .local)
    (ha : SA Z L P n κ W X ms [a, b]) (hw : swappedStores [.Tuple [.Name x px, .Name y py] kt pt] (.Tuple [a, b] k2 pt2) X.env = pure (some [x, y])) :
    SSt Z L P n κ W X (.par [i, j] ms) (.Assign [.Tuple [.Name x px, .Name y py] kt pt] (.Tuple [a, b] k2 pt2) pos) := ps_weak (ps_par O.calm O.nd hi hj hij hx hy ha hw rfl) fun De sv H h => by
  obtain ⟨ρ, σ, M, sm, er, k, q⟩ := h
  refine tK.mono (go_par (pos := pos) ha sm er k q) fun vs H1 ⟨ρ1, M1, ds, σ1, m1, s1, e1, k1, rd, c, es, q1⟩ => ?_
  match ds, rd, es with
  | [d1, d2], rd, es =>
    obtain ⟨v1, v2, rfl, r1, r2⟩ := RepL.two rd
    have es : some ((σ.set i (some d1)).set j (some d2)) = some σ1 := es
    cases es
    rw [List.all_cons, List.all_cons, Bool.and_eq_true, Bool.and_eq_true] at c
    exact ⟨v1, v2, rfl, gos_nxt s1 ((e1.set i r1).set j r2) ((k1.set c.1).set c.2.1) q1⟩
  | [], _, es => cases es
  | [_], _, es => cases es
  | _ :: _ :: _ :: _, _, es => cases es
theorem ss_par3 {i j l : Nat} {x y z : Str} {a b c : Expr} {ms : MEs} {px py pz pt pt2 pos : Pos} {kt k2 : Nat} (O : XOk Z L P G n X W) (hi : X.N[i]? = some x) (hj : X.N[j]? = some y) (hl : X.N[l]? = some z) (hij : i ≠ j) (hil : i ≠ l) (hjl : j ≠ l)
    (hx : X.env.scope.names.lookup x = some .local) (hy : X.env.scope.names.lookup y = some .local) (hz : X.env.scope.names.lookup z = some .local)
    (ha : SA Z L P n κ W X ms [a, b, c]) (hw : swappedStores [.Tuple [.Name x px, .Name y py, .Name z pz] kt pt] (.Tuple [a, b, c] k2 pt2) X.env = pure (some [x, y, z])) :
    SSt Z L P n κ W X (.par [i, j, l] ms) (.Assign [.Tuple [.Name x px, .Name y py, .Name z pz] kt pt] (.Tuple [a, b, c] k2 pt2) pos) := ps_weak (ps_par3 O.calm O.nd hi hj hl hij hil hjl hx hy hz ha hw rfl) fun De sv H h => by
  obtain ⟨ρ, σ, M, sm, er, k, q⟩ := h
  refine tK.mono (go_par (pos := pos) ha sm er k q) fun vs H1 ⟨ρ1, M1, ds, σ1, m1, s1, e1, k1, rd, c, es, q1⟩ => ?_
  match ds, rd, es with
  | [d1, d2, d3], rd, es =>
    obtain ⟨v1, t, rfl, r1, rt⟩ := rd
    obtain ⟨v2, v3, rfl, r2, r3⟩ := RepL.two rt
    have es : some (((σ.set i (some d1)).set j (some d2)).set l (some d3)) = some σ1 := es
    cases es
    rw [List.all_cons, List.all_cons, List.all_cons, Bool.and_eq_true, Bool.and_eq_true, Bool.and_eq_true] at c
    exact ⟨v1, v2, v3, rfl, gos_nxt s1 (((e1.set i r1).set j r2).set l r3) (((k1.set c.1).set c.2.1).set c.2.2.1) q1⟩
  | [], _, es => cases es
  | [_], _, es => cases es
  | [_, _], _, es => cases es
  | _ :: _ :: _ :: _ :: _, _, es => cases es
/-! ### which stores are swapped -/
/-- the names that are stored from the right: b; a where the stores are as they stand -/
def swG {β : Type} (sc : Scope) (ts vs : List Expr) (a u : β) (b : List Str → β) : β :=
  if (!(ts.length == 2 || ts.length == 3) || vs.length != ts.length) = true then a
  else if (vs.any fun | .Starred .. => true | _ => false) = true then a
  else
    let names := ts.filterMap fun
      | .Name id pos => if (sc.names.lookup id == some .local && pos.line == (ts.head?.map (·.pos.line)).getD 0) = true then some id else none
      | _ => none
    if (names.length != ts.length || names.eraseDups.length != names.length) = true then a
    else if (vs.all (foldedForSure 8)) = true then a
    else if (vs.all (constantsAlone 8)) = true then u
    else b names
def swN (sc : Scope) (ts vs : List Expr) : Option (Option (List Str)) := swG sc ts vs (some none) none fun ns => some (some ns)
theorem swG_to {β : Type} {sc : Scope} {ts vs : List Expr} {u : β} {f : Option (List Str) → β} {r : Option (List Str)} (h : swN sc ts vs = some r) : swG sc ts vs (f none) u (fun ns => f (some ns)) = f r := by
  unfold swN swG at h
  unfold swG
  split at h
  · rename_i c; cases h; rw [if_pos c]
  rename_i c1
  rw [if_neg c1]
  split at h
  · rename_i c; cases h; rw [if_pos c]
  rename_i c2
  rw [if_neg c2]
  simp only at h ⊢
  split at h
  · rename_i c; cases h; rw [if_pos c]
  rename_i c3
  rw [if_neg c3]
  split at h
  · rename_i c; cases h; rw [if_pos c]
  rename_i c4
  rw [if_neg c4]
  split at h
  · cases h
  · rename_i c5; cases h; rw [if_neg c5]
theorem sw_of {ts vs : List Expr} {k k2 : Nat} {p p2 : Pos} {env : PySem.Env} {r : Option (List Str)} (hk : env.scope.kind = .function) (h : swN env.scope ts vs = some r) : swappedStores [.Tuple ts k p] (.Tuple vs k2 p2) env = pure r := by
  have hb : env.blockKind = .function := by unfold PySem.Env.blockKind; rw [hk]; rfl
  have e0 : (ScopeKind.function != ScopeKind.function) = false := rfl
  rw [← swG_to (f := fun o => (pure o : Sem (Option (List Str)))) (u := unsupported "assign.tuple-of-constant-expressions:order-of-the-stores" >>= fun (_ : PUnit) => pure (some (ts.filterMap fun
      | .Name id pos => if (env.scope.names.lookup id == some .local && pos.line == (ts.head?.map (·.pos.line)).getD 0) = true then some id else none
      | _ => none))) h]
  unfold swappedStores
  simp only [hb, e0, Bool.or_false]
  rfl
theorem sw_none {tg e : Expr} {env : PySem.Env} (h : (match e with | .Tuple _ _ _ => false | _ => true) = true) : swappedStores [tg] e env = pure none := by
  cases e <;> first | cases h | skip
  all_goals (cases tg <;> rfl)
end
end Mi

end
section
set_option maxHeartbeats 1000000
/-! M20: exceptions of own classes, two deep, whose __init__ call super().__init__: made. -/
namespace Mi
open PySem PySem.W PySem.Calls
section
variable {prog : Program} {w : World} {A : Around} {E : Value → Shared → Prop} {s : Shared} {K : Frag} {mg : Str → Option Value} {base : Heap}
theorem sup_tree {o : Expr} {m : Str} {apos pos : Pos} {es : List Expr} {env : PySem.Env} (hn : noStar es = true) (hl : (apos.endLine == pos.line) = true) (hk : es.length < 30) :
    eval (.Call (.Attribute o m apos) es [] pos) env = (do
      let ov ← attributeBase o m env (eval o env)
      standAt apos.atName
      let (f, first) ← holding [ov] (getMethod ov m (do return (← importBound o env).getD true))
      callWith pos f first (backTo pos (starEach es env)) []) := by
  have few : methodCallForm (es.length + ([] : List Keyword).length) (backTo pos (starEach es env)) (backToKw pos (keywordEach [] env)) = true := by
    unfold methodCallForm
    have h0 : (decide (es.length + ([] : List Keyword).length + (if (backToKw pos (keywordEach [] env)).isEmpty then 0 else 1) < 30)) = true := decide_eq_true hk
    rw [star_all hn, h0]
    rfl
  rw [arm_eval_Call]
  unfold methodCall methodCallPos calleeOf
  rw [few, hl]
  rfl
/-- super(), the object told -/
theorem sup_base {body : List Stmt} {q : Str} {scope : Scope} {p0 p1 : Pos} {attr : Str} {whole : Sem Value} {L f cda cc x C D : Addr} {m : Str → Option Value} {fd : FuncData} {ar : Arg} {vs : Array Value} {file : Str} {tf : Tok} {oc ccl cl : Value} {od cdd cld : Option Addr} {osl ccs csl : Array (Option Value)} {cdD : ClassData} {ox : Obj} {Q : Value → Shared → Prop}
    (M : L2.Mod K mg base) (hb : base.StaysIn s.heap) (hns : s.heap.Ns L m) (hf : K.lookup f = some ⟨oc, od, .func fd, osl⟩) (hp : (fd.params.posonlyargs ++ fd.params.args).head? = some ar) (har : ar.arg = "self") (hv : m "self" = some (.ref x)) (hx : s.heap.get? x = some ox) (hxc : ox.cls = .ref C) (hno : ∀ c, ox.data ≠ .cls c)
    (hcode : K.lookup cda = some ⟨ccl, cdd, .fields vs, ccs⟩) (hvs : vs[2]? = some (.str file tf)) (hfile : ((prog.main.file : Str) == file) = true)
    (hcell : K.lookup cc = some ⟨cl, cld, .cell (some (.ref D)), csl⟩) (hD : clsIn K D = some cdD) (hsub : mroIn K C (.ref D) = some true) (hsuper : mg "super" = none)
    (hat : (attr == ("__class__" : Str)) = false) (S : SupSc scope) (htop : (prog.main.scope.names.lookup ("super" : Str)).isSome = false)
    (h : ∀ h', h'.get? s.heap.objs.size = some (ks_superObj D x C) → (∀ b o, s.heap.get? b = some o → h'.get? b = some o) → Q (.ref s.heap.objs.size) { s with heap := h' }) :
    _root_.PySem.wpAt (model prog w) A (.func body (ksEnv q scope L f (.ref cda) cc)) (attributeBase (.Call (.Name "super" p0) [] [] p1) attr (ksEnv q scope L f (.ref cda) cc) whole) Q E s := by
  have X : K.In s.heap := M.kin.keeps hb
  obtain ⟨mb, hb1, hb2⟩ := M.blt
  obtain ⟨hh, g, d, t, os⟩ := s
  obtain ⟨oD, hD1, hD2⟩ : ∃ oD, hh.get? D = some oD ∧ oD.data = .cls cdD := by
    unfold clsIn at hD
    split at hD
    · rename_i c d cd' sl ho
      cases hD
      exact ⟨_, X _ _ ho, rfl⟩
    · cases hD
  refine ks_wpAt_super_base (env := ksEnv q scope L f (.ref cda) cc) S.sup S.cls hat rfl (X _ _ hf) rfl hp rfl (X _ _ hcode) rfl hvs hfile htop ?_
  refine ks_loadName_global S.kind S.sup (loadGlobal_builtin (env := ksEnv q scope L f (.ref cda) cc) (M.glob.keeps hb) hsuper (hb1.keeps hb) ((hb2 _ (by decide)).trans (show bootBuiltins "super" = some (.type "super") from rfl)) ⟨rfl, ?_⟩)
  refine wpAny_loadName_free S.kind S.cls rfl ⟨_, X _ _ hcell, rfl⟩ ?_
  rw [har]
  refine wpAny_loadName_local S.kind S.self hns hv ?_
  refine ks_wpAny_isType_cls hD1 hD2 ⟨rfl, ?_⟩
  exact ks_wpAny_call_super hD1 hD2 hx hxc hno (looks_mroIn X hsub) (fun h' e k => h h' e k)
/-- ValueError.__init__ bound to the object, called -/
theorem call_mw {hp : Heap} {g : Array GenState} {d : Drawn} {t : Nat} {os : OsState} {C D u e t0 : Addr} {rest : List Value} {Q : Value → Shared → Prop} (T : ExCls K C D) (X : K.In hp) (he : hp.get? e = some (HandSPX.excO C t0)) (hu : hp.get? u = some (kxs_mw "ValueError.__init__" e)) (hrest : rest.length ≤ sizeLine)
    (hq : ∀ h' t1, (∀ b o, b ≠ e → hp.get? b = some o → h'.get? b = some o) → h'.get? e = some (HandSPX.excO C t1) → Q .none ⟨h', g, d, t, os⟩) : wpAny (model prog w) A (call (.ref u) rest) Q E ⟨hp, g, d, t, os⟩ := by
  obtain ⟨nm, q, N, bs, bm, sn, sub, ab, col, dd, k0, k1, k2, k3, k5, hC, hbm⟩ := T.cls
  have FB := PySem.F.excBase_ValueError
  refine wpAny_call (codeAny_of_tree ?_)
  show wpAny _ A.in1 (callAny (.ref u) ⟨rest, []⟩) _ _ _
  simp only [callAny]
  refine wpAny_bind (wpAny_load hu ?_)
  simp only [kxs_mw, show (Value.type "method-wrapper" == Value.type "method" || Value.type "method-wrapper" == Value.type "builtin_function_or_method" || Value.type "method-wrapper" == Value.type "method-wrapper") = true by decide, if_true]
  refine KFB.if_so (by decide) (wpAny_bind (check_bound_init FB.toExcCallFacts (X _ _ hC) he rfl (wpAny_bind (wpAny_pure (wpAny_pure ?_)))))
  refine ⟨plainId_quiet FB.init.plain _, codeAny_builtin FB.initEntry ?_⟩
  exact exc_init_tree (cls := .ref C) (t0 := t0) (dv := none) (c2 := .none) (c3 := .none) (b4 := .bool false) he hrest fun h' k1 k2 _ => hq h' hp.objs.size k1 k2
theorem ld_own {M : Model} {q : Str} {scope : Scope} {L a : Addr} {cd : Value} {cc : Addr} {m : Str → Option Value} {x : Str} {pos : Pos} {v : Value} {Q : Value → Shared → Prop} (hk : scope.kind = .function) (hl : scope.names.lookup x = some .local) (hn : s.heap.Ns L m) (hv : m x = some v) (h : Q v s)
    (hd : (x == ("__debug__" : Str)) = false := by decide) : wpAny M A (eval (.Name x pos) (ksEnv q scope L a cd cc)) Q E s := wpAny_Name (wpAny_loadName_local hk hl hn hv h) hd
theorem kin_but {h' : Heap} {x : Addr} (hb : base.StaysIn s.heap) (hx : base.get? x = none) (k : ∀ b o, b ≠ x → s.heap.get? b = some o → h'.get? b = some o) : base.StaysIn h' := fun b o e => k b o (fun z => by rw [z, hx] at e; cases e) (hb b o e)
/-- what the base's __init__ leaves -/
structure GateEnd (h h' : Heap) (x C dx t1 : Addr) (v : Value) (nm : Str) : Prop where
  keep : ∀ b o, b ≠ x → h.get? b = some o → h'.get? b = some o
  obj : h'.get? x = some { cls := .ref C, dict := some dx, data := .fields #[.ref t1, .none, .none, .none, .bool false, .none] }
  dbig : h.objs.size ≤ dx
  dne : dx ≠ x
  ns : ∃ tk, h'.Ns1 dx (fun y => if y = "name" then some (.str nm tk) else if y = "place" then some v else none)
theorem ns1_eq {h : Heap} {l : Addr} {m m' : Str → Option Value} (hn : h.Ns1 l m) (e : ∀ y, m y = m' y) : h.Ns1 l m' := by
  rw [show m' = m from funext fun y => (e y).symm]
  exact hn
theorem ns_at {h h' : Heap} {l : Addr} {m : Str → Option Value} (hn : h.Ns l m) (k : ∀ o, h.get? l = some o → h'.get? l = some o) : h'.Ns l m := by
  obtain ⟨o, es, ep, ho, r⟩ := hn
  exact ⟨o, es, ep, k o ho, r⟩
theorem gate_init {f D C x t0 : Addr} {qual nm : Str} {v : Value} {a1 a2 a3 a4 a5 p b1 b2 b3 b4 c1 c2 c3 c4 : Pos} {kk : Nat} {R : Result → Shared → Prop} (M : L2.Mod K mg base) (hsup : mg "super" = none) (T : ExCls K C D)
    (S : SupFn K prog f D qual [.Expr (supE a1 a2 a3 a4 a5) p, stAt "place" (.Name "place" b4) b1 b2 b3, stAt "name" (.Constant (.str nm) kk c4) c1 c2 c3]) (hl : (a3.endLine == a5.line) = true)
    (hb : base.StaysIn s.heap) (hx : s.heap.get? x = some (HandSPX.excO C t0)) (hxb : base.get? x = none) (hroom : A.depth < recursionLimit)
    (hq : ∀ h' tk dx t1, GateEnd s.heap h' x C dx t1 v nm → R (.ok (.ret .none)) { s with heap := h', toks := tk }) : codeAny (model prog w) A (.call (.ref f) ⟨[.ref x, v], []⟩) R s := by
  obtain ⟨oc, od, p1, p2, scope, doc, pm, ct, an, co, cc, osl, ccl, cdd, vs, ccs, file, tf, cl, cld, csl, hf, hcd, hcode, hvs, hfile, hcell, sc⟩ := S.ex
  obtain ⟨cdD, hcD⟩ := T.cD
  have X := M.kin.keeps hb
  refine ks_codeAny_call_defAt (fd := ksFn "__init__" qual _ _ scope .none .none doc pm an (.ref co) ct cc) (binds := [("self", .ref x), ("place", v)]) hroom (X _ _ hf) rfl (M.nolimit.keeps hb) (codeRec_of X hcd) rfl (BindsTo.of_eq (by first | rfl | with_unfolding_all rfl)) sc.nocell (fun y hy => ?_) (fun h₁ hns k₁ => ?_) sc.co sc.gen sc.kind
  · rcases List.mem_cons.mp hy with e | hy
    · subst e; exact sc.self
    · rw [List.mem_singleton] at hy
      subst hy
      exact sc.place
  have hb1 : base.StaysIn h₁ := fun b o e => k₁ b o (hb b o e)
  have hx1 := k₁ _ _ hx
  obtain ⟨hp, g, dr, tk0, os⟩ := s
  obtain ⟨nm', q', N, bs, bm, sn, sub, ab, col, dd, k0, k1, k2, k3, k5, hC, hbm⟩ := T.cls
  have hclC : clsIn K C = some { name := nm', bases := bs, mro := .ref C :: bm, ns := N, qualname := q', hasDict := true, slotNames := sn, subclasses := sub, abstract := ab, collection := col, hasDel := false } := by unfold clsIn; rw [hC] <;> rfl
  have X1 := M.kin.keeps hb1
  have xC : x ≠ C := fun z => by
    have e := X1 _ _ hC
    rw [← z, hx1] at e
    cases e
  refine ks_wpAt_execs_cons (ks_wpAt_Expr_any ?_ (by show interactive (ksEnv qual scope hp.objs.size f (.ref co) cc) = false; simp [interactive, sc.kind]) rfl)
  refine ks_wpAt_MethodCall ?_ (sup_tree rfl hl (show 1 < 30 by decide))
  refine sup_base (x := x) M hb1 hns hf rfl rfl rfl hx1 rfl (fun c z => by cases z) hcode hvs hfile hcell hcD T.isD hsup rfl sc S.top fun h2 hso k2 => ?_
  have X2 := X1.keeps k2
  have hx2 := k2 _ _ hx1
  have hI : Looks (model prog w) h2 (isInstance (.ref x) (.type "ValueError")) true := fun A Q E s k q => wpAny_bind (wpAny_typeOf_ref (k _ _ hx2) ((looks_subIn X2 T.isV) A Q E s k q))
  have hsD := T.supD
  unfold ks_superIn at hsD
  rw [hclC] at hsD
  have hC2 : Looks (model prog w) h2 (mroOf (.ref C)) (.ref C :: bm) := fun A Q E s k q => wpAny_bind ((looks_clsIn X2 hclC) A _ E s k (wpAny_pure q))
  refine kxs_getMethod kxs_ValueError hso (looks_opaque X2 T.opq) hC2 rfl X2 hsD hI xC rfl ?_
  have hu : (h2.push (kxs_mw "ValueError.__init__" x)).get? h2.objs.size = some (kxs_mw "ValueError.__init__" x) := Heap.get?_push_at rfl rfl
  have k3' : ∀ b o, h₁.get? b = some o → (h2.push (kxs_mw "ValueError.__init__" x)).get? b = some o := fun b o e => Heap.get?_push_of_some _ (k2 b o e)
  refine kxs_callWith (i := "ValueError.__init__") (x := x) rfl (evalArgs_plain ?_)
  refine spliced_cons (ld_own sc.kind sc.place (hns.keeps k3') rfl (spliced_nil ⟨hu, ?_⟩))
  refine call_mw T (X1.keeps k3') (k3' _ _ hx1) hu (by rw [sizeLine_eq]; exact (show 1 ≤ 16777216 by decide)) fun h4 t1 k4 hx4 => ?_
  have k4' : ∀ b o, b ≠ x → h₁.get? b = some o → h4.get? b = some o := fun b o hb e => k4 b o hb (k3' b o e)
  have neL : hp.objs.size ≠ x := Nat.ne_of_gt (Heap.lt_size hx)
  have hb4 : base.StaysIn h4 := fun b o e => k4' b o (fun z => by rw [z, hxb] at e; cases e) (hb1 b o e)
  have X4 := M.kin.keeps hb4
  have hns4 := ns_at (h' := h4) hns fun o e => k4' _ _ neL e
  have hm : HandSPX.refsVE (.ref C :: bm) = true := hbm
  show _root_.PySem.wpAt _ _ _ (PySem.execs [stAt "place" (.Name "place" b4) b1 b2 b3, stAt "name" (.Constant (.str nm) kk c4) c1 c2 c3] (ksEnv qual scope hp.objs.size f (.ref co) cc)) _ _ _
  refine wpAt_of_wpAny (wpAny_execs_cons (plainObj_wpAny_Assign_Attribute ?_ rfl))
  refine ld_own sc.kind sc.place hns4 rfl (ld_own sc.kind sc.self hns4 rfl ?_)
  refine set_plain X4 (ox := HandSPX.excO C t1) (od := none) ⟨hx4, rfl, rfl, trivial⟩ T.sa ?_
  refine HandSPX.exc_osa X4 hx4 hclC hm rfl T.noP (fun h5 tk5 dx k5 dn dne hx5 hn5 => ?_)
  have hb5 : base.StaysIn h5 := fun b o e => k5 b o (fun z => by rw [z, hxb] at e; cases e) (hb4 b o e)
  have X5 := M.kin.keeps hb5
  have hns5 := ns_at (h' := h5) hns4 fun o e => k5 _ _ neL e
  show wpAny _ _ (PySem.execs [stAt "name" (.Constant (.str nm) kk c4) c1 c2 c3] (ksEnv qual scope hp.objs.size f (.ref co) cc)) _ _ _
  refine wpAny_execs_cons (plainObj_wpAny_Assign_Attribute ?_ rfl)
  refine Constant_str ?_
  refine ld_own sc.kind sc.self hns5 rfl ?_
  obtain ⟨oD, _, _, hoD, _, _⟩ := id hn5
  refine set_plain X5 (ox := { cls := .ref C, dict := some dx, data := .fields #[.ref t1, .none, .none, .none, .bool false, .none] }) (od := some oD) ⟨hx5, rfl, rfl, hoD⟩ T.sa ?_
  refine OEX.osa_old (nl := ["place"]) X5 hx5 hn5 (fun y hy => ?_) (by simp) hclC hm rfl T.noN (fun h6 tk6 k6 hn6 => ?_)
  · by_cases e : y = "place"
    · rw [e]; exact List.mem_cons_self
    · exact absurd (if_neg e) hy
  have dbig : hp.objs.size ≤ dx := by
    have z : hp.objs.size < h4.objs.size := hns4.lt
    have z2 : h4.objs.size ≤ dx := dn
    omega
  refine wpAny_execs_nil (hq h6 _ dx t1 ⟨fun b o hb e => ?_, ?_, dbig, dne, _, hn6⟩)
  · exact k6 b o (Nat.ne_of_lt (Nat.lt_of_lt_of_le (Heap.lt_size e) dbig)) (k5 b o hb (k4' b o hb (k₁ b o e)))
  · exact k6 x _ (Ne.symm dne) hx5
/-- the call of a bound method, an own def -/
theorem bound_call {u f x : Addr} {rest : List Value} {Q : Value → Shared → Prop} (hu : s.heap.get? u = some { cls := .type "method", data := .fields #[.ref f, .ref x] })
    (h : codeAny (model prog w) A (.call (.ref f) ⟨.ref x :: rest, []⟩) (fun r s' => match r with | .ok (.ret v) => Q v s' | .ok _ => False | .error e => E e s') s) : wpAny (model prog w) A (call (.ref u) rest) Q E s := by
  refine wpAny_call (ks_codeAny_call_bound hu (codeAny_mono h fun r s' z => ?_))
  rcases r with e | (v | _ | _ | _) <;> exact z
/-- X.__init__ of the class at C over the base at G, whose __init__ is gate_init's -/
theorem low_init {f fG C G x t0 : Addr} {qual qualG nm nmG : Str} {v : Value} {a1 a2 a3 a4 a5 p c1 c2 c3 c4 a1' a2' a3' a4' a5' p' b1 b2 b3 b4 c1' c2' c3' c4' : Pos} {kk kk' : Nat} {R : Result → Shared → Prop} (M : L2.Mod K mg base) (hsup : mg "super" = none) (T : ExCls K C G)
    (S : SupFn K prog f C qual [.Expr (supE a1 a2 a3 a4 a5) p, stAt "name" (.Constant (.str nm) kk c4) c1 c2 c3]) (hl : (a3.endLine == a5.line) = true)
    (SG : SupFn K prog fG G qualG [.Expr (supE a1' a2' a3' a4' a5') p', stAt "place" (.Name "place" b4) b1 b2 b3, stAt "name" (.Constant (.str nmG) kk' c4') c1' c2' c3']) (hlG : (a3'.endLine == a5'.line) = true)
    (hsupC : ks_superIn K C C "__init__" = some (some (.ref fG))) (hb : base.StaysIn s.heap) (hx : s.heap.get? x = some (HandSPX.excO C t0)) (hxb : base.get? x = none) (hroom : A.depth + 2 < recursionLimit)
    (hq : ∀ h' tk dx t1, GateEnd s.heap h' x C dx t1 v nm → R (.ok (.ret .none)) { s with heap := h', toks := tk }) : codeAny (model prog w) A (.call (.ref f) ⟨[.ref x, v], []⟩) R s := by
  obtain ⟨oc, od, p1, p2, scope, doc, pm, ct, an, co, cc, osl, ccl, cdd, vs, ccs, file, tf, cl, cld, csl, hf, hcd, hcode, hvs, hfile, hcell, sc⟩ := S.ex
  have X := M.kin.keeps hb
  refine ks_codeAny_call_defAt (fd := ksFn "__init__" qual _ _ scope .none .none doc pm an (.ref co) ct cc) (binds := [("self", .ref x), ("place", v)]) (by omega) (X _ _ hf) rfl (M.nolimit.keeps hb) (codeRec_of X hcd) rfl (BindsTo.of_eq (by first | rfl | with_unfolding_all rfl)) sc.nocell (fun y hy => ?_) (fun h₁ hns k₁ => ?_) sc.co sc.gen sc.kind
  · rcases List.mem_cons.mp hy with e | hy
    · subst e; exact sc.self
    · rw [List.mem_singleton] at hy
      subst hy
      exact sc.place
  have hb1 : base.StaysIn h₁ := fun b o e => k₁ b o (hb b o e)
  have hx1 := k₁ _ _ hx
  obtain ⟨hp, g, dr, tk0, os⟩ := s
  obtain ⟨nm', q', N, bs, bm, sn, sub, ab, col, dd, k0, k1, k2, k3, k5, hC, hbm⟩ := T.cls
  have hclC : clsIn K C = some { name := nm', bases := bs, mro := .ref C :: bm, ns := N, qualname := q', hasDict := true, slotNames := sn, subclasses := sub, abstract := ab, collection := col, hasDel := false } := by unfold clsIn; rw [hC] <;> rfl
  have X1 := M.kin.keeps hb1
  have xC : x ≠ C := fun z => by
    have e := X1 _ _ hC
    rw [← z, hx1] at e
    cases e
  refine ks_wpAt_execs_cons (ks_wpAt_Expr_any ?_ (by show interactive (ksEnv qual scope hp.objs.size f (.ref co) cc) = false; simp [interactive, sc.kind]) rfl)
  refine ks_wpAt_MethodCall ?_ (sup_tree rfl hl (show 1 < 30 by decide))
  refine sup_base (x := x) M hb1 hns hf rfl rfl rfl hx1 rfl (fun c z => by cases z) hcode hvs hfile hcell hclC T.isC hsup rfl sc S.top fun h2 hso k2 => ?_
  have X2 := X1.keeps k2
  have hx2 := k2 _ _ hx1
  obtain ⟨ofG, hofG, hofc⟩ : ∃ of, K.lookup fG = some of ∧ of.cls = .type "function" := by
    have ht : (K.lookup fG).map (·.cls) = some (.type "function") := SG.ty
    cases z : K.lookup fG with
    | none => rw [z] at ht; cases ht
    | some of => rw [z] at ht; exact ⟨of, rfl, Option.some.inj ht⟩
  have hsC := hsupC
  unfold ks_superIn at hsC
  rw [hclC] at hsC
  have hC2 : Looks (model prog w) h2 (mroOf (.ref C)) (.ref C :: bm) := fun A Q E s k q => wpAny_bind ((looks_clsIn X2 hclC) A _ E s k (wpAny_pure q))
  refine ks_wpAny_getMethod_super hso (looks_opaque X2 T.opq) hC2 rfl X2 hsC (X2 _ _ hofG) hofc xC rfl ?_
  have hu : (h2.push { cls := .type "method", data := .fields #[.ref fG, .ref x] }).get? h2.objs.size = some { cls := .type "method", data := .fields #[.ref fG, .ref x] } := Heap.get?_push_at rfl rfl
  have k3' : ∀ b o, h₁.get? b = some o → (h2.push { cls := .type "method", data := .fields #[.ref fG, .ref x] }).get? b = some o := fun b o e => Heap.get?_push_of_some _ (k2 b o e)
  have hb3 : base.StaysIn (h2.push { cls := .type "method", data := .fields #[.ref fG, .ref x] }) := fun b o e => k3' b o (hb1 b o e)
  refine callWith_of (P := fun h => h.get? h2.objs.size = some { cls := .type "method", data := .fields #[.ref fG, .ref x] } ∧ K.In h) rfl (fun h ⟨e, Xh⟩ => ?_) (evalArgs_plain ?_)
  · refine ⟨.boundFrame, .inr (.inr rfl), (Looks.ld (part := none) e).andThen ?_⟩
    obtain ⟨oc', od', fd', sl', hfd⟩ : ∃ oc od fd sl, K.lookup fG = some ⟨oc, od, .func fd, sl⟩ := by
      obtain ⟨oc, od, p1, p2, scope, doc, pm, ct, an, co, cc, osl, _, _, _, _, _, _, _, _, _, hf, _⟩ := SG.ex
      exact ⟨_, _, _, _, hf⟩
    exact (Looks.ld (part := none) (Xh _ _ hfd)).andThen .now
  refine spliced_cons (ld_own sc.kind sc.place (hns.keeps k3') rfl (spliced_nil ⟨⟨hu, X1.keeps k3'⟩, ?_⟩))
  refine bound_call hu ?_
  refine gate_init (nm := nmG) M hsup T SG hlG hb3 (k3' _ _ hx1) hxb ?_ fun h' tk dx t1 GE => ?_
  · show A.depth + 1 < recursionLimit
    omega
  have neL : hp.objs.size ≠ x := Nat.ne_of_gt (Heap.lt_size hx)
  have k4' : ∀ b o, b ≠ x → h₁.get? b = some o → h'.get? b = some o := fun b o hb e => GE.keep b o hb (k3' b o e)
  have hb4 : base.StaysIn h' := fun b o e => k4' b o (fun z => by rw [z, hxb] at e; cases e) (hb1 b o e)
  have X4 := M.kin.keeps hb4
  have hns4 := ns_at (h' := h') hns fun o e => k4' _ _ neL e
  obtain ⟨tk4, hn4⟩ := GE.ns
  have hm : HandSPX.refsVE (.ref C :: bm) = true := hbm
  show _root_.PySem.wpAt _ _ _ (PySem.execs [stAt "name" (.Constant (.str nm) kk c4) c1 c2 c3] (ksEnv qual scope hp.objs.size f (.ref co) cc)) _ _ _
  refine wpAt_of_wpAny (wpAny_execs_cons (plainObj_wpAny_Assign_Attribute ?_ rfl))
  refine Constant_str ?_
  refine ld_own sc.kind sc.self hns4 rfl ?_
  obtain ⟨oD, _, _, hoD, _, _⟩ := id hn4
  refine set_plain X4 (ox := { cls := .ref C, dict := some dx, data := .fields #[.ref t1, .none, .none, .none, .bool false, .none] }) (od := some oD) ⟨GE.obj, rfl, rfl, hoD⟩ T.sa ?_
  refine OEX.osa_old (nl := ["name", "place"]) X4 GE.obj hn4 (fun y hy => ?_) (by simp) hclC hm rfl T.noN (fun h6 tk6 k6 hn6 => ?_)
  · by_cases e : y = "name"
    · rw [e]; simp
    · by_cases e2 : y = "place"
      · rw [e2]; simp
      · refine absurd ?_ hy
        show (if y = "name" then _ else if y = "place" then _ else none) = none
        rw [if_neg e, if_neg e2]
  have dbig : hp.objs.size ≤ dx := by
    have z : hp.objs.size < (h2.push { cls := .type "method", data := .fields #[.ref fG, .ref x] }).objs.size := (ns_at (h' := h2.push { cls := .type "method", data := .fields #[.ref fG, .ref x] }) hns fun o e => k3' _ _ e).lt
    have z3 : (h2.push { cls := .type "method", data := .fields #[.ref fG, .ref x] }).objs.size ≤ dx := GE.dbig
    omega
  have hfin : ∃ t, h6.Ns1 dx (fun y => if y = "name" then some (.str nm t) else if y = "place" then some v else none) := by
    obtain ⟨tt, hn7⟩ : ∃ tt, h6.Ns1 dx (fun y => if y = "name" then some (.str nm tt) else (fun y : Str => if y = "name" then some (.str nmG tk4) else if y = "place" then some v else none) y) := ⟨_, hn6⟩
    refine ⟨tt, ns1_eq hn7 fun y => ?_⟩
    by_cases e : y = "name"
    · rw [if_pos e, if_pos e]
    · rw [if_neg e, if_neg e]
      exact if_neg e
  refine wpAny_execs_nil (hq h6 _ dx t1 ⟨fun b o hb e => ?_, ?_, dbig, GE.dne, hfin⟩)
  · exact k6 b o (Nat.ne_of_lt (Nat.lt_of_lt_of_le (Heap.lt_size e) dbig)) (k4' b o hb (k₁ b o e))
  · exact k6 x _ (Ne.symm GE.dne) GE.obj
end
end Mi

end
section
/-! M21: raise X(e). -/
namespace Mi
open PySem L2
section
variable {Z : Wo} {L : XLay} {P : Prg} {G : GTab} {n : Nat} {κ : List (Nat × CloD)} {W : WX} {X : Cx}
/-- X(e) -/
def tMkE (C : Addr) (nm : Str) (te : TE) : St → Hp → XK → Prop := fun sv H Q => tCons te tNil sv H fun vs H1 => ∃ v, vs = [v] ∧ ∀ d, H1 d = none → Q (.ref C) (some d) (upd H1 d (.xd [("place", v), ("name", .str nm)]))
theorem relO_exc {v : V} {v' : Value} {nm : Str} {tk : Tok} (r : RelV v v') (f : Str) : RelO (List.lookup f [(("place" : Str), v), ("name", V.str nm)]) (if f = "name" then some (.str nm tk) else if f = "place" then some v' else none) := by
  by_cases h1 : f = "place"
  · subst h1
    have e : (if ("place" : Str) = "name" then some (Value.str nm tk) else if ("place" : Str) = "place" then some v' else none) = some v' := by
      rw [if_neg (by decide), if_pos rfl]
    rw [e]
    exact r
  · have e1 : (f == ("place" : Str)) = false := by simpa using h1
    by_cases h2 : f = "name"
    · subst h2
      rw [if_pos rfl]
      exact ⟨tk, rfl⟩
    · have e2 : (f == ("name" : Str)) = false := by simpa using h2
      rw [if_neg h2, if_neg h1]
      have : List.lookup f [(("place" : Str), v), ("name", V.str nm)] = none := by simp [List.lookup, e1, e2]
      rw [this]
      trivial
theorem pmk_exc {C : Addr} {nm : Str} {e : Expr} {te : TE} {x : Str} {p pos : Pos} {k : Nat} (T : ExFact X.K X.prog C nm) (hm : X.mg x = some (.ref C)) (hsup : X.mg "super" = none) (hr : Room k X.A) (he : PE X e te) (hg : Gl X x) (hdb : (x == ("__debug__" : Str)) = false) (hs : noStar [e] = true) :
    PMk X (.Call (.Name x p) [e] [] pos) (tMkE C nm te) := by
  intro pins s sv H Q I h
  obtain ⟨⟨fI, fG, B, qual, qualG, nmG, a1, a2, a3, a4, a5, p', c1, c2, c3, c4, a1', a2', a3', a4', a5', p'', b1, b2, b3, b4, c1', c2', c3', c4', kk, kk', TC, SI, hl, SG, hlG, hsC, iC⟩, kC, exC, tyC⟩ := T
  obtain ⟨nm', q, N, bs, bm, sn, sub, ab, col, dd, k0, k1, k2, k3, k5, hC, hbm⟩ := id TC.cls
  refine wpAny_Call_Name_kw (ld_glob I hg hm ?_ hdb)
  refine PySem.W.callWith_K (h₀ := X.base) I.ok.mod.kin kC (thn ((pa_cons he pa_nil (star_cons hs)).run pos pins s sv H _ I h) fun us s1 hh => ?_) (star_cons hs) (star_plain (noStar_tail hs))
  obtain ⟨vs, H1, I1, r1, v, ev, q1⟩ := hh
  subst ev
  refine ⟨I1.kIn, ?_⟩
  obtain ⟨v', rfl, rv⟩ := vals1 r1
  show wpAny _ _ (call (.ref C) [v']) _ _ _
  obtain ⟨hp, g, dr, tk, os⟩ := s1
  have bk : ∀ b o, X.base.get? b = some o → hp.get? b = some o := I1.bk
  have kp : ∀ b o, hp.get? b = some o → ((hp.push (PySem.W.kdv_tup [v'])).push (PySem.HandSPX.excO C hp.objs.size)).get? b = some o := fun b o e => Heap.get?_push_of_some _ (Heap.get?_push_of_some _ e)
  have hget : ((hp.push (PySem.W.kdv_tup [v'])).push (PySem.HandSPX.excO C hp.objs.size)).get? (hp.objs.size + 1) = some (PySem.HandSPX.excO C hp.objs.size) := by
    have := Heap.get?_push_size (hp.push (PySem.W.kdv_tup [v'])) (o := PySem.HandSPX.excO C hp.objs.size) rfl
    rwa [Heap.size_push] at this
  have hxb : X.base.get? (hp.objs.size + 1) = none := by
    cases e : X.base.get? (hp.objs.size + 1) with
    | none => rfl
    | some o => exact absurd (Nat.lt_of_succ_lt (Heap.lt_size (bk _ _ e))) (Nat.lt_irrefl _)
  refine wpAny_call (PySem.HandSPX.call_own F.excBase_ValueError (fun Y => PySem.HandSPX.refsVE_contains Y bm hbm) (I1.kIn _ _ hC) (PySem.W.looks_findIn I1.kIn iC) (fun self => PySem.W.bind_fn I1.kIn self SI.ty) (by rw [sizeLine_eq]; exact (show 1 ≤ 16777216 by decide)) ?_)
  refine low_init (nm := nm) (s := ⟨(hp.push (PySem.W.kdv_tup [v'])).push (PySem.HandSPX.excO C hp.objs.size), g, dr, tk, os⟩) I1.ok.mod hsup TC SI hl SG hlG hsC (fun b o e => kp b o (bk b o e)) hget hxb ?_ fun h' tk' d t1 E => ?_
  · have := hr.dp
    rw [make_depth]
    omega
  have dbig : hp.objs.size ≤ d := by
    have := E.dbig
    simp only [Heap.size_push] at this
    omega
  have hd1 : H1 d = none := I1.hok.fresh dbig
  obtain ⟨tkn, hns⟩ := E.ns
  obtain ⟨GG, g1, g2⟩ := restrict h' fun b => decide (b ≠ hp.objs.size + 1)
  have gk : ∀ b, b ≠ hp.objs.size + 1 → GG.get? b = h'.get? b := fun b hb => g1 b (decide_eq_true hb)
  have ge : GG.get? (hp.objs.size + 1) = none := g2 _ (by simp)
  have old : ∀ b o, hp.get? b = some o → GG.get? b = some o := fun b o q => by
    have hb : b ≠ hp.objs.size + 1 := Nat.ne_of_lt (Nat.lt_succ_of_lt (Heap.lt_size q))
    exact (gk b hb).trans (E.keep b o hb (kp b o q))
  have ob : ObjOk X.prog X.w (upd H1 d (.xd [(("place" : Str), v), ("name", .str nm)])) GG d (.xd [(("place" : Str), v), ("name", .str nm)]) :=
    ⟨_, hns.at (fun o q => (gk d E.dne).trans q), fun f => relO_exc rv f⟩
  have J : Inv X pins sv (upd H1 d (.xd [(("place" : Str), v), ("name", .str nm)])) ⟨GG, g, dr, tk', os⟩ := I1.laid (t' := tk') old dbig ob
  refine ⟨rfl, ?_⟩
  refine ⟨hp.objs.size + 1, _, _, ⟨GG, g, dr, tk', os⟩, _, .ref C, some d, rfl, J, fun b o q => ?_, ge, E.obj, ⟨rfl, rfl⟩, rfl, rfl, ?_, rfl, I1.bare, raises_own exC tyC, q1 d hd1⟩
  · by_cases hb : b = hp.objs.size + 1
    · have q' : GG.get? b = some o := q
      rw [hb, ge] at q'; cases q'
    · exact (gk b hb).symm.trans q
  · rw [upd_ne (Ne.symm E.dne)]
    exact I1.hok.fresh (Nat.le_succ _)
theorem ss_rse {x : Str} {c : Nat} {m : ME} {e : Expr} {p pos pos2 : Pos} (S : XS Z L P n W G X) (hc : (x, c) ∈ G.rais) (hx : G.xnm.lookup x = some c) (he : SE Z L P n κ W X m e) (hg : Gl X x) (hdb : (x == ("__debug__" : Str)) = false) (hs : noStar [e] = true) :
    SSt Z L P n κ W X (.rse c m) (.Raise (some (.Call (.Name x p) [e] [] pos)) none pos2) := by
  have T := S.ok.wok.exf _ _ hc
  rw [← S.ok.K, ← S.ok.prog] at T
  have hm : X.mg x = some (.ref (L.xa c)) := by rw [S.ok.mg]; exact (S.ok.wok.xnm _ _ hx).1
  have hsup : X.mg "super" = none := by rw [S.ok.mg]; exact S.ok.wok.blt _ (by decide +kernel)
  refine ps_weak (ps_raise S.ok.calm (S.ok.tk.to S.hf) (pmk_exc T hm hsup S.ok.room he hg hdb hs)) fun De sv H h => ?_
  obtain ⟨ρ, σ, M, sm, er, k, q⟩ := h
  refine tK.mono (go_st sm er k q) fun v H1 ⟨ρ1, M1, a, m1, s1, e1, k1, rx, q1⟩ => ?_
  refine ⟨v, rfl, fun d hd => ?_⟩
  have mm : Mono ρ1 H1 ρ1 (upd H1 d (.xd [(("place" : Str), v), ("name", .str (L.xn c))])) := upd_keep hd
  exact q1 ρ1 _ sv d v mm (s1.upd hd) (mm.env e1) (k1.mono mm) (mm.rep _ _ rx) (s1.fresh hd) upd_same
end
end Mi

end
section
/-! M22: try: .. except X as e: .. except Y: .. -/
namespace Mi
open PySem L2
/-- an except clause's suite: the caught one, its class, its dict -/
abbrev SuT := Addr → Value → Option Addr → TS
def unE (i : Nat) (De : Ends) : Ends := { nx := fun sv H => De.nx (sv.set i none) H, rt := De.rt, bk := fun sv H => De.bk (sv.set i none) H, ct := fun sv H => De.ct (sv.set i none) H }
/-- what the clauses wish of the body's exceptions -/
def wHds (K : PySem.W.Frag) (Wo : WX) (De : Ends) : List (Value × Option Nat × SuT) → WX
  | [] => Wo
  | (c, none, ts) :: r => fun cls d sv H => ∃ b, PySem.W.exmOne K cls c = some b ∧ (b = true → ∀ a, H a = none → ts a cls d De sv H) ∧ (b = false → wHds K Wo De r cls d sv H)
  | (c, some i, ts) :: r => fun cls d sv H => ∃ b, PySem.W.exmOne K cls c = some b ∧ (b = true → ∀ a, H a = none → ts a cls d (unE i De) (sv.set i (some (.ref a))) H) ∧ (b = false → wHds K Wo De r cls d sv H)
/-- the suite does that -/
def SuOk (X : Cx) (suite : List Stmt) (ts : SuT) : Prop := ∀ (a : Addr) (oe : Obj) (cls : Value) (d : Option Addr) (pn : List (Addr × Obj)), Zc cls d oe → (∃ vs, oe.data = .fields vs) → PSs (X.suite a ((a, oe) :: pn)) suite (ts a cls d)
inductive HdsN (X : Cx) : List ExceptHandler → List (Value × Option Nat × SuT) → Prop
  | nil : HdsN X [] []
  | bare {x : Str} {c : Value} {ts : SuT} {b : Stmt} {su : List Stmt} {p q : Pos} {hds : List ExceptHandler} {l : List (Value × Option Nat × SuT)} (hc : Names X x c) (hsu : SuOk X (b :: su) ts) (r : HdsN X hds l) : HdsN X (.ExceptHandler (some (.Name x p)) none (b :: su) q :: hds) ((c, none, ts) :: l)
  | named {x y : Str} {c : Value} {i : Nat} {ts : SuT} {b : Stmt} {su : List Stmt} {p q : Pos} {hds : List ExceptHandler} {l : List (Value × Option Nat × SuT)} (hc : Names X x c) (hi : X.N[i]? = some y) (hy : X.env.scope.names.lookup y = some .local) (hsu : SuOk X (b :: su) ts) (r : HdsN X hds l) :
      HdsN X (.ExceptHandler (some (.Name x p)) (some y) (b :: su) q :: hds) ((c, some i, ts) :: l)
section
variable {X : Cx} {body : List Stmt} {h0 : ExceptHandler} {hds : List ExceptHandler} {l : List (Value × Option Nat × SuT)} {pos : Pos} {tb : WX → TS} {Wo : WX}
theorem ps_tryN (hs : X.stack = X.env :: X.outer) (hf : X.env.frame = some X.env.locals) (hN : X.N.Nodup) (tk : Takes X Wo)
    (hb : ∀ (V : WX) (pn : List (Addr × Obj)) (xe : Value → Shared → Prop), Takes (X.tr (X.pn ++ pn) xe) V → PassesOwn (model X.prog X.w) X.A X.env xe → PSs (X.tr (X.pn ++ pn) xe) body (tb V))
    (hh : HdsN X (h0 :: hds) l) : PS X (.Try body (h0 :: hds) [] [] pos) (fun De sv H => tb (wHds X.K Wo De l) De sv H) := by
  refine ⟨fun pins s sv H De I h => ?_⟩
  have ok := I.ok
  have fr0 : X.A.frames = some (X.env :: X.outer) := by rw [ok.frames, hs]
  refine wpAny_Try_except (wpAny_mono ((hb (wHds X.K Wo De l) pins (fun e t1 => wpAny (model X.prog X.w) X.A (noteFrame e X.env) (fun _ t2 => wpAny (model X.prog X.w) X.A (setFlight e none) (fun _ t3 =>
    wpAny (model X.prog X.w) X.A (handleBy e X.env (h0 :: hds)) (SP X pins De) X.xe t3) X.xe t2) X.xe t1) (fun u s' xx => ?_) PassesOwn.looking).run [] s sv H De (I.toTry _) h) (fun f s1 hsp => ?_) (fun e s1 he => he))
  · obtain ⟨a, B, sI, pb, sv', H', cls, d, rfl, J0, nb, up, sky, na, os, ag, w⟩ := xx
    have J : Inv X pins sv' H' sI := J0.ofTry ok
    rw [show (X.tr (X.pn ++ pins) _).stack = X.env :: X.outer from hs] at sky
    show wpAny (model X.prog X.w) X.A (noteFrame (.ref a) X.env) _ _ _
    refine Sky.land Zc.steady fr0 hf sky fun h3 fl3 up3 => ?_
    have J3 : Inv X pins sv' H' { s' with heap := h3 } := J.landed nb fl3.1 (up.trans up3) os ag
    obtain ⟨oe3, vs3, he3, hz3, hd3⟩ := fl3.there
    have nfr : a ∉ frs (X.env :: X.outer) := fun hm => by
      obtain ⟨_, o', e', hnf⟩ := fl3.2.2.1.mem hm
      rw [he3] at e'
      cases e'
      exact hnf _ hd3
    have nL : a ≠ X.env.locals := fun z => nfr (List.mem_filterMap.mpr ⟨X.env, List.mem_cons_self, by rw [hf, z]⟩)
    have nF : a ∉ X.fs := fun hm => by
      obtain ⟨e, he, q⟩ := List.mem_filterMap.mp hm
      exact nfr (List.mem_filterMap.mpr ⟨e, List.mem_cons_of_mem _ he, q⟩)
    have S3 := J3.suite he3 hd3 na nL nF
    have LT : PySem.W.Looks (model X.prog X.w) h3 (typeOf (.ref a)) cls := fun A Q E s k q => wpAny_typeOf_ref (k _ _ he3) (by rw [hz3.1]; exact q)
    have test : ∀ {x : Str} {c : Value} {np : Pos} {Q : Value → Shared → Prop} {E : Value → Shared → Prop}, Names X x c → Q c { s' with heap := h3 } → wpAny (model X.prog X.w) (X.A.mark (some (.ref a))) (eval (.Name x np) X.env) Q E { s' with heap := h3 } := fun {x c np Q E} hc q => by
      obtain ⟨hg, hdb, hm | ⟨hm, hv, hnn⟩⟩ := hc
      · exact ld_glob (X := X.suite a ((a, oe3) :: (X.pn ++ pins))) S3 hg hm q hdb
      · exact ld_blt (X := X.suite a ((a, oe3) :: (X.pn ++ pins))) S3 hg hm hv q hnn hdb
    have go : ∀ {hs' : List ExceptHandler} {l' : List (Value × Option Nat × SuT)}, HdsN X hs' l' → wHds X.K Wo De l' cls d sv' H' → wpAny (model X.prog X.w) X.A (handleBy (.ref a) X.env hs') (SP X pins De) X.xe { s' with heap := h3 } := by
      intro hs' l' hk
      induction hk with
      | nil =>
        intro w
        obtain ⟨_, _, _, oe, vs, T, _, _, he, _, hd, h1, _⟩ := id fl3
        refine wpAny_handleBy_nil ?_
        unfold PySem.passOn
        refine wpAny_bind (wpAny_field he hd h1 ?_)
        rw [if_neg (show ¬ ((Value.ref T == Value.none) = true) from by simp)]
        have fin : wpAny (model X.prog X.w) X.A (setFlight (.ref a) X.env.frame) (fun _ t4 => wpAny (model X.prog X.w) X.A (throw (.ref a) : Sem Flow) (SP X pins De) X.xe t4) X.xe { s' with heap := h3 } := by
          rw [hf]
          refine HandSPX.setFlight_upZ fl3 fun h4 hh4 up4 => wpAny_throw (tk _ _ ⟨a, B, sI, pins, sv', H', cls, d, rfl, J, nb, (up.trans up3).trans up4, .inr (.inr (by rw [hs]; exact hh4)), na, os, ag, w⟩)
        first
          | exact wpAny_bind (wpAny_pure (wpAny_bind fin))
          | exact wpAny_bind fin
      | @bare x c ts b su p q hds2 l2 hc hsu r ih =>
        intro w
        obtain ⟨k, hb1, hyes, hno⟩ := w
        refine wpAny_handleBy_cons (codeAny_handlers_test (test hc ((PySem.W.exm_one (M := model X.prog X.w) (J3.kIn) LT hb1).here ?_))) (by intro q; cases q)
        cases k with
        | false => exact ih (hno rfl)
        | true =>
          refine codeAny_handlers_suite (HandSPX.lands_againZ fl3 fun h4 fl4 up4 => ?_)
          have J4 : Inv X pins sv' H' { s' with heap := h4 } := J.landed nb fl4.1 ((up.trans up3).trans up4) os ag
          obtain ⟨oe4, vs4, he4, hz4, hd4⟩ := fl4.there
          refine wpAny_mono ((hsu a oe4 cls d (X.pn ++ pins) hz4 ⟨_, hd4⟩).run [] _ _ H' _ (J4.suite he4 hd4 na nL nF) (hyes rfl a na)) (fun f s6 hsp => ?_) (fun _ _ z => False.elim z)
          cases f with
          | next => obtain ⟨sv6, H6, S6, q6⟩ := hsp; exact ⟨_, _, S6.unsuite ok, q6⟩
          | brk => obtain ⟨sv6, H6, S6, q6⟩ := hsp; exact ⟨_, _, S6.unsuite ok, q6⟩
          | cont => obtain ⟨sv6, H6, S6, q6⟩ := hsp; exact ⟨_, _, S6.unsuite ok, q6⟩
          | ret u => obtain ⟨v6, sv6, H6, S6, r6, q6⟩ := hsp; exact ⟨_, _, _, S6.unsuite ok, r6, q6⟩
      | @named x y c i ts b su p q hds2 l2 hc hi hy hsu r ih =>
        intro w
        obtain ⟨k, hb1, hyes, hno⟩ := w
        refine wpAny_handleBy_cons (codeAny_handlers_test (test hc ((PySem.W.exm_one (M := model X.prog X.w) (J3.kIn) LT hb1).here ?_))) (by intro q; cases q)
        cases k with
        | false => exact ih (hno rfl)
        | true =>
          refine codeAny_handlers_suite_as (HandSPX.lands_againZ fl3 fun h4 fl4 up4 => ?_)
          have J4 : Inv X pins sv' H' { s' with heap := h4 } := J.landed nb fl4.1 ((up.trans up3).trans up4) os ag
          obtain ⟨oe4, vs4, he4, hz4, hd4⟩ := fl4.there
          refine store_ok (X := X.suite a ((a, oe4) :: (X.pn ++ pins))) (v := .ref a) (J4.suite he4 hd4 na nL nF) hN hi (.inl hy) rfl (fun s5 S5 => ?_) (.inr hy)
          refine wpAny_mono ((hsu a oe4 cls d (X.pn ++ pins) hz4 ⟨_, hd4⟩).run [] s5 _ H' _ S5 (hyes rfl a na)) (fun f s6 hsp => ?_) (fun _ _ z => False.elim z)
          cases f with
          | next => obtain ⟨sv6, H6, S6, q6⟩ := hsp; exact gone_ok (S6.unsuite ok) hN hi hy fun s7 J7 => ⟨_, _, J7, q6⟩
          | brk => obtain ⟨sv6, H6, S6, q6⟩ := hsp; exact gone_ok (S6.unsuite ok) hN hi hy fun s7 J7 => ⟨_, _, J7, q6⟩
          | cont => obtain ⟨sv6, H6, S6, q6⟩ := hsp; exact gone_ok (S6.unsuite ok) hN hi hy fun s7 J7 => ⟨_, _, J7, q6⟩
          | ret u => obtain ⟨v6, sv6, H6, S6, r6, q6⟩ := hsp; exact gone_ok (S6.unsuite ok) hN hi hy fun s7 J7 => ⟨_, _, _, J7, r6, q6⟩
    exact go hh w
  · cases f with
    | next => obtain ⟨sv', H', J', q⟩ := hsp; exact wpAny_execs_nil ⟨sv', H', J'.ofTry ok, q⟩
    | brk => obtain ⟨sv', H', J', q⟩ := hsp; exact ⟨sv', H', J'.ofTry ok, q⟩
    | cont => obtain ⟨sv', H', J', q⟩ := hsp; exact ⟨sv', H', J'.ofTry ok, q⟩
    | ret u => obtain ⟨v, sv', H', J', r, q⟩ := hsp; exact ⟨v, sv', H', J'.ofTry ok, r, q⟩
end
end Mi

end
section
/-! M23: try, as a statement. -/
namespace Mi
open PySem L2
section
variable {Z : Wo} {L : XLay} {P : Prg} {G : GTab} {n : Nat} {κ : List (Nat × CloD)} {W : WX} {X : Cx}
theorem slot_at {σ : Env} {i : Nat} {d : D} (h : slot σ i = some d) : σ[i]? = some (some d) := by
  unfold slot at h
  cases z : σ[i]? with
  | none => rw [z] at h; cases h
  | some o => rw [z] at h; cases o with
    | none => cases h
    | some x => cases h; rfl
/-- the state in an except clause's suite; oi the slot of the exception's name -/
structure SU (L : XLay) (P : Prg) (oi : Option Nat) (a : Addr) (cls : Value) (d : Option Addr) (ρ : List Addr) (σ : Env) (M : Hm) (sv : St) (H : Hp) : Prop where
  sim : Sim L.toLay ρ H M
  vars : ∀ (j : Nat) (x : D), oi ≠ some j → slot σ j = some x → ∃ v, sv[j]? = some (some v) ∧ Rep L.toLay ρ H x v
  exc : ∀ (i : Nat) (x : D), oi = some i → slot σ i = some x → ∃ (c : Nat) (dd : Addr) (v : V), c < P.exs ∧ cls = .ref (L.xa c) ∧ d = some dd ∧ sv[i]? = some (some (.ref a)) ∧ Rep L.toLay ρ H x v ∧ dd ∉ ρ ∧ H dd = some (.xd [("place", v), ("name", .str (L.xn c))])
theorem SU.mono {oi : Option Nat} {a : Addr} {cls : Value} {d : Option Addr} {ρ ρ1 : List Addr} {σ : Env} {M M1 : Hm} {sv : St} {H H1 : Hp} (h : SU L P oi a cls d ρ σ M sv H) (m : Mono ρ H ρ1 H1) (s : Sim L.toLay ρ1 H1 M1) : SU L P oi a cls d ρ1 σ M1 sv H1 := by
  refine ⟨s, fun j x hj e => ?_, fun i x hi e => ?_⟩
  · obtain ⟨v, e1, r⟩ := h.vars j x hj e
    exact ⟨v, e1, m.rep _ _ r⟩
  · obtain ⟨c, dd, v, hc, h1, h2, h3, h4, h5, h6⟩ := h.exc i x hi e
    exact ⟨c, dd, v, hc, h1, h2, h3, m.rep _ _ h4, m.notin h6 (fun ps z => by cases z) h5, m.keep _ _ h6 h5 (fun ps z => by cases z)⟩
/-- the reading there -/
def tSU (L : XLay) (P : Prg) (oi : Option Nat) (a : Addr) (cls : Value) (d : Option Addr) {α β : Type} (T : List Addr → Hp → α → β → Prop) (f : Env → Option α) : St → Hp → (β → Hp → Prop) → Prop := fun sv H Q =>
  ∃ ρ σ M al, SU L P oi a cls d ρ σ M sv H ∧ f σ = some al ∧ ∀ ρ' H' b, Mono ρ H ρ' H' → SU L P oi a cls d ρ' σ M sv H' → T ρ' H' al b → Q b H'
/-- an expression of a suite -/
def UE (L : XLay) (P : Prg) (X : Cx) (oi : Option Nat) (m : ME) (e : Expr) : Prop := ∀ (a : Addr) (oe : Obj) (cls : Value) (d : Option Addr) (pn : List (Addr × Obj)), Zc cls d oe → (∃ vs, oe.data = .fields vs) →
  PE (X.suite a ((a, oe) :: pn)) e (tSU L P oi a cls d (TD L) (evS m))
def UA (L : XLay) (P : Prg) (X : Cx) (oi : Option Nat) (ms : MEs) (es : List Expr) : Prop := ∀ (a : Addr) (oe : Obj) (cls : Value) (d : Option Addr) (pn : List (Addr × Obj)), Zc cls d oe → (∃ vs, oe.data = .fields vs) →
  PA (X.suite a ((a, oe) :: pn)) es (tSU L P oi a cls d (TDs L) (evS.evSs ms))
variable {oi : Option Nat}
theorem ue_const {x : D} {v : V} {e : Expr} (h : ∀ Y : Cx, PE Y e (tC v)) (r : ∀ ρ H, Rep L.toLay ρ H x v) : UE L P X oi (.cst x) e := fun a oe cls d pn hz hd => pe_weak (h _) fun sv H Q q => by
  obtain ⟨ρ, σ, M, al, s, e1, g⟩ := q
  have e1 : some x = some al := e1
  cases e1
  exact g ρ H v Mono.refl s (r ρ H)
theorem ue_var {i : Nat} {x : Str} {pos : Pos} (ho : oi ≠ some i) (hN : X.N[i]? = some x) (hv : Vis X.env.scope x) (hd : (x == ("__debug__" : Str)) = false) (hcd : (x == ("__classdict__" : Str)) = false) : UE L P X oi (.var i) (.Name x pos) := fun a oe cls d pn hz hf =>
  pe_weak (pe_var (X := X.suite a ((a, oe) :: pn)) hN hv hd hcd) fun sv H Q q => by
    obtain ⟨ρ, σ, M, al, s, e1, g⟩ := q
    obtain ⟨v, ev, r⟩ := s.vars i al ho e1
    exact ⟨v, ev, g ρ H v Mono.refl s r⟩
theorem ue_exp {i : Nat} {x : Str} {p pos : Pos} (O : XOk Z L P G n X W) (ho : oi = some i) (hN : X.N[i]? = some x) (hv : Vis X.env.scope x) (hd : (x == ("__debug__" : Str)) = false) (hcd : (x == ("__classdict__" : Str)) = false) (hs : noSup (.Name x p) = true) :
    UE L P X oi (.exp i) (.Attribute (.Name x p) "place" pos) := fun a oe cls d pn hz hf => by
  refine ⟨fun pins s sv H Q I q => ?_⟩
  obtain ⟨ρ, σ, M, al, su, e1, g⟩ := q
  obtain ⟨c, dd, v, hc, h1, h2, h3, h4, h5, h6⟩ := su.exc i al ho e1
  obtain ⟨T, hno⟩ := O.wok.xf c hc
  rw [← O.K] at T hno
  refine (pe_xf (X := X) (a := a) (oe := oe) (pn := pn) T hno hz hf (pe_var (X := X.suite a ((a, oe) :: pn)) hN hv hd hcd) (base_of hs)).run pins s sv H Q I ?_
  exact ⟨.ref a, h3, rfl, h1, dd, _, v, h2, h6, rfl, g ρ H v Mono.refl su h4⟩
theorem ua_nil : UA L P X oi .nil [] := fun a oe cls d pn hz hf => pa_weak pa_nil fun sv H Q q => by
  obtain ⟨ρ, σ, M, al, s, e1, g⟩ := q
  have e1 : some [] = some al := e1
  cases e1
  exact g ρ H [] Mono.refl s rfl
theorem ua_cons {m : ME} {ms : MEs} {e : Expr} {es : List Expr} (h1 : UE L P X oi m e) (h2 : UA L P X oi ms es) (hs : noStar (e :: es) = true) : UA L P X oi (.cons m ms) (e :: es) := fun a oe cls d pn hz hf => by
  refine pa_weak (pa_cons (h1 a oe cls d pn hz hf) (h2 a oe cls d pn hz hf) (star_cons hs)) fun sv H Q q => ?_
  obtain ⟨ρ, σ, M, al, s, e1, g⟩ := q
  have e1 : (match evS m σ, evS.evSs ms σ with | some d, some ds => some (d :: ds) | _, _ => none) = some al := e1
  cases q1 : evS m σ with
  | none => rw [q1] at e1; cases e1
  | some x =>
    cases q2 : evS.evSs ms σ with
    | none => rw [q1, q2] at e1; cases e1
    | some xs =>
      rw [q1, q2] at e1
      cases e1
      refine ⟨ρ, σ, M, x, s, q1, fun ρ1 H1 v m1 s1 r1 => ⟨ρ1, σ, M, xs, s1, q2, fun ρ2 H2 vs m2 s2 r2 => ?_⟩⟩
      exact g ρ2 H2 (v :: vs) (m1.trans m2) s2 ⟨v, vs, rfl, m2.rep _ _ r1, r2⟩
theorem evSs_len : ∀ {ms : MEs} {σ : Env} {al : List D}, evS.evSs ms σ = some al → al.length = ms.size
  | .nil, σ, al, h => by
    have h : some [] = some al := h
    cases h
    rfl
  | .cons m ms, σ, al, h => by
    have h : (match evS m σ, evS.evSs ms σ with | some d, some ds => some (d :: ds) | _, _ => none) = some al := h
    cases q1 : evS m σ with
    | none => rw [q1] at h; cases h
    | some x =>
      cases q2 : evS.evSs ms σ with
      | none => rw [q1, q2] at h; cases h
      | some xs =>
        rw [q1, q2] at h
        cases h
        exact congrArg Nat.succ (evSs_len q2)
theorem ue_tup {ms : MEs} {es : List Expr} {k : Nat} {pos : Pos} (h : UA L P X oi ms es) (hl : ms.size ≤ 1000) : UE L P X oi (.tup ms) (.Tuple es k pos) := fun a oe cls d pn hz hf => by
  refine pe_weak (pe_tup (h a oe cls d pn hz hf)) fun sv H Q q => ?_
  obtain ⟨ρ, σ, M, al, s, e1, g⟩ := q
  have e1 : (evS.evSs ms σ).map D.tup = some al := e1
  cases q1 : evS.evSs ms σ with
  | none => rw [q1] at e1; cases e1
  | some xs =>
    rw [q1] at e1
    have e1 : some (D.tup xs) = some al := e1
    cases e1
    refine ⟨ρ, σ, M, xs, s, q1, fun ρ1 H1 vs m1 s1 r1 => ?_⟩
    refine ⟨by rw [r1.len, evSs_len q1]; exact small_len hl, fun b hb => ?_⟩
    have mm : Mono ρ1 H1 ρ1 (upd H1 b (.tup vs)) := upd_keep hb
    have sm := s1.sim.upd (o := .tup vs) hb
    exact g ρ1 _ (.ref b) (m1.trans mm) (s1.mono mm sm) ⟨b, vs, rfl, .inl ⟨s1.sim.fresh hb, .inl upd_same⟩, mm.repL _ _ r1⟩
/-- a suite: return .. -/
def tsU (L : XLay) (P : Prg) (oi : Option Nat) (m : ME) : SuT := fun a cls d De sv H => tSU L P oi a cls d (TD L) (evS m) sv H fun v H' => De.rt v H'
theorem su_ret {m : ME} {e : Expr} {pos : Pos} (h : UE L P X oi m e) : SuOk X [.Return (some e) pos] (tsU L P oi m) := fun a oe cls d pn hz hf =>
  pss_weak (pss_cons (ps_ret (h a oe cls d pn hz hf)) pss_nil) fun De sv H q => q
/-- a def's scope has the names; the clauses are those -/
inductive HsS (L : XLay) (P : Prg) (G : GTab) (X : Cx) : MHs → List ExceptHandler → List (Value × Option Nat × SuT) → Prop
  | nil : HsS L P G X .nil [] []
  | bare {x : Str} {h : Nat} {m : ME} {e : Expr} {p q pos : Pos} {ms : MHs} {hds : List ExceptHandler} {l : List (Value × Option Nat × SuT)} (hx : G.xnm.lookup x = some h) (hg : Gl X x) (hdb : (x == ("__debug__" : Str)) = false) (he : UE L P X none m e) (r : HsS L P G X ms hds l) :
      HsS L P G X (.cons h none m ms) (.ExceptHandler (some (.Name x p)) none [.Return (some e) pos] q :: hds) ((.ref (L.xa h), none, tsU L P none m) :: l)
  | named {x y : Str} {h i : Nat} {m : ME} {e : Expr} {p q pos : Pos} {ms : MHs} {hds : List ExceptHandler} {l : List (Value × Option Nat × SuT)} (hx : G.xnm.lookup x = some h) (hg : Gl X x) (hdb : (x == ("__debug__" : Str)) = false) (hi : X.N[i]? = some y) (hy : X.env.scope.names.lookup y = some .local)
      (he : UE L P X (some i) m e) (r : HsS L P G X ms hds l) : HsS L P G X (.cons h (some i) m ms) (.ExceptHandler (some (.Name x p)) (some y) [.Return (some e) pos] q :: hds) ((.ref (L.xa h), some i, tsU L P (some i) m) :: l)
theorem HsS.hds (O : XOk Z L P G n X W) {ms : MHs} {hds : List ExceptHandler} {l : List (Value × Option Nat × SuT)} (h : HsS L P G X ms hds l) : HdsN X hds l := by
  induction h with
  | nil => exact .nil
  | bare hx hg hdb he r ih => exact .bare ⟨hg, hdb, .inl (by rw [O.mg]; exact (O.wok.xnm _ _ hx).1)⟩ (su_ret he) ih
  | named hx hg hdb hi hy he r ih => exact .named ⟨hg, hdb, .inl (by rw [O.mg]; exact (O.wok.xnm _ _ hx).1)⟩ hi hy (su_ret he) ih
theorem HsS.wish (O : XOk Z L P G n X W) {De : Ends} {ρ : List Addr} {σ : Env} {M : Hm} {sv : St} {H : Hp} {c : Nat} {x : D} {v : V} {dd : Addr} (sm : Sim L.toLay ρ H M) (er : EnvR L.toLay ρ H σ sv) (k : KR Z L P Z.ent n κ ρ H sv) (rx : Rep L.toLay ρ H x v) (nd : dd ∉ ρ)
    (hd : H dd = some (.xd [("place", v), ("name", .str (L.xn c))])) {ms : MHs} {hds : List ExceptHandler} {l : List (Value × Option Nat × SuT)} (h : HsS L P G X ms hds l) :
    GoS Z L P n κ W ρ H (caught P c x σ M ms) De → wHds L.K W De l (.ref (L.xa c)) (some dd) sv H := by
  induction h with
  | nil => exact fun g => g ρ H sv dd v Mono.refl sm er k rx nd hd
  | @bare y hh m e p q pos ms hds l hx hg hdb he r ih =>
    intro g
    have g : GoS Z L P n κ W ρ H (if decide (c < P.exs) && decide (hh < P.exs) then (if P.below c hh then match evS m σ with | some d => .ret d M | none => .bad else caught P c x σ M ms) else .bad) De := g
    by_cases b1 : (decide (c < P.exs) && decide (hh < P.exs)) = true
    · rw [if_pos b1] at g
      obtain ⟨hc, hh'⟩ := Bool.and_eq_true_iff.mp b1
      refine ⟨P.below c hh, O.wok.exm c hh (of_decide_eq_true hc) (of_decide_eq_true hh'), fun e1 a ha => ?_, fun e1 => ?_⟩
      · rw [if_pos e1] at g
        cases q1 : evS m σ with
        | none => rw [q1] at g; exact False.elim g
        | some d =>
          rw [q1] at g
          refine ⟨ρ, σ, M, d, ⟨sm, fun j x _ e2 => er.2 j x (slot_at e2), fun i x hi _ => by cases hi⟩, q1, fun ρ' H' w m' s' r' => g ρ' H' w m' s'.sim r'⟩
      · rw [if_neg (by rw [e1]; exact Bool.false_ne_true)] at g
        exact ih g
    · rw [if_neg b1] at g
      exact False.elim g
  | @named y z hh i m e p q pos ms hds l hx hg hdb hi hy he r ih =>
    intro g
    have g : GoS Z L P n κ W ρ H (if decide (c < P.exs) && decide (hh < P.exs) then (if P.below c hh then match evS m (σ.set i (some x)) with | some d => .ret d M | none => .bad else caught P c x σ M ms) else .bad) De := g
    by_cases b1 : (decide (c < P.exs) && decide (hh < P.exs)) = true
    · rw [if_pos b1] at g
      obtain ⟨hc, hh'⟩ := Bool.and_eq_true_iff.mp b1
      refine ⟨P.below c hh, O.wok.exm c hh (of_decide_eq_true hc) (of_decide_eq_true hh'), fun e1 a ha => ?_, fun e1 => ?_⟩
      · rw [if_pos e1] at g
        cases q1 : evS m (σ.set i (some x)) with
        | none => rw [q1] at g; exact False.elim g
        | some d =>
          rw [q1] at g
          refine ⟨ρ, σ.set i (some x), M, d, ⟨sm, fun j x' hj e2 => ?_, fun j x' hj e2 => ?_⟩, q1, fun ρ' H' w m' s' r' => g ρ' H' w m' s'.sim r'⟩
          · have hij : i ≠ j := fun z => hj (by rw [z])
            have e3 := slot_at e2
            rw [List.getElem?_set_ne hij] at e3
            obtain ⟨u, eu, ru⟩ := er.2 j x' e3
            exact ⟨u, by rw [List.getElem?_set_ne hij]; exact eu, ru⟩
          · cases hj
            have e3 := slot_at e2
            have hl : i < σ.length := by
              have := (List.getElem?_eq_some_iff.mp e3).1
              rwa [List.length_set] at this
            rw [List.getElem?_set_self hl] at e3
            cases e3
            exact ⟨c, dd, v, of_decide_eq_true hc, rfl, rfl, List.getElem?_set_self (by rw [er.1]; exact hl), rx, nd, hd⟩
      · rw [if_neg (by rw [e1]; exact Bool.false_ne_true)] at g
        exact ih g
    · rw [if_neg b1] at g
      exact False.elim g
/-- the context of a try's body -/
theorem XS.tr (S : XS Z L P n W G X) {V : WX} {pn : List (Addr × Obj)} {xe : Value → Shared → Prop} (tk : Takes (X.tr (X.pn ++ pn) xe) V) (po : PassesOwn (model X.prog X.w) X.A X.env xe) (ok : X.Ok) : XS Z L P n V G (X.tr (X.pn ++ pn) xe) := by
  have O := S.ok
  exact ⟨⟨O.prog, O.w, O.mg, O.base, O.K, O.calm, O.nd, TakesA.of tk S.hf, O.stk, O.room, fun pins sv H s I => O.una _ _ _ _ (I.ofTry ok), O.wok⟩, po, S.hs, S.hf, S.ex⟩
theorem ss_tr {b : MSs} {ms : MHs} {body : List Stmt} {h0 : ExceptHandler} {hds : List ExceptHandler} {l : List (Value × Option Nat × SuT)} {pos : Pos} (S : XS Z L P n W G X) (hh : HsS L P G X ms (h0 :: hds) l)
    (hb : ∀ (V : WX) (pn : List (Addr × Obj)) (xe : Value → Shared → Prop), XS Z L P n V G (X.tr (X.pn ++ pn) xe) → SSs Z L P n κ V (X.tr (X.pn ++ pn) xe) b body) : SSt Z L P n κ W X (.tr b ms) (.Try body (h0 :: hds) [] [] pos) := by
  refine ⟨fun pins s sv H De I q => ?_⟩
  have ok := I.ok
  refine (ps_tryN (tb := fun V => tS Z L P n κ V (execs P (rt P n) κ b)) S.hs S.hf S.ok.nd (S.ok.tk.to S.hf) (fun V pn xe tk po => hb V pn xe (S.tr tk po ok)) (hh.hds S.ok)).run pins s sv H De I ?_
  obtain ⟨ρ, σ, M, sm, er, k, q⟩ := q
  refine ⟨ρ, σ, M, sm, er, k, ?_⟩
  have q : GoS Z L P n κ W ρ H (match execs P (rt P n) κ b σ M with | .exc c v σ M => caught P c v σ M ms | r => r) De := q
  rw [S.ok.K]
  cases e : execs P (rt P n) κ b σ M with
  | nxt σ' M' => rw [e] at q; exact q
  | ret d M' => rw [e] at q; exact q
  | brk σ' M' => rw [e] at q; exact q
  | cnt σ' M' => rw [e] at q; exact q
  | bad => rw [e] at q; exact q
  | exc c x σ' M' =>
    rw [e] at q
    exact fun ρ' H' sv' dd v m s' er' k' rx nd hd => hh.wish S.ok s' er' k' rx nd hd (GoS.mono q m)
end
end Mi

end
section
/-! M24: dict displays. -/
namespace Mi
open PySem L2
/-- {k: v, ..}: the new dict stands locked while the pairs are made -/
def tDsp (trs : List (TE × TE)) : TE := fun sv H Q => ∀ p, H p = none → ∀ od, tPairs trs sv (upd H p (.frz od (.dK []))) fun ps H2 => H2 p = some (.frz od (.dK [])) ∧ ∃ kvs : List (Key × V), (ps = kvs.map fun kv => (kV kv.1, kv.2)) ∧ kvs.length ≤ 15 ∧ Q (.ref p) (upd H2 p (.dK (mergeK [] kvs)))
theorem pe_dsp {X : Cx} {pos : Pos} {keys : List (Option Expr)} {values : List Expr} {trs : List (TE × TE)} (pp : PPs X pos keys values trs) (al : keys.all (·.isSome) = true) (ln : keys.length = values.length) (ne : keys ≠ []) (few : keys.length ≤ 15) : PE X (.Dict keys values pos) (tDsp trs) := by
  refine ⟨fun pins s sv H Q I w => ?_⟩
  have fr := I.hok.fresh (Nat.le_refl s.heap.objs.size)
  have J := I.laid (a := s.heap.objs.size) (o := .dK []) (h' := s.heap.push { cls := .type "dict", data := .dict #[] }) (t' := s.toks) (fun _ _ e => Heap.get?_push_of_some _ e) (Nat.le_refl _) (dk_empty s.heap I.big)
  obtain ⟨od, J1⟩ := J.lock upd_same True.intro
  rw [upd_upd] at J1
  refine wpAny_Dict_walk (knd := mixKind X.prog X.w) al ln ne few (thn (pp.run pins _ sv _ _ J1 (w _ fr od)) fun ws s2 ⟨ps, H2, I2, rel, e, kvs, ep, lk, q2⟩ => ?_)
  subst ep
  have I3 := I2.unlock e (J.nofrz upd_same True.intro)
  obtain ⟨rs, c, rk⟩ := carries_of (P := X.prog) (w := X.w) rel
  obtain ⟨z, hd, vs0, r0, dd⟩ := dk_of I3.hok upd_same
  cases r0
  refine ⟨rs, c, dd, fun h' dd' hs => ⟨.ref s.heap.objs.size, _, ?_, rfl, q2⟩⟩
  have hz : (mergeK [] kvs).length ≤ sizeLine := by
    have l1 := length_mergeK kvs []
    rw [List.length_nil] at l1
    rw [sizeLine_eq]; omega
  have ex : ∃ o, h'.get? s.heap.objs.size = some o := let ⟨o, _, _, ho, _⟩ := dd'; ⟨o, ho⟩
  have := d_write (t' := s2.toks + ws.length) (ob := .dK (mergeK [] kvs)) I3 (by rw [upd_same]; exact True.intro) hs ex (dk_new hz hd (rk.merge .nil) dd')
  rw [upd_upd] at this
  exact this
section
variable {L : Lay} {ρ ρ1 : List Addr} {H H1 : Hp} {M : Hm}
theorem thawR {p a : Addr} {od : Obj} {u w : HO} (hp : H p = some (.frz od (.dK []))) (hw : w ≠ .dK []) (hw2 : ∀ o x, w ≠ .frz o x) (h : Rd H a w) : a ≠ p ∧ Rd (upd H p u) a w := by
  rcases h with h | ⟨o, h⟩
  · have z : a ≠ p := fun z => by rw [z, hp] at h; cases h; exact hw2 _ _ rfl
    exact ⟨z, .inl (by rw [upd_ne z]; exact h)⟩
  · have z : a ≠ p := fun z => by rw [z, hp] at h; cases h; exact hw rfl
    exact ⟨z, .inr ⟨o, by rw [upd_ne z]; exact h⟩⟩
/-- the objects' places behind it -/
structure Wid (p : Addr) (ρ ρ' : List Addr) : Prop where
  at' : ∀ (n : Nat) (a : Addr), ρ[n]? = some a → ρ'[n]? = some a
  no : ∀ a, a ∉ ρ → a ≠ p → a ∉ ρ'
theorem Wid.refl {p : Addr} : Wid p ρ ρ := ⟨fun _ _ h => h, fun _ h _ => h⟩
theorem Wid.one {p : Addr} : Wid p ρ (ρ ++ [p]) := ⟨fun n a h => by rw [List.getElem?_append_left (List.getElem?_eq_some_iff.mp h).1]; exact h, fun a h n z => by
  rcases List.mem_append.mp z with z | z
  · exact h z
  · exact n (List.mem_singleton.mp z)⟩
mutual
/-- nothing of the small language lies at a locked dict -/
theorem thaw {ρ' : List Addr} {p : Addr} {od : Obj} {u : HO} (hp : H p = some (.frz od (.dK []))) (w : Wid p ρ ρ') : ∀ (d : D) (v : V), Rep L ρ H d v → Rep L ρ' (upd H p u) d v
  | .non, _, h => h
  | .bl _, _, h => h
  | .int _, _, h => h
  | .str _, _, h => h
  | .fn _, _, h => h
  | .ref _, _, ⟨a, e, h⟩ => ⟨a, e, w.at' _ _ h⟩
  | .tup ds, _, ⟨a, vs, e, h, r⟩ => ⟨a, vs, e, h.imp (fun q => have z := thawR hp (fun z => by cases z) (fun _ _ z => by cases z) q.2; ⟨w.no _ q.1 z.1, z.2⟩) id, thawL hp w ds vs r⟩
  | .lst ds, _, ⟨a, vs, e, n, h, r⟩ => have z : a ≠ p := (fun z => by rw [z, hp] at h; cases h); ⟨a, vs, e, w.no _ n z, by rw [upd_ne z]; exact h, thawL hp w ds vs r⟩
  | .flst ds, _, ⟨a, vs, e, h, r⟩ => ⟨a, vs, e, h.imp (fun q => have z := thawR hp (fun z => by cases z) (fun _ _ z => by cases z) q.2; ⟨w.no _ q.1 z.1, z.2⟩) id, thawL hp w ds vs r⟩
  | .dic _ ds, _, ⟨a, vs, e, n, h, l, r⟩ => have z : a ≠ p := (fun z => by rw [z, hp] at h; cases h); ⟨a, vs, e, w.no _ n z, by rw [upd_ne z]; exact h, l, thawL hp w ds vs r⟩
theorem thawL {ρ' : List Addr} {p : Addr} {od : Obj} {u : HO} (hp : H p = some (.frz od (.dK []))) (w : Wid p ρ ρ') : ∀ (ds : List D) (vs : List V), RepL L ρ H ds vs → RepL L ρ' (upd H p u) ds vs
  | [], _, h => h
  | d :: ds, _, ⟨v, r, e, h1, h2⟩ => ⟨v, r, e, thaw hp w d v h1, thawL hp w ds r h2⟩
end
theorem thawF {ρ' : List Addr} {p : Addr} {od : Obj} {u : HO} (hp : H p = some (.frz od (.dK []))) (w : Wid p ρ ρ') : ∀ (fs : List (Str × D)) (vs : List (Str × V)), RepF L ρ H fs vs → RepF L ρ' (upd H p u) fs vs
  | [], _, h => h
  | (f, d) :: r, _, ⟨v, t, e, h1, h2⟩ => ⟨v, t, e, thaw hp w d v h1, thawF hp w r t h2⟩
theorem thaw_no {p : Addr} {od : Obj} (s : Sim L ρ H M) (hp : H p = some (.frz od (.dK []))) : p ∉ ρ := fun h => by
  obtain ⟨n, hn⟩ := List.mem_iff_getElem?.mp h
  have hl : n < M.length := by rw [← s.len]; exact (List.getElem?_eq_some_iff.mp hn).1
  have q := s.obj n _ p (List.getElem?_eq_getElem hl) hn
  cases e : M[n] with
  | lst ds => rw [e] at q; obtain ⟨_, h, _⟩ := q; rw [hp] at h; cases h
  | dic ks ds => rw [e] at q; obtain ⟨_, h, _⟩ := q; rw [hp] at h; cases h
  | ins C fs => rw [e] at q; obtain ⟨_, _, h, _⟩ := q; rw [hp] at h; cases h
theorem thaw_tab {p : Addr} {od : Obj} {u : HO} (hp : H p = some (.frz od (.dK []))) {a : Addr} {q : Str} (t : LamX.TabS H a q) : LamX.TabS (upd H p u) a q ∧ a ≠ p := by
  obtain ⟨ps, h1, h2, h3⟩ := t
  have z : a ≠ p := fun z => by rw [z, hp] at h1; cases h1
  refine ⟨⟨ps, by rw [upd_ne z]; exact h1, h2, fun pos cv hc => ?_⟩, z⟩
  obtain ⟨c, e1, e2⟩ := h3 pos cv hc
  exact ⟨c, e1, by rw [upd_ne (fun z => by rw [z, hp] at e2; cases e2)]; exact e2⟩
theorem thaw_obj {ρ' : List Addr} {p : Addr} {od : Obj} {u : HO} (s : Sim L ρ H M) (hp : H p = some (.frz od (.dK []))) (w : Wid p ρ ρ') : ∀ (n : Nat) (o : MO) (a : Addr), M[n]? = some o → ρ[n]? = some a → ORep L ρ' (upd H p u) a o := fun n o a h1 h2 => by
  have hne : a ≠ p := fun z => thaw_no s hp (z ▸ List.mem_of_getElem? h2)
  have x := s.obj n o a h1 h2
  cases o with
  | lst ds => obtain ⟨vs, h, r⟩ := x; exact ⟨vs, by rw [upd_ne hne]; exact h, thawL hp w _ _ r⟩
  | dic ks ds => obtain ⟨vs, h, l, r⟩ := x; exact ⟨vs, by rw [upd_ne hne]; exact h, l, thawL hp w _ _ r⟩
  | ins C fs => obtain ⟨dx, fv, h, r⟩ := x; exact ⟨dx, fv, by rw [upd_ne hne]; exact h, thawF hp w _ _ r⟩
theorem thaw_sim {p : Addr} {od : Obj} {u : HO} (s : Sim L ρ H M) (hp : H p = some (.frz od (.dK []))) : Sim L ρ (upd H p u) M :=
  ⟨s.len, s.nd, thaw_obj s hp .refl, fun q hq => ⟨(s.tab q hq).1, (thaw_tab hp (s.tab q hq).2).1⟩⟩
theorem thaw_join {p : Addr} {od : Obj} {u : HO} {o : MO} (s : Sim L ρ H M) (hp : H p = some (.frz od (.dK []))) (ho : ORep L (ρ ++ [p]) (upd H p u) p o) : Sim L (ρ ++ [p]) (upd H p u) (M ++ [o]) := by
  have np := thaw_no s hp
  refine ⟨by simp [s.len], ?_, fun n o' a h1 h2 => ?_, fun q hq => ?_⟩
  · rw [List.nodup_append]
    exact ⟨s.nd, by simp, fun a ha b hb z => np (by rw [List.mem_singleton.mp hb] at z; exact z ▸ ha)⟩
  · by_cases hn : n < M.length
    · rw [List.getElem?_append_left hn] at h1
      rw [List.getElem?_append_left (by rw [s.len]; exact hn)] at h2
      exact thaw_obj s hp .one n o' a h1 h2
    · have hn : M.length ≤ n := Nat.le_of_not_lt hn
      rw [List.getElem?_append_right hn] at h1
      rw [List.getElem?_append_right (by rw [s.len]; exact hn), s.len] at h2
      cases z : n - M.length with
      | zero => rw [z] at h1 h2; cases h1; cases h2; exact ho
      | succ k => rw [z] at h1; cases h1
  · obtain ⟨h1, h2⟩ := s.tab q hq
    obtain ⟨t1, t2⟩ := thaw_tab (u := u) hp h2
    exact ⟨Wid.one.no _ h1 t2, t1⟩
theorem thaw_mono {p : Addr} {od : Obj} {u : HO} (n : H p = none) (m : Mono ρ (upd H p (.frz od (.dK []))) ρ1 H1) : Mono ρ H ρ1 (upd H1 p u) := by
  have ne : ∀ a o, H a = some o → a ≠ p := fun a o h z => by rw [z, n] at h; cases h
  refine ⟨?_, fun a o h na nt => ?_, fun a o h nt => ?_⟩
  · obtain ⟨t, e, ht⟩ := m.pre
    exact ⟨t, e, fun a ha o h => ht a ha o (by rw [upd_ne (ne a o h)]; exact h)⟩
  · rw [upd_ne (ne a o h)]
    exact m.keep a o (by rw [upd_ne (ne a o h)]; exact h) na nt
  · obtain ⟨o', h', n'⟩ := m.there a o (by rw [upd_ne (ne a o h)]; exact h) nt
    exact ⟨o', by rw [upd_ne (ne a o h)]; exact h', n'⟩
end
section
variable {Z : Wo} {L : XLay} {P : Prg} {G : GTab} {n : Nat} {κ : List (Nat × CloD)} {W : WX} {X : Cx} {pos : Pos}
def MKs.size : MKs → Nat
  | .nil => 0
  | .cons _ _ r => r.size + 1
def kTrs (Z : Wo) (L : XLay) (P : Prg) (n : Nat) (κ : List (Nat × CloD)) (W : WX) : MKs → List (TE × TE)
  | .nil => []
  | .cons k v r => (tK Z L P Z.ent (TD L) n κ W (ev P (rt P n) κ k), tK Z L P Z.ent (TD L) n κ W (ev P (rt P n) κ v)) :: kTrs Z L P n κ W r
abbrev SPs (Z : Wo) (L : XLay) (P : Prg) (n : Nat) (κ : List (Nat × CloD)) (W : WX) (X : Cx) (pos : Pos) (ks : MKs) (keys : List (Option Expr)) (vs : List Expr) : Prop := PPs X pos keys vs (kTrs Z L P n κ W ks)
theorem sps_nil : SPs Z L P n κ W X pos .nil [] [] := pps_nil
theorem sps_cons {k v : ME} {r : MKs} {ek ev : Expr} {ks : List (Option Expr)} {vs : List Expr} (h1 : SE Z L P n κ W X k ek) (h2 : SE Z L P n κ W X v ev) (h3 : SPs Z L P n κ W X pos r ks vs) : SPs Z L P n κ W X pos (.cons k v r) (some ek :: ks) (ev :: vs) := pps_cons h1 h2 h3
def TPs (L : XLay) : List Addr → Hp → List (Key × D) → List (V × V) → Prop := fun ρ H as ps => ∃ kvs : List (Key × V), (ps = kvs.map fun kv => (kV kv.1, kv.2)) ∧ RepP L ρ H as kvs
theorem repP_mono {ρ ρ1 : List Addr} {H H1 : Hp} (m : Mono ρ H ρ1 H1) : ∀ {as : List (Key × D)} {vs : List (Key × V)}, RepP L ρ H as vs → RepP L ρ1 H1 as vs
  | [], _, h => h
  | (k, d) :: r, _, ⟨v, t, e, h1, h2⟩ => ⟨v, t, e, m.rep d v h1, repP_mono m h2⟩
theorem repP_len {ρ : List Addr} {H : Hp} : ∀ {as : List (Key × D)} {vs : List (Key × V)}, RepP L ρ H as vs → vs.length = as.length
  | [], _, h => by rw [show _ = [] from h]; rfl
  | (k, d) :: r, _, ⟨v, t, e, h1, h2⟩ => by rw [e]; exact congrArg Nat.succ (repP_len h2)
theorem thawP {ρ ρ' : List Addr} {H : Hp} {p : Addr} {od : Obj} {u : HO} (hp : H p = some (.frz od (.dK []))) (w : Wid p ρ ρ') : ∀ {as : List (Key × D)} {vs : List (Key × V)}, RepP L ρ H as vs → RepP L ρ' (upd H p u) as vs
  | [], _, h => h
  | (k, d) :: r, _, ⟨v, t, e, h1, h2⟩ => ⟨v, t, e, thaw hp w d v h1, thawP hp w h2⟩
theorem evK_len {R : Rt} : ∀ {ks : MKs} {σ : Env} {M M1 : Hm} {as : List (Key × D)}, evK P R κ ks σ M = .ok as M1 → as.length = ks.size
  | .nil, σ, M, M1, as, h => by
    have h : (Res.ok ([] : List (Key × D)) M) = .ok as M1 := h
    cases h
    rfl
  | .cons k v r, σ, M, M1, as, h => by
    have h : ((ev P R κ k σ M).bind fun x M => (ev P R κ v σ M).bind fun y M => (lift (keyD x) M).bind fun x M => (evK P R κ r σ M).bind fun r M => .ok ((x, y) :: r) M) = .ok as M1 := h
    cases e1 : ev P R κ k σ M with
    | exc _ _ _ => rw [e1] at h; cases h
    | bad => rw [e1] at h; cases h
    | ok x M2 =>
      rw [e1, Res.bind_ok] at h
      cases e2 : ev P R κ v σ M2 with
      | exc _ _ _ => rw [e2] at h; cases h
      | bad => rw [e2] at h; cases h
      | ok y M3 =>
        rw [e2, Res.bind_ok] at h
        cases e3 : keyD x with
        | none => rw [e3] at h; cases h
        | some k' =>
          rw [e3, lift_some, Res.bind_ok] at h
          cases e4 : evK P R κ r σ M3 with
          | exc _ _ _ => rw [e4] at h; cases h
          | bad => rw [e4] at h; cases h
          | ok t M4 =>
            rw [e4, Res.bind_ok] at h
            cases h
            exact congrArg Nat.succ (evK_len e4)
theorem kTrs_mono : ∀ {ks : MKs} {sv : St} {H : Hp} {Q Q' : List (V × V) → Hp → Prop}, tPairs (kTrs Z L P n κ W ks) sv H Q → (∀ ps H, Q ps H → Q' ps H) → tPairs (kTrs Z L P n κ W ks) sv H Q'
  | .nil, sv, H, Q, Q', h, f => f _ _ h
  | .cons k v r, sv, H, Q, Q', h, f => tK.mono h fun x H1 h1 => tK.mono h1 fun y H2 h2 => kTrs_mono (ks := r) h2 fun ps H3 q => f _ _ q
theorem go_prs : ∀ {ks : MKs} {ρ : List Addr} {H : Hp} {σ : Env} {sv : St} {M : Hm} {γ δ : Type} {T2 : List Addr → Hp → γ → δ → Prop} {g : List (Key × D) → Hm → Res γ} {Q2 : δ → Hp → Prop} (sm : Sim L.toLay ρ H M) (er : EnvR L.toLay ρ H σ sv) (k : KR Z L P Z.ent n κ ρ H sv) (h : Go L T2 W ρ H sv ((evK P (rt P n) κ ks σ M).bind g) Q2),
    tPairs (kTrs Z L P n κ W ks) sv H fun ps H1 => ∃ ρ1 M1 as, Mono ρ H ρ1 H1 ∧ Sim L.toLay ρ1 H1 M1 ∧ TPs L ρ1 H1 as ps ∧ Go L T2 W ρ1 H1 sv (g as M1) Q2
  | .nil, ρ, H, σ, sv, M, γ, δ, T2, g, Q2, sm, er, k, h => ⟨ρ, M, [], Mono.refl, sm, ⟨[], rfl, rfl⟩, h⟩
  | .cons mk mv r, ρ, H, σ, sv, M, γ, δ, T2, g, Q2, sm, er, k, h => by
    have h : Go L T2 W ρ H sv (((ev P (rt P n) κ mk σ M).bind fun x M => (ev P (rt P n) κ mv σ M).bind fun y M => (lift (keyD x) M).bind fun x M => (evK P (rt P n) κ r σ M).bind fun r M => .ok ((x, y) :: r) M).bind g) Q2 := h
    simp only [Res.bind_assoc] at h
    refine tK.mono (go_bind sm er k h) fun x H1 ⟨ρ1, M1, a, m1, s1, e1, k1, rx, q1⟩ => ?_
    refine tK.mono (go_bind s1 e1 k1 q1) fun y H2 ⟨ρ2, M2, b, m2, s2, e2, k2, ry, q2⟩ => ?_
    obtain ⟨c, ec, q3⟩ := go_lift q2
    have step := go_prs s2 e2 k2 q3
    refine kTrs_mono step fun ps H3 ⟨ρ3, M3, as, m3, s3, ⟨kvs, ep, rp⟩, q4⟩ => ?_
    refine ⟨ρ3, M3, (c, b) :: as, (m1.trans m2).trans m3, s3, ⟨(c, y) :: kvs, ?_, y, kvs, rfl, m3.rep _ _ ry, rp⟩, q4⟩
    rw [key_rep ec (m2.rep _ _ rx), ep]
    rfl
theorem se_dsp {n0 : Nat} {ks : MKs} {h : Bool} {keys : List (Option Expr)} {vs : List Expr} (hp : SPs Z L P n0 κ W X pos ks keys vs) (al : keys.all (·.isSome) = true) (ln : keys.length = vs.length) (ne : keys ≠ []) (few : keys.length ≤ 15) (sz : ks.size ≤ 15) :
    SE Z L P n0 κ W X (.dsp h ks) (.Dict keys vs pos) := pe_weak (pe_dsp hp al ln ne few) fun sv H Q q => by
  obtain ⟨ρ, σ, M, sm, er, k, q⟩ := q
  intro p n od
  have q : Go L (TD L) W ρ H sv ((evK P (rt P n0) κ ks σ M).bind fun ps M => mkd h (putAll ps ([], [])).1 (putAll ps ([], [])).2 M) Q := q
  have m0 : Mono ρ H ρ (upd H p (.frz od (.dK []))) := upd_keep n
  have sm' := sm.upd (o := .frz od (.dK [])) n
  have np := sm.fresh n
  have fin : ∀ {ps : List (V × V)} {ρ1 : List Addr} {H1 : Hp} {M1 : Hm} {as : List (Key × D)}, evK P (rt P n0) κ ks σ M = .ok as M1 → Mono ρ (upd H p (.frz od (.dK []))) ρ1 H1 → Sim L.toLay ρ1 H1 M1 → TPs L ρ1 H1 as ps →
      H1 p = some (.frz od (.dK [])) ∧ ∃ kvs : List (Key × V), (ps = kvs.map fun kv => (kV kv.1, kv.2)) ∧ kvs.length ≤ 15 ∧ Q (.ref p) (upd H1 p (.dK (mergeK [] kvs))) := by
    intro ps ρ1 H1 M1 as e m1 s1 ⟨kvs, ep, rp⟩
    have hp1 : H1 p = some (.frz od (.dK [])) := m1.keep _ _ upd_same np (fun _ z => by cases z)
    refine ⟨hp1, kvs, ep, by rw [repP_len rp, evK_len e]; exact sz, ?_⟩
    rw [e, Res.bind_ok] at q
    have mm : Mono ρ H ρ1 (upd H1 p (.dK (mergeK [] kvs))) := thaw_mono n m1
    have np1 := thaw_no s1 hp1
    cases h with
    | false =>
      obtain ⟨ws, e1, l1, r1⟩ := putAll_rep (ks := []) (ds := []) (vs := []) (thawP (u := .dK (mergeK [] kvs)) hp1 .refl rp) rfl rfl
      refine q ρ1 _ _ mm (thaw_sim s1 hp1) ⟨p, ws, rfl, np1, ?_, l1, r1⟩
      rw [upd_same, ← e1]
      rfl
    | true =>
      obtain ⟨ws, e1, l1, r1⟩ := putAll_rep (ks := []) (ds := []) (vs := []) (thawP (u := .dK (mergeK [] kvs)) hp1 (.one) rp) rfl rfl
      refine q (ρ1 ++ [p]) _ _ ?_ (thaw_join s1 hp1 ⟨ws, ?_, l1, r1⟩) ⟨p, rfl, ?_⟩
      · refine ⟨?_, mm.keep, mm.there⟩
        obtain ⟨t, e, ht⟩ := mm.pre
        refine ⟨t ++ [p], by rw [e, List.append_assoc], fun a ha o ho => ?_⟩
        rcases List.mem_append.mp ha with ha | ha
        · exact ht a ha o ho
        · rw [List.mem_singleton.mp ha, n] at ho; cases ho
      · rw [upd_same, ← e1]
        rfl
      · rw [List.getElem?_append_right (by rw [s1.len]; exact Nat.le_refl _), s1.len]
        simp
  refine kTrs_mono (go_prs (n := n0) (Q2 := fun ps H1 => H1 p = some (.frz od (.dK [])) ∧ ∃ kvs : List (Key × V), (ps = kvs.map fun kv => (kV kv.1, kv.2)) ∧ kvs.length ≤ 15 ∧ Q (.ref p) (upd H1 p (.dK (mergeK [] kvs)))) (g := fun as M => .ok as M) (T2 := TPs L) sm' (m0.env er) (k.mono m0) ?_) fun ps H1 ⟨ρ1, M1, as, m1, s1, t1, g⟩ => go_ok (T := TPs L) s1 g t1
  cases e : evK P (rt P n0) κ ks σ M with
  | bad => rw [e] at q; exact False.elim q
  | exc c x M1 =>
    rw [e] at q
    exact Brings.mono q m0
  | ok as M1 =>
    exact fun ρ1 H1 ps m1 s1 t => fin e m1 s1 t
theorem se_dsp0 {h : Bool} : SE Z L P n κ W X (.dsp h .nil) (.Dict [] [] pos) := pe_weak pe_dnewK fun sv H Q q => by
  obtain ⟨ρ, σ, M, sm, er, k, q⟩ := q
  have q : Go L (TD L) W ρ H sv (mkd h [] [] M) Q := q
  exact go_mkd (ks := []) (xs := []) (vs := []) sm rfl rfl q
end
end Mi

end
section
/-! M25: the check that a text has a small language's form. -/
namespace Mi
open PySem L2
/-! ### constants -/
mutual
def cD : D → D → Bool
  | .non, .non => true
  | .bl a, .bl b => a == b
  | .int a, .int b => decide (a = b)
  | .str a, .str b => decide (a = b)
  | .tup a, .tup b => cDs a b
  | .lst a, .lst b => cDs a b
  | .flst a, .flst b => cDs a b
  | .dic k a, .dic l b => decide (k = l) && cDs a b
  | .ref a, .ref b => decide (a = b)
  | .fn a, .fn b => decide (a = b)
  | _, _ => false
def cDs : List D → List D → Bool
  | [], [] => true
  | a :: r, b :: t => cD a b && cDs r t
  | _, _ => false
end
mutual
theorem cD_ok : ∀ (a b : D), cD a b = true → a = b
  | .non, b, h => by cases b <;> first | rfl | cases h
  | .bl a, b, h => by
    cases b <;> first | cases h | skip
    rename_i c
    have h : (a == c) = true := h
    rw [beq_iff_eq.mp h]
  | .int a, b, h => by
    cases b <;> first | cases h | skip
    rename_i c
    rw [show a = c from of_decide_eq_true h]
  | .str a, b, h => by
    cases b <;> first | cases h | skip
    rename_i c
    rw [show a = c from of_decide_eq_true h]
  | .tup a, b, h => by
    cases b <;> first | cases h | skip
    rename_i c
    rw [show a = c from cDs_ok a c h]
  | .lst a, b, h => by
    cases b <;> first | cases h | skip
    rename_i c
    rw [show a = c from cDs_ok a c h]
  | .flst a, b, h => by
    cases b <;> first | cases h | skip
    rename_i c
    rw [show a = c from cDs_ok a c h]
  | .dic k a, b, h => by
    cases b <;> first | cases h | skip
    rename_i l c
    obtain ⟨h1, h2⟩ := Bool.and_eq_true_iff.mp (show (decide (k = l) && cDs a c) = true from h)
    rw [show k = l from of_decide_eq_true h1, show a = c from cDs_ok a c h2]
  | .ref a, b, h => by
    cases b <;> first | cases h | skip
    rename_i c
    rw [show a = c from of_decide_eq_true h]
  | .fn a, b, h => by
    cases b <;> first | cases h | skip
    rename_i c
    rw [show a = c from of_decide_eq_true h]
theorem cDs_ok : ∀ (a b : List D), cDs a b = true → a = b
  | [], b, h => by cases b <;> first | rfl | cases h
  | a :: r, b, h => by
    cases b <;> first | cases h | skip
    rename_i c t
    obtain ⟨h1, h2⟩ := Bool.and_eq_true_iff.mp (show (cD a c && cDs r t) = true from h)
    rw [cD_ok a c h1, cDs_ok r t h2]
end
/-! ### where a text stands -/
structure CC where
  N : List Str
  sc : Scope
  fn : Str → Bool
  lam : Bool
structure Fit (L : XLay) (ν : CC) (X : Cx) : Prop where
  N : X.N = ν.N
  sc : X.env.scope = ν.sc
  kind : ν.sc.kind = .function
  fn : ∀ x, ν.fn x = true → X.fn x = true
  lam : ν.lam = true → LamMk L X
def nDb (x : Str) : Bool := !(x == ("__debug__" : Str))
def cSlot (ν : CC) (i : Nat) (x : Str) : Bool := decide (ν.N[i]? = some x)
def cVis (ν : CC) (x : Str) : Bool := match ν.sc.names.lookup x with | some .local => true | some .cell => true | some .free => true | _ => false
def cVar (ν : CC) (i : Nat) (x : Str) : Bool := cSlot ν i x && cVis ν x && nDb x && !(x == ("__classdict__" : Str))
def cLcl (ν : CC) (x : Str) : Bool := decide (ν.sc.names.lookup x = some .local)
/-- stored to -/
def cSet (ν : CC) (i : Nat) (x : Str) : Bool := cSlot ν i x && (cLcl ν x || (ν.fn x && decide (ν.sc.names.lookup x = some .cell)))
def cGl (ν : CC) (x : Str) : Bool := decide (ν.sc.names.lookup x = some .globalImplicit)
def cGd (ν : CC) (x : Str) : Bool := cGl ν x && nDb x
section
variable {L : XLay} {ν : CC} {X : Cx}
theorem nDb_ok {x : Str} (h : nDb x = true) : (x == ("__debug__" : Str)) = false := by
  unfold nDb at h
  cases e : x == ("__debug__" : Str) with
  | false => rfl
  | true => rw [e] at h; cases h
theorem Fit.slot (F : Fit L ν X) {i : Nat} {x : Str} (h : cSlot ν i x = true) : X.N[i]? = some x := by rw [F.N]; exact of_decide_eq_true h
theorem Fit.vis (F : Fit L ν X) {x : Str} (h : cVis ν x = true) : Vis X.env.scope x := by
  unfold cVis at h
  rw [show Vis X.env.scope x ↔ Vis ν.sc x from by rw [F.sc]]
  unfold Vis
  split at h
  · exact .inl (by assumption)
  · exact .inr (.inl (by assumption))
  · exact .inr (.inr (by assumption))
  · cases h
theorem Fit.var (F : Fit L ν X) {i : Nat} {x : Str} (h : cVar ν i x = true) : X.N[i]? = some x ∧ Vis X.env.scope x ∧ (x == ("__debug__" : Str)) = false ∧ (x == ("__classdict__" : Str)) = false := by
  unfold cVar at h
  simp only [Bool.and_eq_true] at h
  obtain ⟨⟨⟨h1, h2⟩, h3⟩, h4⟩ := h
  refine ⟨F.slot h1, F.vis h2, nDb_ok h3, ?_⟩
  cases e : x == ("__classdict__" : Str) with
  | false => rfl
  | true => rw [e] at h4; cases h4
theorem Fit.lcl (F : Fit L ν X) {x : Str} (h : cLcl ν x = true) : X.env.scope.names.lookup x = some .local := by rw [F.sc]; exact of_decide_eq_true h
theorem Fit.set (F : Fit L ν X) {i : Nat} {x : Str} (h : cSet ν i x = true) : X.N[i]? = some x ∧ Loc X.env.scope x ∧ (X.fn x = true ∨ X.env.scope.names.lookup x = some .local) := by
  unfold cSet at h
  simp only [Bool.and_eq_true, Bool.or_eq_true] at h
  obtain ⟨h1, h2 | ⟨h2, h3⟩⟩ := h
  · exact ⟨F.slot h1, .inl (F.lcl h2), .inr (F.lcl h2)⟩
  · exact ⟨F.slot h1, .inr (by rw [F.sc]; exact of_decide_eq_true h3), .inl (F.fn _ h2)⟩
theorem Fit.gl (F : Fit L ν X) {x : Str} (h : cGl ν x = true) : Gl X x := by
  unfold Gl PySem.Env.kindOf
  rw [F.sc]; exact of_decide_eq_true h
theorem Fit.gd (F : Fit L ν X) {x : Str} (h : cGd ν x = true) : Gl X x ∧ (x == ("__debug__" : Str)) = false := by
  obtain ⟨h1, h2⟩ := Bool.and_eq_true_iff.mp h
  exact ⟨F.gl h1, nDb_ok h2⟩
end
/-! ### pieces of the text -/
def noSt : Expr → Bool
  | .Starred _ _ => false
  | _ => true
def plainT : Expr → Bool
  | .UnaryOp .Not _ _ => false
  | .BoolOp _ _ _ => false
  | .IfExp _ _ _ _ => false
  | .Compare _ _ _ _ => false
  | _ => true
theorem plainT_ok {e : Expr} {env : PySem.Env} (h : plainT e = true) : ∀ whole, isTrue e env whole = (do let v ← whole; standAt e.pos; holding [v] (truthy v)) := by
  intro whole
  cases e <;> first | rfl | (cases h; done) | skip
  rename_i o _ _
  cases o <;> first | rfl | cases h
def notSet : Expr → Bool
  | .Set _ _ _ => false
  | _ => true
theorem notSet_ok {e : Expr} {env : PySem.Env} (h : notSet e = true) : ∀ x, foldedSetIterable e env x = pure x := by
  intro x
  cases e <;> first | rfl | cases h
theorem notSet_mark {e : Expr} {o : CmpOp} (h : notSet e = true) : behindInMarks o e = false := by
  cases e <;> first | rfl | cases h
def notSl : Expr → Bool
  | .Slice _ _ _ _ => false
  | _ => true
theorem notSl_ok {e : Expr} (h : notSl e = true) : PlainIx e := by
  intro o i
  cases e <;> first | rfl | cases h
def notTup : Expr → Bool
  | .Tuple _ _ _ => false
  | _ => true
theorem assign_sub {o i : Expr} {pos : Pos} {env : PySem.Env} (h : notSl i = true) : ∀ v, assign (.Subscript o i pos) env v = (do
      let ov ← holding [v] (eval o env)
      let iv ← holding [v, ov] (eval i env)
      standAt pos
      holding [v, ov, iv] (setItem ov iv v)
      release [v, ov, iv] []) := by
  intro v
  cases i <;> first | rfl | cases h
def notLst : Expr → Bool
  | .List _ _ => false
  | _ => true
theorem swNone {tg e : Expr} {env : PySem.Env} (h : (notTup tg || notTup e) = true) (hl : notLst tg = true) : swappedStores [tg] e env = pure none := by
  cases tg <;> first | (cases hl; done) | skip
  all_goals (cases e <;> first | rfl | cases h)
/-- is the comprehension stored before the block's names come back? -/
def swB (sc : Scope) (tg e : Expr) : Bool := match e, tg with
  | .ListComp _ _ s p, .Name t q => decide (sc.names.lookup t = some .local) && (q.line == p.line) && !(s.names.any fun (n, k) => n == t && (k == .local || k == .cell))
  | _, _ => false
theorem swB_ok {tg e : Expr} {l : Nat} {env : PySem.Env} (hk : env.scope.kind = .function) (h : noComp e = true ∨ ∃ a b s p, e = .ListComp a b s p) : swapsWithSole [tg] e l env = pure (swB env.scope tg e) := by
  show swapsWith e (some tg) l env = _
  rcases h with h | ⟨a, b, s, p, rfl⟩
  · rw [swaps_of h]
    cases e <;> first | rfl | cases h
  · have hb : env.blockKind = .function := by unfold PySem.Env.blockKind; rw [hk]; rfl
    cases tg <;> first | rfl | skip
    rename_i t q
    unfold swapsWith swB
    simp only [hb]
    have e1 : (ScopeKind.function == ScopeKind.function) = true := rfl
    have e2 : (env.kindOf t == some NameKind.local) = decide (List.lookup t env.scope.names = some NameKind.local) := by
      unfold PySem.Env.kindOf
      cases List.lookup t env.scope.names with
      | none => rfl
      | some k => cases k <;> rfl
    rw [e1, e2, Bool.true_and]
    rfl
end Mi

end
section
/-! M26: the check itself. -/
namespace Mi
open PySem L2
def cC : D → Expr → Bool
  | .int i, .Constant (.int j) _ _ => decide (i = j)
  | .bl b, .Constant (.bool c) _ _ => b == c
  | .non, .Constant .none _ _ => true
  | .str x, .Constant (.str y) _ _ => decide (x = y)
  | _, _ => false
def cTy (ν : CC) (t : Ty) : Expr → Bool
  | .Name x _ => !isCls t && decide (x = tyNm t) && cGl ν x
  | _ => false
def cTys (ν : CC) : List Ty → List Expr → Bool
  | [], [] => true
  | t :: ts, e :: es => cTy ν t e && cTys ν ts es
  | _, _ => false
/-- the context of a comprehension's block -/
def CC.blk (ν : CC) (scope : Scope) : CC := ⟨ν.N, relS scope ν.sc, fun x => scope.names.lookup x == some .cell, false⟩
def ownP (ν : CC) (own : List Nat) : List (Str × Nat) := own.map fun i => ((ν.N[i]?).getD "", i)
def cParams : Arguments → Option (List Str)
  | ⟨[], as, none, [], [], none, []⟩ => some (as.map (·.arg))
  | _ => none
/-- a lambda's shape -/
def cLamS (G : GTab) (ν : CC) (nps : Nat) (caps : List Nat) (N : List Str) (params : Arguments) (scope : Scope) : Bool := match cParams params with
  | some ps => let fr := caps.filterMap fun i => ν.N[i]?
    ν.lam && decide (ps.length = nps) && decide (ps ∈ G.lps) && NdefX.nscB N ps fr scope && decide (caps.map (fun i => ν.N[i]?) = fr.map some) &&
      scope.names.all (fun y => match y.2 with
        | .free => (match ν.sc.names.lookup y.1 with | some .cell => true | some .free => true | _ => false) && ν.fn y.1
        | _ => true) && fr.all (fun y => scope.names.any fun z => decide (z.1 = y) && decide (z.2 = NameKind.free))
  | none => false
def CC.lamb (N : List Str) (scope : Scope) : CC := ⟨N, scope, fun _ => false, false⟩
def ifs1 : MQs → Bool
  | .nil => true
  | .cons _ .nil => true
  | _ => false
section
variable (G : GTab) (P : Prg)
mutual
def cE : CC → ME → Expr → Bool
  | _, .cst d, e => cC d e
  | ν, .var i, e => match e with
    | .Name x _ => cVar ν i x
    | _ => false
  | ν, .glc x d, e => match e with
    | .Name y _ => decide (y = x) && cGd ν x && P.csts.any fun p => decide (p.1 = x) && cD p.2 d
    | _ => false
  | ν, .fnv g, e => match e with
    | .Name y _ => cGd ν y && decide (G.fnm.lookup y = some g)
    | _ => false
  | ν, .tup ms, e => match e with
    | .Tuple es _ _ => cEs ν ms es && decide (ms.size ≤ 1000)
    | _ => false
  | ν, .lst _ ms, e => match e with
    | .List es _ => cEs ν ms es && decide (ms.size ≤ 1000)
    | _ => false
  | ν, .bin o _ a b, e => match e with
    | .BinOp x q y _ => decide (q = bopr o) && cE ν a x && cE ν b y
    | _ => false
  | ν, .un o a, e => match e with
    | .UnaryOp q x _ => decide (q = uopr o) && cE ν a x
    | _ => false
  | ν, .cmp o a b, e => match e with
    | .Compare x [q] [y] _ => decide (q = copr o) && notSet y && cE ν a x && cE ν b y
    | _ => false
  | ν, .chn o p a b c, e => match e with
    | .Compare x [q, r] [y, z] _ => decide (q = copr o) && decide (r = copr p) && notSet z && cE ν a x && cE ν b y && cE ν c z
    | _ => false
  | ν, .bop b ms, e => match e with
    | .BoolOp q es _ => decide (q = bopr' b) && !es.isEmpty && cEs ν ms es
    | _ => false
  | ν, .not a, e => match e with
    | .UnaryOp .Not x _ => cE ν a x
    | _ => false
  | ν, .ife t a b, e => match e with
    | .IfExp x y z _ => cQ ν t x && cE ν a y && cE ν b z
    | _ => false
  | ν, .ix a b, e => match e with
    | .Subscript x y _ => notSl y && cE ν a x && cE ν b y
    | _ => false
  | ν, .sl _ a lo hi, e => match e with
    | .Subscript x (.Slice l u none _) _ => cE ν a x && cP ν lo l && cP ν hi u
    | _ => false
  | ν, .call g ms, e => match e with
    | .Call (.Name x _) es [] _ => cGd ν x && decide (G.fnm.lookup x = some g) && cA ν ms es
    | _ => false
  | ν, .callv i ms, e => match e with
    | .Call (.Name x _) es [] _ => cVar ν i x && cEs ν ms es
    | _ => false
  | ν, .make C ms, e => match e with
    | .Call (.Name x _) es [] _ => cGd ν x && decide (G.cnm.lookup x = some C) && cEs ν ms es
    | _ => false
  | ν, .meth m o ms, e => match e with
    | .Call (.Attribute x f ap) es [] pos => decide (f = m) && noSup x && (ap.endLine == pos.line) && decide (es.length < 30) && cE ν o x && cEs ν ms es
    | _ => false
  | ν, .fld f o, e => match e with
    | .Attribute x g _ => decide (g = f) && noSup x && cE ν o x
    | _ => false
  | ν, .bi b _ ms, e => match e with
    | .Call (.Name x _) es [] _ => decide (x = biN b) && cGl ν x && !es.isEmpty && cEs ν ms es
    | _ => false
  | ν, .bm b o ms, e => match e with
    | .Call (.Attribute x f ap) es [] pos => decide (f = bmN b) && noSup x && (ap.endLine == pos.line) && decide (es.length < 30) && (match b with | .pop => es.isEmpty | _ => !es.isEmpty) && cE ν o x && cEs ν ms es
    | _ => false
  | ν, .isi a ts, e => match e with
    | .Call (.Name x _) [y, tt] [] _ => decide (x = "isinstance") && cGl ν x && noSt y && cE ν a y && (match tt with
      | .Tuple es _ _ => !ts.isEmpty && decide (ts.length ≤ 1000) && cTys ν ts es
      | .Name _ _ => (match ts with | [t] => cTy ν t tt | _ => false)
      | _ => false)
    | _ => false
  | ν, .lc _ me mt mi mifs own, e => match e with
    | .ListComp el [⟨tg, it, ifs, 0⟩] scope _ => notSet it && blkC ν.N ν.sc scope (ownP ν own) && ifs1 mifs && cI ν mi it && cT (ν.blk scope) (fun i => own.contains i) mt tg && cQs (ν.blk scope) mifs ifs && cE (ν.blk scope) me el
    | _ => false
  | ν, .dsp _ ks, e => match e with
    | .Dict keys vs _ => decide (keys.length ≤ 15) && cK ν ks keys vs
    | _ => false
  | _, .lam _ _ _ _, _ => false
  | _, .exp _, _ => false
def cEs : CC → MEs → List Expr → Bool
  | _, .nil, es => es.isEmpty
  | ν, .cons m ms, es => match es with
    | e :: r => noSt e && cE ν m e && cEs ν ms r
    | [] => false
/-- arguments -/
def cA : CC → MEs → List Expr → Bool
  | _, .nil, es => es.isEmpty
  | ν, .cons (.lam nps caps N mb) ms, es => match es with
    | .Lambda params body scope _ :: r => cLamS G ν nps caps N params scope && cE (CC.lamb N scope) mb body && cA ν ms r
    | _ => false
  | ν, .cons m ms, es => match es with
    | e :: r => noSt e && cE ν m e && cA ν ms r
    | [] => false
def cK : CC → MKs → List (Option Expr) → List Expr → Bool
  | _, .nil, ks, vs => ks.isEmpty && vs.isEmpty
  | ν, .cons k v r, ks, vs => match ks, vs with
    | some a :: ks, b :: vs => cE ν k a && cE ν v b && cK ν r ks vs
    | _, _ => false
def cP : CC → MP → Option Expr → Bool
  | _, .no, e => e.isNone
  | ν, .some m, e => match e with
    | some x => cE ν m x
    | none => false
def cQ : CC → MQ → Expr → Bool
  | ν, .val m, e => plainT e && cE ν m e
  | ν, .cmp o a b, e => match e with
    | .Compare x [q] [y] _ => decide (q = copr o) && notSet y && cE ν a x && cE ν b y
    | _ => false
  | ν, .chn o p a b c, e => match e with
    | .Compare x [q, r] [y, z] _ => decide (q = copr o) && decide (r = copr p) && notSet z && cE ν a x && cE ν b y && cE ν c z
    | _ => false
  | ν, .not t, e => match e with
    | .UnaryOp .Not x _ => cQ ν t x
    | _ => false
  | ν, .bop b ts, e => match e with
    | .BoolOp q es _ => decide (q = bopr' b) && !es.isEmpty && cQs ν ts es
    | _ => false
  | ν, .ife t a b, e => match e with
    | .IfExp x y z _ => cQ ν t x && cQ ν a y && cQ ν b z
    | _ => false
def cQs : CC → MQs → List Expr → Bool
  | _, .nil, es => es.isEmpty
  | ν, .cons t ts, es => match es with
    | e :: r => cQ ν t e && cQs ν ts r
    | [] => false
def cT : CC → (Nat → Bool) → MT → Expr → Bool
  | ν, ow, .nm i, e => match e with
    | .Name x _ => cSet ν i x && ow i
    | _ => false
  | ν, ow, .tp ts, e => match e with
    | .Tuple es _ _ => cTs ν ow ts es && decide (es.length = ts.size)
    | _ => false
  | ν, _, .sb o i, e => match e with
    | .Subscript x y _ => notSl y && cE ν o x && cE ν i y
    | _ => false
  | _, _, .at _ _, _ => false
def cTs : CC → (Nat → Bool) → MTs → List Expr → Bool
  | _, _, .nil, es => es.isEmpty
  | ν, ow, .cons t ts, es => match es with
    | e :: r => noSt e && cT ν ow t e && cTs ν ow ts r
    | [] => false
def cI : CC → MI → Expr → Bool
  | ν, .val m, e => cE ν m e
  | ν, .rng1 m, e => match e with
    | .Call (.Name x _) [y] [] _ => decide (x = "range") && cGl ν x && noSt y && cE ν m y
    | _ => false
  | ν, .rng2 a b, e => match e with
    | .Call (.Name x _) [y, z] [] _ => decide (x = "range") && cGl ν x && noSt y && noSt z && cE ν a y && cE ν b z
    | _ => false
end
/-! ### statements -/
/-- in an except clause -/
def cU (ν : CC) (oi : Option Nat) : ME → Expr → Bool
  | .cst d, e => cC d e
  | .var i, e => match e with
    | .Name x _ => decide (oi ≠ some i) && cVar ν i x
    | _ => false
  | .exp i, e => match e with
    | .Attribute (.Name x p) f _ => decide (oi = some i) && cVar ν i x && decide (f = "place") && noSup (.Name x p)
    | _ => false
  | .tup ms, e => match e with
    | .Tuple es _ _ => cUs ms es && decide (ms.size ≤ 1000)
    | _ => false
  | _, _ => false
where cUs : MEs → List Expr → Bool
  | .nil, es => es.isEmpty
  | .cons m ms, es => match es with
    | e :: r => noSt e && cU ν oi m e && cUs ms r
    | [] => false
def cHs (ν : CC) : MHs → List ExceptHandler → Bool
  | .nil, hs => hs.isEmpty
  | .cons h s m ms, hs => match hs with
    | .ExceptHandler (some (.Name x _)) y [.Return (some e) _] _ :: r => decide (G.xnm.lookup x = some h) && cGd ν x && (match y, s with
      | none, none => cU ν none m e
      | some z, some i => cSlot ν i z && cLcl ν z && cU ν (some i) m e
      | _, _ => false) && cHs ν ms r
    | _ => false
/-- stores as they stand -/
def asgSh (sc : Scope) : Expr → Expr → Bool
  | .List _ _, _ => false
  | .Tuple ts _ _, .Tuple vs _ _ => (match swN sc ts vs with | some none => true | _ => false)
  | _, _ => true
def compLike : Expr → Bool
  | .ListComp _ _ _ _ => true
  | e => noComp e
mutual
def cS : CC → MS → Stmt → Bool
  | ν, .expr m, st => match st with
    | .Expr e _ => noComp e && cE G P ν m e
    | _ => false
  | ν, .asg t m, st => match st with
    | .Assign [tg] e _ => cE G P ν m e && (match t, tg with
      | .at f o, .Attribute x g _ => decide (g = f) && cE G P ν o x && noComp e
      | _, _ => if swB ν.sc tg e then (match t, tg, m with
          | .nm i, .Name y _, .lc _ _ _ _ _ _ => cSlot ν i y && cLcl ν y
          | _, _, _ => false)
        else cT G P ν (fun _ => true) t tg && noSt tg && compLike e && asgSh ν.sc tg e)
    | _ => false
  | ν, .par is ms, st => match st with
    | .Assign [.Tuple ts _ _] (.Tuple vs _ _) _ => cEs G P ν ms vs && (match is, ts, vs with
      | [i, j], [.Name x _, .Name y _], [_, _] => cSlot ν i x && cSlot ν j y && decide (i ≠ j) && cLcl ν x && cLcl ν y && decide (swN ν.sc ts vs = some (some [x, y]))
      | [i, j, l], [.Name x _, .Name y _, .Name z _], [_, _, _] => cSlot ν i x && cSlot ν j y && cSlot ν l z && decide (i ≠ j) && decide (i ≠ l) && decide (j ≠ l) && cLcl ν x && cLcl ν y && cLcl ν z && decide (swN ν.sc ts vs = some (some [x, y, z]))
      | _, _, _ => false)
    | _ => false
  | ν, .aug o i m, st => match st with
    | .AugAssign (.Name x _) q e _ => decide (q = bopr o) && cSet ν i x && cE G P ν m e
    | _ => false
  | ν, .augf o f a m, st => match st with
    | .AugAssign (.Attribute x g _) q e _ => decide (q = bopr o) && decide (g = f) && cE G P ν a x && cE G P ν m e
    | _ => false
  | _, .augs _ _ _ _, _ => false
  | ν, .ife t a b, st => match st with
    | .If e as bs _ => cQ G P ν t e && cSs ν a as && cSs ν b bs
    | _ => false
  | ν, .whl t b, st => match st with
    | .While e bs [] _ => cQ G P ν t e && cSs ν b bs
    | _ => false
  | ν, .fr t it b, st => match st with
    | .For tg e bs [] _ => notSet e && cT G P ν (fun _ => true) t tg && cI G P ν it e && cSs ν b bs
    | _ => false
  | ν, .ret m, st => match st with
    | .Return (some e) _ => cE G P ν m e
    | _ => false
  | _, .retn, st => match st with
    | .Return none _ => true
    | _ => false
  | ν, .rse c m, st => match st with
    | .Raise (some (.Call (.Name x _) [e] [] _)) none _ => decide ((x, c) ∈ G.rais) && decide (G.xnm.lookup x = some c) && cGd ν x && noSt e && cE G P ν m e
    | _ => false
  | ν, .tr b hs, st => match st with
    | .Try body hds [] [] _ => !hds.isEmpty && cHs G ν hs hds && cSs ν b body
    | _ => false
  | _, .brk, st => match st with
    | .Break _ => true
    | _ => false
  | _, .cnt, st => match st with
    | .Continue _ => true
    | _ => false
  | _, .pas, st => match st with
    | .Pass _ => true
    | .Expr (.Constant (.str _) _ _) _ => true
    | _ => false
def cSs : CC → MSs → List Stmt → Bool
  | _, .nil, l => l.isEmpty
  | ν, .cons m ms, l => match l with
    | st :: r => cS ν m st && cSs ν ms r
    | [] => false
end
end
end Mi

end
section
/-! M27: what is checked holds: expressions. -/
namespace Mi
open PySem L2
theorem noStar_of {e : Expr} {es : List Expr} (h : noSt e = true) (k : noStar es = true) : noStar (e :: es) = true := by
  cases e <;> first | exact k | cases h
section
variable {Z : Wo} {L : XLay} {P : Prg} {G : GTab} {n : Nat} {κ : List (Nat × CloD)} {W : WX} {X : Cx} {ν : CC}
/-- expressions, side by side -/
inductive SEs (Z : Wo) (L : XLay) (P : Prg) (n : Nat) (κ : List (Nat × CloD)) (W : WX) (X : Cx) : MEs → List Expr → Prop
  | nil : SEs Z L P n κ W X .nil []
  | cons {m : ME} {ms : MEs} {e : Expr} {es : List Expr} (h : SE Z L P n κ W X m e) (hs : noSt e = true) (r : SEs Z L P n κ W X ms es) : SEs Z L P n κ W X (.cons m ms) (e :: es)
inductive SQs (Z : Wo) (L : XLay) (P : Prg) (n : Nat) (κ : List (Nat × CloD)) (W : WX) (X : Cx) : MQs → List Expr → Prop
  | nil : SQs Z L P n κ W X .nil []
  | cons {m : MQ} {ms : MQs} {e : Expr} {es : List Expr} (h : SQ Z L P n κ W X m e) (r : SQs Z L P n κ W X ms es) : SQs Z L P n κ W X (.cons m ms) (e :: es)
theorem SEs.star {ms : MEs} {es : List Expr} (h : SEs Z L P n κ W X ms es) : noStar es = true := by
  induction h with
  | nil => rfl
  | cons h hs r ih => exact noStar_of hs ih
theorem SEs.nil_of {ms : MEs} (h : SEs Z L P n κ W X ms []) : ms = .nil := by cases h; rfl
theorem SEs.sa {ms : MEs} {es : List Expr} (h : SEs Z L P n κ W X ms es) : SA Z L P n κ W X ms es := by
  induction h with
  | nil => exact sa_nil
  | cons h hs r ih => exact sa_cons h ih (star_cons (noStar_of hs r.star))
theorem SEs.sb {b : Bool} {pos : Pos} {ms : MEs} {es : List Expr} (h : SEs Z L P n κ W X ms es) : es ≠ [] → SB Z L P n κ W X b ms es pos := by
  induction h with
  | nil => exact fun z => absurd rfl z
  | cons h hs r ih =>
    intro _
    cases r with
    | nil => exact sb_one h
    | cons h2 hs2 r2 => exact sb_cons h (ih (by simp))
theorem SQs.sqb {b : Bool} {pos : Pos} {ms : MQs} {es : List Expr} (h : SQs Z L P n κ W X ms es) : es ≠ [] → SQB Z L P n κ W X b ms es pos := by
  induction h with
  | nil => exact fun z => absurd rfl z
  | cons h r ih =>
    intro _
    cases r with
    | nil => exact sqb_one h
    | cons h2 r2 => exact sqb_cons h (ih (by simp))
theorem SQs.spt {ms : MQs} {es : List Expr} (h : SQs Z L P n κ W X ms es) (h1 : ifs1 ms = true) : SPT Z L P n κ W X ms es := by
  cases h with
  | nil => exact spt_nil
  | cons h r => cases r with
    | nil => exact spt_one h
    | cons h2 r2 => cases h1
/-- .. if .. else .. as a test -/
theorem pt_ife {t a b : Expr} {pos : Pos} {tt ta tb : TT} (ht : PT X t tt) (ha : PT X a ta) (hb : PT X b tb) : PT X (.IfExp t a b pos) (fun sv H Q => tt sv H fun c H1 => if c = true then ta sv H1 Q else tb sv H1 Q) := by
  refine ⟨fun pins s sv H Q I h => ?_⟩
  have e : PySem.isTrue (.IfExp t a b pos) X.env (eval (.IfExp t a b pos) X.env) = (do if ← PySem.isTrue t X.env (eval t X.env) then PySem.isTrue a X.env (eval a X.env) else PySem.isTrue b X.env (eval b X.env)) := by rw [PySem.isTrue]
  rw [e]
  refine wpAny_bind (thn (ht.run pins s sv H _ I h) fun c s1 hh => ?_)
  obtain ⟨H1, I1, q⟩ := hh
  cases c with
  | true =>
    rw [if_pos rfl] at q ⊢
    exact ha.run pins s1 sv H1 Q I1 q
  | false =>
    rw [if_neg Bool.false_ne_true] at q ⊢
    exact hb.run pins s1 sv H1 Q I1 q
theorem sq_ife {t a b : MQ} {et ea eb : Expr} {pos : Pos} (ht : SQ Z L P n κ W X t et) (ha : SQ Z L P n κ W X a ea) (hb : SQ Z L P n κ W X b eb) : SQ Z L P n κ W X (.ife t a b) (.IfExp et ea eb pos) := pt_weak (pt_ife ht ha hb) fun sv H Q h => by
  obtain ⟨ρ, σ, M, s, er, k, q⟩ := h
  refine tK.mono (go_bind s er k q) fun c H1 ⟨ρ1, M1, a, m1, s1, e1, k1, rx, q1⟩ => ?_
  have rx : c = a := rx
  subst rx
  cases c with
  | true => exact ⟨ρ1, σ, M1, s1, e1, k1, q1⟩
  | false => exact ⟨ρ1, σ, M1, s1, e1, k1, q1⟩
theorem cC_ok {d : D} {e : Expr} (h : cC d e = true) : ∃ v, (∀ Y : Cx, PE Y e (tC v)) ∧ ∀ ρ H, Rep L.toLay ρ H d v := by
  unfold cC at h
  split at h
  · rename_i i j _ _
    have e : i = j := of_decide_eq_true h
    subst e
    exact ⟨.int i, fun Y => pe_int, fun _ _ => rfl⟩
  · rename_i b c _ _
    have e : b = c := beq_iff_eq.mp h
    subst e
    exact ⟨.bl b, fun Y => pe_bl, fun _ _ => rfl⟩
  · exact ⟨.non, fun Y => pe_non, fun _ _ => rfl⟩
  · rename_i x y _ _
    have e : x = y := of_decide_eq_true h
    subst e
    exact ⟨.str x, fun Y => pe_str, fun _ _ => rfl⟩
  · cases h
theorem cTy_ok {t : Ty} {e : Expr} (h : cTy ν t e = true) : ∃ p, e = .Name (tyNm t) p ∧ isCls t = false ∧ cGl ν (tyNm t) = true := by
  unfold cTy at h
  split at h
  · rename_i x p
    simp only [Bool.and_eq_true, Bool.not_eq_true', decide_eq_true_eq] at h
    obtain ⟨⟨h1, h2⟩, h3⟩ := h
    subst h2
    exact ⟨p, rfl, h1, h3⟩
  · cases h
theorem cTys_ok (F : Fit L ν X) : ∀ {ts : List Ty} {es : List Expr}, cTys ν ts es = true → TyEs ts es ∧ ∀ u ∈ ts, isCls u = false ∧ Gl X (tyNm u)
  | [], es, h => by
    cases es with
    | nil => exact ⟨.nil, fun u hu => by cases hu⟩
    | cons _ _ => cases h
  | t :: ts, es, h => by
    cases es with
    | nil => cases h
    | cons e es =>
      obtain ⟨h1, h2⟩ := Bool.and_eq_true_iff.mp (show (cTy ν t e && cTys ν ts es) = true from h)
      obtain ⟨p, rfl, c1, c2⟩ := cTy_ok h1
      obtain ⟨r1, r2⟩ := cTys_ok F h2
      refine ⟨.cons r1, fun u hu => ?_⟩
      rcases List.mem_cons.mp hu with rfl | hu
      · exact ⟨c1, F.gl c2⟩
      · exact r2 u hu
theorem XOk.wf (O : XOk Z L P G n X W) : XOk Z L P G n X WF := { O with tk := O.tk.imp fun _ _ _ _ z => False.elim z }
theorem ownP_snd (own : List Nat) : (ownP ν own).map (·.2) = own := by
  unfold ownP
  rw [List.map_map]
  exact List.map_id' own
theorem Fit.blk (F : Fit L ν X) {s : Shared} {H : Hp} {scope : Scope} {cl : List (Str × Addr)} {c : Addr} {fp : List Addr} {xe : Value → Shared → Prop} (hk : scope.kind = .function) : Fit L (ν.blk scope) (Xb X s H scope (compEnvC scope cl c X.env) fp xe) := by
  refine ⟨F.N, ?_, hk, fun x h => h, fun z => by cases z⟩
  show relS scope X.env.scope = relS scope ν.sc
  rw [F.sc]
/-! ### lambdas -/
theorem cParams_ok {a : Arguments} {ps : List Str} (h : cParams a = some ps) : ∃ as, a = ⟨[], as, none, [], [], none, []⟩ ∧ ps = as.map (·.arg) := by
  unfold cParams at h
  split at h
  · cases h; exact ⟨_, rfl, rfl⟩
  · cases h
end
end Mi

end
section
/-! M28: what is checked holds: expressions, all of them. -/
namespace Mi
open PySem L2
section
variable {L : XLay} {P : Prg} {G : GTab}
/-- what a comprehension's check gives -/
structure LcOk (Z : Wo) (L : XLay) (P : Prg) (G : GTab) (n : Nat) (κ : List (Nat × CloD)) (W : WX) (X : Cx) (ν : CC) (me : ME) (mt : MT) (mi : MI) (mifs : MQs) (own : List Nat) (e : Expr) : Prop where
  ex : ∃ elt tg iter ifs scope pos, e = .ListComp elt [⟨tg, iter, ifs, 0⟩] scope pos ∧ SI Z L P n κ W X tg mi iter ∧ BlkOk X.N X.env.scope scope (ownP ν own) ∧ BlkS Z L P G n κ W X scope tg ifs elt mt mifs me ((ownP ν own).map (·.2)) ∧ ∀ x, foldedSetIterable iter X.env x = pure x
abbrev OkE (L : XLay) (P : Prg) (G : GTab) (ν : CC) (m : ME) (e : Expr) : Prop := ∀ (Z : Wo) (n : Nat) (κ : List (Nat × CloD)) (W : WX) (X : Cx), XOk Z L P G n X W → Fit L ν X → SE Z L P n κ W X m e
abbrev OkEs (L : XLay) (P : Prg) (G : GTab) (ν : CC) (m : MEs) (e : List Expr) : Prop := ∀ (Z : Wo) (n : Nat) (κ : List (Nat × CloD)) (W : WX) (X : Cx), XOk Z L P G n X W → Fit L ν X → SEs Z L P n κ W X m e
abbrev OkQ (L : XLay) (P : Prg) (G : GTab) (ν : CC) (m : MQ) (e : Expr) : Prop := ∀ (Z : Wo) (n : Nat) (κ : List (Nat × CloD)) (W : WX) (X : Cx), XOk Z L P G n X W → Fit L ν X → SQ Z L P n κ W X m e
abbrev OkQs (L : XLay) (P : Prg) (G : GTab) (ν : CC) (m : MQs) (e : List Expr) : Prop := ∀ (Z : Wo) (n : Nat) (κ : List (Nat × CloD)) (W : WX) (X : Cx), XOk Z L P G n X W → Fit L ν X → SQs Z L P n κ W X m e
abbrev OkT (L : XLay) (P : Prg) (G : GTab) (ν : CC) (ow : Nat → Bool) (m : MT) (e : Expr) : Prop := ∀ (Z : Wo) (n : Nat) (κ : List (Nat × CloD)) (W : WX) (X : Cx), XOk Z L P G n X W → Fit L ν X → ∀ C : St → Prop, (∀ i sv v, ow i = true → C sv → C (sv.set i (some v))) → PG X e (tG Z L P n κ C m)
abbrev OkI (L : XLay) (P : Prg) (G : GTab) (ν : CC) (m : MI) (e : Expr) : Prop := ∀ (Z : Wo) (n : Nat) (κ : List (Nat × CloD)) (W : WX) (X : Cx) (tg : Expr), XOk Z L P G n X W → Fit L ν X → SI Z L P n κ W X tg m e
theorem lcOk_of {Z : Wo} {n : Nat} {κ : List (Nat × CloD)} {W : WX} {X : Cx} {ν : CC} {me : ME} {mt : MT} {mi : MI} {mifs : MQs} {own : List Nat} {el tg it : Expr} {ifs : List Expr} {scope : Scope} {pos : Pos} (O : XOk Z L P G n X W) (F : Fit L ν X)
    (h1 : notSet it = true) (h2 : blkC ν.N ν.sc scope (ownP ν own) = true) (h3 : ifs1 mifs = true) (hi : OkI L P G ν mi it) (ht : OkT L P G (ν.blk scope) (fun i => own.contains i) mt tg) (hq : OkQs L P G (ν.blk scope) mifs ifs) (he : OkE L P G (ν.blk scope) me el) :
    LcOk Z L P G n κ W X ν me mt mi mifs own (.ListComp el [⟨tg, it, ifs, 0⟩] scope pos) := by
  have B := blkOk_by h2
  refine ⟨el, tg, it, ifs, scope, pos, rfl, hi Z n κ W X tg O F, by rw [F.N, F.sc]; exact B, ?_, notSet_ok h1⟩
  rw [ownP_snd]
  refine ⟨fun s H cl c fp xe sv O' => ?_, fun s H cl c fp xe sv O' => ?_, fun s H cl c fp xe sv O' => ?_⟩
  · refine ht Z n κ _ _ O' (F.blk B.kind) _ fun i sv' v hi hC => ?_
    rw [wipe_set (by simpa using hi)]
    exact hC
  · exact (hq Z n κ _ _ O' (F.blk B.kind)).spt h3
  · exact he Z n κ _ _ O' (F.blk B.kind)
theorem LcOk.se {Z : Wo} {n : Nat} {κ : List (Nat × CloD)} {W : WX} {X : Cx} {ν : CC} {me : ME} {mt : MT} {mi : MI} {mifs : MQs} {own : List Nat} {e : Expr} {h : Bool} (O : XOk Z L P G n X W) (K : LcOk Z L P G n κ W X ν me mt mi mifs own e) : SE Z L P n κ W X (.lc h me mt mi mifs own) e := by
  obtain ⟨el, tg, it, ifs, scope, pos, rfl, a, b, c, d⟩ := K.ex
  have := se_lc (h := h) (pos := pos) O a b c d
  rw [ownP_snd] at this
  exact this
/-- a lambda as an argument -/
theorem lamOk_of {Z : Wo} {n : Nat} {κ : List (Nat × CloD)} {W : WX} {X : Cx} {ν : CC} {j nps : Nat} {caps : List Nat} {N : List Str} {mb : ME} {ms : MEs} {params : Arguments} {body : Expr} {scope : Scope} {lpos : Pos} {es : List Expr} (O : XOk Z L P G n X W) (F : Fit L ν X)
    (hs : cLamS G ν nps caps N params scope = true) (hb : OkE L P G (CC.lamb N scope) mb body) (h2 : SAL Z L P n κ W X (j + 1) ms es) : SAL Z L P n κ W X j (.cons (.lam nps caps N mb) ms) (.Lambda params body scope lpos :: es) := by
  unfold cLamS at hs
  cases hp : cParams params with
  | none => rw [hp] at hs; cases hs
  | some ps =>
    rw [hp] at hs
    obtain ⟨as, rfl, eps⟩ := cParams_ok hp
    simp only [Bool.and_eq_true, decide_eq_true_eq, List.all_eq_true, List.any_eq_true] at hs
    obtain ⟨⟨⟨⟨⟨⟨h1, h2'⟩, h3⟩, h4⟩, h5⟩, h6⟩, h7⟩ := hs
    have S := NdefX.nscope_by h4
    refine sal_lam O (F.lam h1) rfl S h2' (fun y hy e => ?_) (fun y hy => ?_) (fun y hy e => ?_) ?_ (fun q cl pm cv ctv us hl => O.wok.lps _ h3 as eps.symm body scope q cl pm cv ctv us hl) (fun k hk Fn f A outer s H E hsc O' => ?_) h2
    · have q := h6 y hy
      rw [e] at q
      simp only [Bool.and_eq_true] at q
      have q := q.1
      rw [F.sc]
      split at q <;> first | exact .inl (by assumption) | exact .inr (by assumption) | cases q
    · obtain ⟨z, hz, e1, e2⟩ := h7 y hy
      have : (y, NameKind.free) = z := by rw [← e1, ← e2]
      rw [this]; exact hz
    · have q := h6 y hy
      rw [e] at q
      simp only [Bool.and_eq_true] at q
      exact F.fn _ q.2
    · rw [F.N]; exact h5
    · refine hb _ k [] _ _ O' ⟨rfl, hsc, S.kind, (fun x z => by cases z), (fun z => by cases z)⟩
abbrev OkA (L : XLay) (P : Prg) (G : GTab) (ν : CC) (ms : MEs) (es : List Expr) : Prop := ∀ (Z : Wo) (n : Nat) (κ : List (Nat × CloD)) (W : WX) (X : Cx), XOk Z L P G n X W → Fit L ν X → (∀ j, SAL Z L P n κ W X j ms es) ∧ noStar es = true ∧ (es = [] → ms = .nil)
theorem okA_step {m : ME} {ms : MEs} {ν : CC} {es : List Expr} (hl : isLam m = false) (hE : ∀ e, cE G P ν m e = true → OkE L P G ν m e) (hA : ∀ r, cA G P ν ms r = true → OkA L P G ν ms r) (hc : cA G P ν (.cons m ms) es = true) : OkA L P G ν (.cons m ms) es := fun Z n κ W X O F => by
  cases es with
  | nil => cases m <;> first | (cases hc; done) | cases hl
  | cons e r =>
    have hc : (noSt e && cE G P ν m e && cA G P ν ms r) = true := by cases m <;> first | exact hc | cases hl
    simp only [Bool.and_eq_true] at hc
    obtain ⟨⟨h1, h2⟩, h3⟩ := hc
    obtain ⟨a1, a2, a3⟩ := hA r h3 Z n κ W X O F
    have hs := noStar_of h1 a2
    exact ⟨fun j => sal_cons hl (hE e h2 Z n κ W X O F) (a1 (j + 1)) hs, hs, fun z => by cases z⟩
mutual
theorem okE : ∀ (m : ME) (ν : CC) (e : Expr), cE G P ν m e = true → OkE L P G ν m e
  | .cst d, ν, e, hc => fun Z n κ W X O F => by
    obtain ⟨v, h1, h2⟩ := cC_ok (L := L) (show cC d e = true from hc)
    exact se_const (h1 X) h2
  | .var i, ν, e, hc => fun Z n κ W X O F => by
    cases e <;> first | (cases hc; done) | skip
    obtain ⟨a, b, c, d⟩ := F.var (show cVar ν i _ = true from hc)
    exact se_var a b c d
  | .glc x d, ν, e, hc => fun Z n κ W X O F => by
    cases e <;> first | (cases hc; done) | skip
    rename_i y p
    have hc : (decide (y = x) && cGd ν x && P.csts.any fun p => decide (p.1 = x) && cD p.2 d) = true := hc
    simp only [Bool.and_eq_true, decide_eq_true_eq, List.any_eq_true] at hc
    obtain ⟨⟨rfl, h2⟩, q, hq, h3, h4⟩ := hc
    obtain ⟨g1, g2⟩ := F.gd h2
    have : (y, d) ∈ P.csts := by
      rw [show (y, d) = q from by rw [← h3, ← cD_ok _ _ h4]]
      exact hq
    exact se_glc O g1 this g2
  | .fnv g, ν, e, hc => fun Z n κ W X O F => by
    cases e <;> first | (cases hc; done) | skip
    rename_i y p
    obtain ⟨h1, h2⟩ := Bool.and_eq_true_iff.mp (show (cGd ν y && decide (G.fnm.lookup y = some g)) = true from hc)
    obtain ⟨g1, g2⟩ := F.gd h1
    exact se_fnv O g1 (of_decide_eq_true h2) g2
  | .tup ms, ν, e, hc => fun Z n κ W X O F => by
    cases e <;> first | (cases hc; done) | skip
    rename_i es _ _
    obtain ⟨h1, h2⟩ := Bool.and_eq_true_iff.mp (show (cEs G P ν ms es && decide (ms.size ≤ 1000)) = true from hc)
    exact se_tup (okEs ms ν es h1 Z n κ W X O F).sa (of_decide_eq_true h2)
  | .lst b ms, ν, e, hc => fun Z n κ W X O F => by
    cases e <;> first | (cases hc; done) | skip
    rename_i es _
    obtain ⟨h1, h2⟩ := Bool.and_eq_true_iff.mp (show (cEs G P ν ms es && decide (ms.size ≤ 1000)) = true from hc)
    exact se_lst (okEs ms ν es h1 Z n κ W X O F).sa (of_decide_eq_true h2)
  | .bin o b m1 m2, ν, e, hc => fun Z n κ W X O F => by
    cases e <;> first | (cases hc; done) | skip
    rename_i x q y _
    have hc : (decide (q = bopr o) && cE G P ν m1 x && cE G P ν m2 y) = true := hc
    simp only [Bool.and_eq_true, decide_eq_true_eq] at hc
    obtain ⟨⟨rfl, h1⟩, h2⟩ := hc
    exact se_bin O (okE m1 ν x h1 Z n κ W X O F) (okE m2 ν y h2 Z n κ W X O F)
  | .un o m1, ν, e, hc => fun Z n κ W X O F => by
    cases e <;> first | (cases hc; done) | skip
    rename_i q x _
    have hc : (decide (q = uopr o) && cE G P ν m1 x) = true := hc
    simp only [Bool.and_eq_true, decide_eq_true_eq] at hc
    obtain ⟨rfl, h1⟩ := hc
    exact se_un (okE m1 ν x h1 Z n κ W X O F)
  | .cmp o m1 m2, ν, e, hc => fun Z n κ W X O F => by
    simp only [cE] at hc
    split at hc
    · rename_i x q y p
      simp only [Bool.and_eq_true, decide_eq_true_eq] at hc
      obtain ⟨⟨⟨rfl, h0⟩, h1⟩, h2⟩ := hc
      exact se_cmp O (okE m1 ν x h1 Z n κ W X O F) (okE m2 ν y h2 Z n κ W X O F) (notSet_mark h0)
    · cases hc
  | .chn o p m1 m2 m3, ν, e, hc => fun Z n κ W X O F => by
    simp only [cE] at hc
    split at hc
    · rename_i x q r y z ps
      simp only [Bool.and_eq_true, decide_eq_true_eq] at hc
      obtain ⟨⟨⟨⟨⟨rfl, rfl⟩, h0⟩, h1⟩, h2⟩, h3⟩ := hc
      exact se_chn O (okE m1 ν x h1 Z n κ W X O F) (okE m2 ν y h2 Z n κ W X O F) (okE m3 ν z h3 Z n κ W X O F) (notSet_mark h0)
    · cases hc
  | .bop b ms, ν, e, hc => fun Z n κ W X O F => by
    simp only [cE] at hc
    split at hc
    · rename_i q es p
      simp only [Bool.and_eq_true, decide_eq_true_eq, Bool.not_eq_true', List.isEmpty_eq_false_iff] at hc
      obtain ⟨⟨rfl, h0⟩, h1⟩ := hc
      exact (okEs ms ν es h1 Z n κ W X O F).sb h0
    · cases hc
  | .not m1, ν, e, hc => fun Z n κ W X O F => by
    simp only [cE] at hc
    split at hc
    · exact se_not (okE m1 ν _ hc Z n κ W X O F)
    · cases hc
  | .ife t a b, ν, e, hc => fun Z n κ W X O F => by
    simp only [cE] at hc
    split at hc
    · rename_i x y z p
      simp only [Bool.and_eq_true] at hc
      obtain ⟨⟨h1, h2⟩, h3⟩ := hc
      exact se_ife (okQ t ν x h1 Z n κ W X O F) (okE a ν y h2 Z n κ W X O F) (okE b ν z h3 Z n κ W X O F)
    · cases hc
  | .ix a b, ν, e, hc => fun Z n κ W X O F => by
    simp only [cE] at hc
    split at hc
    · rename_i x y p
      simp only [Bool.and_eq_true] at hc
      obtain ⟨⟨h1, h2⟩, h3⟩ := hc
      exact se_ix O (okE a ν x h2 Z n κ W X O F) (okE b ν y h3 Z n κ W X O F) (notSl_ok h1)
    · cases hc
  | .sl b a lo hi, ν, e, hc => fun Z n κ W X O F => by
    simp only [cE] at hc
    split at hc
    · rename_i x l u p q
      simp only [Bool.and_eq_true] at hc
      obtain ⟨⟨h1, h2⟩, h3⟩ := hc
      exact se_sl O (okE a ν x h1 Z n κ W X O F) (okP lo ν l h2 Z n κ W X O F) (okP hi ν u h3 Z n κ W X O F)
    · cases hc
  | .call g ms, ν, e, hc => fun Z n κ W X O F => by
    simp only [cE] at hc
    split at hc
    · rename_i x p es q
      simp only [Bool.and_eq_true, decide_eq_true_eq] at hc
      obtain ⟨⟨h1, h2⟩, h3⟩ := hc
      obtain ⟨g1, g2⟩ := F.gd h1
      obtain ⟨a1, a2, a3⟩ := okA ms ν es h3 Z n κ W X O F
      cases es with
      | nil => rw [a3 rfl]; exact se_call0 O g1 h2 g2 (O.wok.fkp _ _ h2)
      | cons e1 es => exact se_call O g1 h2 g2 (a1 0) a2 (O.wok.fkp _ _ h2)
    · cases hc
  | .callv i ms, ν, e, hc => fun Z n κ W X O F => by
    simp only [cE] at hc
    split at hc
    · rename_i x p es q
      simp only [Bool.and_eq_true] at hc
      obtain ⟨h1, h2⟩ := hc
      obtain ⟨a, b, c, d⟩ := F.var h1
      have k := okEs ms ν es h2 Z n κ W X O F
      exact se_callv O a b c d k.sa (fun z => by subst z; exact k.nil_of) k.star
    · cases hc
  | .make C ms, ν, e, hc => fun Z n κ W X O F => by
    simp only [cE] at hc
    split at hc
    · rename_i x p es q
      simp only [Bool.and_eq_true, decide_eq_true_eq] at hc
      obtain ⟨⟨h1, h2⟩, h3⟩ := hc
      obtain ⟨g1, g2⟩ := F.gd h1
      have k := okEs ms ν es h3 Z n κ W X O F
      exact se_make O g1 h2 g2 k.sa (fun z => by subst z; exact k.nil_of) k.star
    · cases hc
  | .meth m o ms, ν, e, hc => fun Z n κ W X O F => by
    simp only [cE] at hc
    split at hc
    · rename_i x f ap es pos
      simp only [Bool.and_eq_true, decide_eq_true_eq] at hc
      obtain ⟨⟨⟨⟨⟨rfl, h1⟩, h2⟩, h3⟩, h4⟩, h5⟩ := hc
      have k := okEs ms ν es h5 Z n κ W X O F
      exact se_meth O (okE o ν x h4 Z n κ W X O F) k.sa (fun z => by subst z; exact k.nil_of) h1 k.star h2 h3
    · cases hc
  | .fld f o, ν, e, hc => fun Z n κ W X O F => by
    simp only [cE] at hc
    split at hc
    · rename_i x g p
      simp only [Bool.and_eq_true, decide_eq_true_eq] at hc
      obtain ⟨⟨rfl, h1⟩, h2⟩ := hc
      exact se_fld O (okE o ν x h2 Z n κ W X O F) h1
    · cases hc
  | .bi b h ms, ν, e, hc => fun Z n κ W X O F => by
    simp only [cE] at hc
    split at hc
    · rename_i x p es q
      simp only [Bool.and_eq_true, decide_eq_true_eq, Bool.not_eq_true', List.isEmpty_eq_false_iff] at hc
      obtain ⟨⟨⟨rfl, h1⟩, h2⟩, h3⟩ := hc
      have k := okEs ms ν es h3 Z n κ W X O F
      cases es with
      | nil => exact absurd rfl h2
      | cons e1 es => exact se_bi O k.sa (F.gl h1) (star_cons k.star) (star_plain (noStar_tail k.star))
    · cases hc
  | .bm b o ms, ν, e, hc => fun Z n κ W X O F => by
    simp only [cE] at hc
    split at hc
    · rename_i x f ap es pos
      simp only [Bool.and_eq_true, decide_eq_true_eq] at hc
      obtain ⟨⟨⟨⟨⟨⟨rfl, h1⟩, h2⟩, h3⟩, h6⟩, h4⟩, h5⟩ := hc
      have k := okEs ms ν es h5 Z n κ W X O F
      have ho := okE o ν x h4 Z n κ W X O F
      cases es with
      | nil =>
        have : b = .pop := by cases b <;> first | rfl | cases h6
        subst this
        rw [k.nil_of]
        exact se_pop O ho rfl h1 h2
      | cons e1 es => exact se_bm O ho k.sa rfl (fun z => by subst z; cases h6) h1 k.star h2 h3
    · cases hc
  | .isi a ts, ν, e, hc => fun Z n κ W X O F => by
    simp only [cE] at hc
    split at hc
    · rename_i x p y tt q
      simp only [Bool.and_eq_true, decide_eq_true_eq] at hc
      obtain ⟨⟨⟨⟨rfl, h1⟩, h2⟩, h3⟩, h4⟩ := hc
      have ha := okE a ν y h3 Z n κ W X O F
      have hs : noStar [y] = true := noStar_of h2 rfl
      split at h4
      · rename_i es k tp
        simp only [Bool.and_eq_true, decide_eq_true_eq, Bool.not_eq_true', List.isEmpty_eq_false_iff] at h4
        obtain ⟨⟨h5, h6⟩, h7⟩ := h4
        obtain ⟨t1, t2⟩ := cTys_ok F h7
        cases ts with
        | nil => exact absurd rfl h5
        | cons t ts => exact se_isis O ha t1 t2 h6 (F.gl h1) hs
      · split at h4
        · obtain ⟨p', e', c1, c2⟩ := cTy_ok h4
          rw [e']
          exact se_isi O ha c1 (F.gl c2) (F.gl h1) hs
        · cases h4
      · cases h4
    · cases hc
  | .lc h me mt mi mifs own, ν, e, hc => fun Z n κ W X O F => by
    simp only [cE] at hc
    split at hc
    · rename_i el tg it ifs scope pos
      simp only [Bool.and_eq_true] at hc
      obtain ⟨⟨⟨⟨⟨⟨h1, h2⟩, h3⟩, h4⟩, h5⟩, h6⟩, h7⟩ := hc
      exact LcOk.se (h := h) O (lcOk_of O F h1 h2 h3 (okI mi ν it h4) (okT mt (ν.blk scope) _ tg h5) (okQs mifs (ν.blk scope) ifs h6) (okE me (ν.blk scope) el h7))
    · cases hc
  | .dsp h ks, ν, e, hc => fun Z n κ W X O F => by
    simp only [cE] at hc
    split at hc
    · rename_i keys vs p
      simp only [Bool.and_eq_true, decide_eq_true_eq] at hc
      obtain ⟨h1, h2⟩ := hc
      obtain ⟨a1, a2, a3, a4⟩ := okK ks ν keys vs h2 Z n κ W X p O F
      cases ks with
      | nil =>
        have e1 : keys = [] := List.length_eq_zero_iff.mp a4
        have e2 : vs = [] := List.length_eq_zero_iff.mp (by rw [← a3, a4]; rfl)
        subst e1
        subst e2
        exact se_dsp0
      | cons k v r =>
        refine se_dsp a1 a2 a3 (fun z => by rw [z] at a4; cases a4) h1 (by rw [← a4]; exact h1)
    · cases hc
  | .lam _ _ _ _, ν, e, hc => by cases hc
  | .exp _, ν, e, hc => by cases hc
theorem okEs : ∀ (ms : MEs) (ν : CC) (es : List Expr), cEs G P ν ms es = true → OkEs L P G ν ms es
  | .nil, ν, es, hc => fun Z n κ W X O F => by
    cases es with
    | nil => exact .nil
    | cons _ _ => cases hc
  | .cons m ms, ν, es, hc => fun Z n κ W X O F => by
    cases es with
    | nil => cases hc
    | cons e r =>
      have hc : (noSt e && cE G P ν m e && cEs G P ν ms r) = true := hc
      simp only [Bool.and_eq_true] at hc
      obtain ⟨⟨h1, h2⟩, h3⟩ := hc
      exact .cons (okE m ν e h2 Z n κ W X O F) h1 (okEs ms ν r h3 Z n κ W X O F)
theorem okA : ∀ (ms : MEs) (ν : CC) (es : List Expr), cA G P ν ms es = true → OkA L P G ν ms es
  | .nil, ν, es, hc => fun Z n κ W X O F => by
    cases es with
    | nil => exact ⟨fun j => sal_nil, rfl, fun _ => rfl⟩
    | cons _ _ => cases hc
  | .cons (.lam nps caps N mb) ms, ν, es, hc => fun Z n κ W X O F => by
    simp only [cA] at hc
    split at hc
    · rename_i params body scope lpos r
      simp only [Bool.and_eq_true] at hc
      obtain ⟨⟨h1, h2⟩, h3⟩ := hc
      obtain ⟨a1, a2, a3⟩ := okA ms ν r h3 Z n κ W X O F
      exact ⟨fun j => lamOk_of O F h1 (okE mb _ body h2) (a1 (j + 1)), a2, fun z => by cases z⟩
    · cases hc
  | .cons (.cst a0) ms, ν, es, hc => okA_step rfl (okE (.cst a0) ν) (okA ms ν) hc
  | .cons (.var a0) ms, ν, es, hc => okA_step rfl (okE (.var a0) ν) (okA ms ν) hc
  | .cons (.glc a0 a1) ms, ν, es, hc => okA_step rfl (okE (.glc a0 a1) ν) (okA ms ν) hc
  | .cons (.fnv a0) ms, ν, es, hc => okA_step rfl (okE (.fnv a0) ν) (okA ms ν) hc
  | .cons (.tup a0) ms, ν, es, hc => okA_step rfl (okE (.tup a0) ν) (okA ms ν) hc
  | .cons (.lst a0 a1) ms, ν, es, hc => okA_step rfl (okE (.lst a0 a1) ν) (okA ms ν) hc
  | .cons (.bin a0 a1 a2 a3) ms, ν, es, hc => okA_step rfl (okE (.bin a0 a1 a2 a3) ν) (okA ms ν) hc
  | .cons (.un a0 a1) ms, ν, es, hc => okA_step rfl (okE (.un a0 a1) ν) (okA ms ν) hc
  | .cons (.cmp a0 a1 a2) ms, ν, es, hc => okA_step rfl (okE (.cmp a0 a1 a2) ν) (okA ms ν) hc
  | .cons (.chn a0 a1 a2 a3 a4) ms, ν, es, hc => okA_step rfl (okE (.chn a0 a1 a2 a3 a4) ν) (okA ms ν) hc
  | .cons (.bop a0 a1) ms, ν, es, hc => okA_step rfl (okE (.bop a0 a1) ν) (okA ms ν) hc
  | .cons (.not a0) ms, ν, es, hc => okA_step rfl (okE (.not a0) ν) (okA ms ν) hc
  | .cons (.ife a0 a1 a2) ms, ν, es, hc => okA_step rfl (okE (.ife a0 a1 a2) ν) (okA ms ν) hc
  | .cons (.ix a0 a1) ms, ν, es, hc => okA_step rfl (okE (.ix a0 a1) ν) (okA ms ν) hc
  | .cons (.sl a0 a1 a2 a3) ms, ν, es, hc => okA_step rfl (okE (.sl a0 a1 a2 a3) ν) (okA ms ν) hc
  | .cons (.call a0 a1) ms, ν, es, hc => okA_step rfl (okE (.call a0 a1) ν) (okA ms ν) hc
  | .cons (.callv a0 a1) ms, ν, es, hc => okA_step rfl (okE (.callv a0 a1) ν) (okA ms ν) hc
  | .cons (.make a0 a1) ms, ν, es, hc => okA_step rfl (okE (.make a0 a1) ν) (okA ms ν) hc
  | .cons (.meth a0 a1 a2) ms, ν, es, hc => okA_step rfl (okE (.meth a0 a1 a2) ν) (okA ms ν) hc
  | .cons (.fld a0 a1) ms, ν, es, hc => okA_step rfl (okE (.fld a0 a1) ν) (okA ms ν) hc
  | .cons (.bi a0 a1 a2) ms, ν, es, hc => okA_step rfl (okE (.bi a0 a1 a2) ν) (okA ms ν) hc
  | .cons (.bm a0 a1 a2) ms, ν, es, hc => okA_step rfl (okE (.bm a0 a1 a2) ν) (okA ms ν) hc
  | .cons (.isi a0 a1) ms, ν, es, hc => okA_step rfl (okE (.isi a0 a1) ν) (okA ms ν) hc
  | .cons (.lc a0 a1 a2 a3 a4 a5) ms, ν, es, hc => okA_step rfl (okE (.lc a0 a1 a2 a3 a4 a5) ν) (okA ms ν) hc
  | .cons (.dsp a0 a1) ms, ν, es, hc => okA_step rfl (okE (.dsp a0 a1) ν) (okA ms ν) hc
  | .cons (.exp a0) ms, ν, es, hc => okA_step rfl (okE (.exp a0) ν) (okA ms ν) hc
theorem okK : ∀ (ks : MKs) (ν : CC) (keys : List (Option Expr)) (vs : List Expr), cK G P ν ks keys vs = true → ∀ (Z : Wo) (n : Nat) (κ : List (Nat × CloD)) (W : WX) (X : Cx) (pos : Pos), XOk Z L P G n X W → Fit L ν X → SPs Z L P n κ W X pos ks keys vs ∧ keys.all (·.isSome) = true ∧ keys.length = vs.length ∧ keys.length = ks.size
  | .nil, ν, keys, vs, hc => fun Z n κ W X pos O F => by
    obtain ⟨h1, h2⟩ := Bool.and_eq_true_iff.mp (show (keys.isEmpty && vs.isEmpty) = true from hc)
    have e1 : keys = [] := List.isEmpty_iff.mp h1
    have e2 : vs = [] := List.isEmpty_iff.mp h2
    subst e1
    subst e2
    exact ⟨sps_nil, rfl, rfl, rfl⟩
  | .cons k v r, ν, keys, vs, hc => fun Z n κ W X pos O F => by
    simp only [cK] at hc
    split at hc
    · rename_i a ks b vs
      simp only [Bool.and_eq_true] at hc
      obtain ⟨⟨h1, h2⟩, h3⟩ := hc
      obtain ⟨a1, a2, a3, a4⟩ := okK r ν ks vs h3 Z n κ W X pos O F
      exact ⟨sps_cons (okE k ν a h1 Z n κ W X O F) (okE v ν b h2 Z n κ W X O F) a1, by simpa using a2, congrArg Nat.succ a3, congrArg Nat.succ a4⟩
    · cases hc
theorem okP : ∀ (m : MP) (ν : CC) (e : Option Expr), cP G P ν m e = true → ∀ (Z : Wo) (n : Nat) (κ : List (Nat × CloD)) (W : WX) (X : Cx), XOk Z L P G n X W → Fit L ν X → SP' Z L P n κ W X m e
  | .no, ν, e, hc => fun Z n κ W X O F => by
    cases e with
    | none => exact sp_no
    | some _ => cases hc
  | .some m, ν, e, hc => fun Z n κ W X O F => by
    cases e with
    | none => cases hc
    | some x => exact sp_some (okE m ν x hc Z n κ W X O F)
theorem okQ : ∀ (m : MQ) (ν : CC) (e : Expr), cQ G P ν m e = true → OkQ L P G ν m e
  | .val m, ν, e, hc => fun Z n κ W X O F => by
    obtain ⟨h1, h2⟩ := Bool.and_eq_true_iff.mp (show (plainT e && cE G P ν m e) = true from hc)
    exact sq_val (okE m ν e h2 Z n κ W X O F) (plainT_ok h1)
  | .cmp o m1 m2, ν, e, hc => fun Z n κ W X O F => by
    simp only [cQ] at hc
    split at hc
    · rename_i x q y p
      simp only [Bool.and_eq_true, decide_eq_true_eq] at hc
      obtain ⟨⟨⟨rfl, h0⟩, h1⟩, h2⟩ := hc
      exact sq_cmp O (okE m1 ν x h1 Z n κ W X O F) (okE m2 ν y h2 Z n κ W X O F) (notSet_mark h0)
    · cases hc
  | .chn o p m1 m2 m3, ν, e, hc => fun Z n κ W X O F => by
    simp only [cQ] at hc
    split at hc
    · rename_i x q r y z ps
      simp only [Bool.and_eq_true, decide_eq_true_eq] at hc
      obtain ⟨⟨⟨⟨⟨rfl, rfl⟩, h0⟩, h1⟩, h2⟩, h3⟩ := hc
      exact sq_chn O (okE m1 ν x h1 Z n κ W X O F) (okE m2 ν y h2 Z n κ W X O F) (okE m3 ν z h3 Z n κ W X O F) (notSet_mark h0)
    · cases hc
  | .not t, ν, e, hc => fun Z n κ W X O F => by
    simp only [cQ] at hc
    split at hc
    · exact sq_not (okQ t ν _ hc Z n κ W X O F)
    · cases hc
  | .bop b ts, ν, e, hc => fun Z n κ W X O F => by
    simp only [cQ] at hc
    split at hc
    · rename_i q es p
      simp only [Bool.and_eq_true, decide_eq_true_eq, Bool.not_eq_true', List.isEmpty_eq_false_iff] at hc
      obtain ⟨⟨rfl, h0⟩, h1⟩ := hc
      exact ((okQs ts ν es h1 Z n κ W X O F).sqb h0).pt
    · cases hc
  | .ife t a b, ν, e, hc => fun Z n κ W X O F => by
    simp only [cQ] at hc
    split at hc
    · rename_i x y z p
      simp only [Bool.and_eq_true] at hc
      obtain ⟨⟨h1, h2⟩, h3⟩ := hc
      exact sq_ife (okQ t ν x h1 Z n κ W X O F) (okQ a ν y h2 Z n κ W X O F) (okQ b ν z h3 Z n κ W X O F)
    · cases hc
theorem okQs : ∀ (ms : MQs) (ν : CC) (es : List Expr), cQs G P ν ms es = true → OkQs L P G ν ms es
  | .nil, ν, es, hc => fun Z n κ W X O F => by
    cases es with
    | nil => exact .nil
    | cons _ _ => cases hc
  | .cons m ms, ν, es, hc => fun Z n κ W X O F => by
    cases es with
    | nil => cases hc
    | cons e r =>
      obtain ⟨h1, h2⟩ := Bool.and_eq_true_iff.mp (show (cQ G P ν m e && cQs G P ν ms r) = true from hc)
      exact .cons (okQ m ν e h1 Z n κ W X O F) (okQs ms ν r h2 Z n κ W X O F)
theorem okT : ∀ (m : MT) (ν : CC) (ow : Nat → Bool) (e : Expr), cT G P ν ow m e = true → OkT L P G ν ow m e
  | .nm i, ν, ow, e, hc => fun Z n κ W X O F C hC => by
    simp only [cT] at hc
    split at hc
    · obtain ⟨h1, h2⟩ := Bool.and_eq_true_iff.mp hc
      obtain ⟨a, b, c⟩ := F.set h1
      exact sg_nm O.nd a b c fun sv v => hC i sv v h2
    · cases hc
  | .tp ts, ν, ow, e, hc => fun Z n κ W X O F C hC => by
    simp only [cT] at hc
    split at hc
    · rename_i es k p
      obtain ⟨h1, h2⟩ := Bool.and_eq_true_iff.mp hc
      obtain ⟨a, b⟩ := okTs ts ν ow es h1 Z n κ W X O F C hC
      exact sg_tp O b (of_decide_eq_true h2) a
    · cases hc
  | .sb o i, ν, ow, e, hc => fun Z n κ W X O F C hC => by
    simp only [cT] at hc
    split at hc
    · rename_i x y p
      simp only [Bool.and_eq_true] at hc
      obtain ⟨⟨h1, h2⟩, h3⟩ := hc
      exact sg_sb O (okE o ν x h2 Z n κ WF X O.wf F) (okE i ν y h3 Z n κ WF X O.wf F) (assign_sub h1)
    · cases hc
  | .at _ _, ν, ow, e, hc => by cases hc
theorem okTs : ∀ (ms : MTs) (ν : CC) (ow : Nat → Bool) (es : List Expr), cTs G P ν ow ms es = true → ∀ (Z : Wo) (n : Nat) (κ : List (Nat × CloD)) (W : WX) (X : Cx), XOk Z L P G n X W → Fit L ν X → ∀ C : St → Prop, (∀ i sv v, ow i = true → C sv → C (sv.set i (some v))) → PGs X es (tGs Z L P n κ C ms) ∧ noStar es = true
  | .nil, ν, ow, es, hc => fun Z n κ W X O F C hC => by
    cases es with
    | nil => exact ⟨sgs_nil, rfl⟩
    | cons _ _ => cases hc
  | .cons m ms, ν, ow, es, hc => fun Z n κ W X O F C hC => by
    cases es with
    | nil => cases hc
    | cons e r =>
      have hc : (noSt e && cT G P ν ow m e && cTs G P ν ow ms r) = true := hc
      simp only [Bool.and_eq_true] at hc
      obtain ⟨⟨h1, h2⟩, h3⟩ := hc
      obtain ⟨a, b⟩ := okTs ms ν ow r h3 Z n κ W X O F C hC
      have hs := noStar_of h1 b
      exact ⟨sgs_cons hs (okT m ν ow e h2 Z n κ W X O F C hC) a, hs⟩
theorem okI : ∀ (m : MI) (ν : CC) (e : Expr), cI G P ν m e = true → OkI L P G ν m e
  | .val m, ν, e, hc => fun Z n κ W X tg O F => si_val O (okE m ν e hc Z n κ W X O F)
  | .rng1 m, ν, e, hc => fun Z n κ W X tg O F => by
    simp only [cI] at hc
    split at hc
    · rename_i x p y q
      simp only [Bool.and_eq_true, decide_eq_true_eq] at hc
      obtain ⟨⟨⟨rfl, h1⟩, h2⟩, h3⟩ := hc
      exact si_rng1 O (okE m ν y h3 Z n κ W X O F) (F.gl h1) (noStar_of h2 rfl)
    · cases hc
  | .rng2 a b, ν, e, hc => fun Z n κ W X tg O F => by
    simp only [cI] at hc
    split at hc
    · rename_i x p y z q
      simp only [Bool.and_eq_true, decide_eq_true_eq] at hc
      obtain ⟨⟨⟨⟨⟨rfl, h1⟩, h2⟩, h3⟩, h4⟩, h5⟩ := hc
      exact si_rng2 O (okE a ν y h4 Z n κ W X O F) (okE b ν z h5 Z n κ W X O F) (F.gl h1) (noStar_of h2 (noStar_of h3 rfl))
    · cases hc
end
end
end Mi

end
section
/-! M29: what is checked holds: statements. -/
namespace Mi
open PySem L2
section
variable {L : XLay} {P : Prg} {G : GTab} {ν : CC} {X : Cx}
mutual
theorem cU_ok {oi : Option Nat} (hO : ∃ (Z : Wo) (n : Nat) (W : WX), XOk Z L P G n X W) (F : Fit L ν X) : ∀ (m : ME) (e : Expr), cU ν oi m e = true → UE L P X oi m e
  | .cst d, e, hc => by
    obtain ⟨v, h1, h2⟩ := cC_ok (L := L) (show cC d e = true from hc)
    exact ue_const h1 h2
  | .var i, e, hc => by
    simp only [cU] at hc
    split at hc
    · simp only [Bool.and_eq_true, decide_eq_true_eq] at hc
      obtain ⟨h1, h2⟩ := hc
      obtain ⟨a, b, c, d⟩ := F.var h2
      exact ue_var h1 a b c d
    · cases hc
  | .exp i, e, hc => by
    simp only [cU] at hc
    split at hc
    · simp only [Bool.and_eq_true, decide_eq_true_eq] at hc
      obtain ⟨⟨⟨h1, h2⟩, rfl⟩, h4⟩ := hc
      obtain ⟨a, b, c, d⟩ := F.var h2
      obtain ⟨Z, n, W, O⟩ := hO
      exact ue_exp O h1 a b c d h4
    · cases hc
  | .tup ms, e, hc => by
    simp only [cU] at hc
    split at hc
    · simp only [Bool.and_eq_true, decide_eq_true_eq] at hc
      exact ue_tup (cUs_ok hO F ms _ hc.1).1 hc.2
    · cases hc
  | .glc _ _, e, hc => by cases hc
  | .fnv _, e, hc => by cases hc
  | .lst _ _, e, hc => by cases hc
  | .bin _ _ _ _, e, hc => by cases hc
  | .un _ _, e, hc => by cases hc
  | .cmp _ _ _, e, hc => by cases hc
  | .chn _ _ _ _ _, e, hc => by cases hc
  | .bop _ _, e, hc => by cases hc
  | .not _, e, hc => by cases hc
  | .ife _ _ _, e, hc => by cases hc
  | .ix _ _, e, hc => by cases hc
  | .sl _ _ _ _, e, hc => by cases hc
  | .call _ _, e, hc => by cases hc
  | .callv _ _, e, hc => by cases hc
  | .make _ _, e, hc => by cases hc
  | .meth _ _ _, e, hc => by cases hc
  | .fld _ _, e, hc => by cases hc
  | .bi _ _ _, e, hc => by cases hc
  | .bm _ _ _, e, hc => by cases hc
  | .isi _ _, e, hc => by cases hc
  | .lc _ _ _ _ _ _, e, hc => by cases hc
  | .dsp _ _, e, hc => by cases hc
  | .lam _ _ _ _, e, hc => by cases hc
theorem cUs_ok {oi : Option Nat} (hO : ∃ (Z : Wo) (n : Nat) (W : WX), XOk Z L P G n X W) (F : Fit L ν X) : ∀ (ms : MEs) (es : List Expr), cU.cUs ν oi ms es = true → UA L P X oi ms es ∧ noStar es = true
  | .nil, es, hc => by
    cases es with
    | nil => exact ⟨ua_nil, rfl⟩
    | cons _ _ => cases hc
  | .cons m ms, es, hc => by
    cases es with
    | nil => cases hc
    | cons e r =>
      have hc : (noSt e && cU ν oi m e && cU.cUs ν oi ms r) = true := hc
      simp only [Bool.and_eq_true] at hc
      obtain ⟨⟨h1, h2⟩, h3⟩ := hc
      obtain ⟨a, b⟩ := cUs_ok hO F ms r h3
      have hs := noStar_of h1 b
      exact ⟨ua_cons (cU_ok hO F m e h2) a hs, hs⟩
end
theorem cHs_ok (hO : ∃ (Z : Wo) (n : Nat) (W : WX), XOk Z L P G n X W) (F : Fit L ν X) : ∀ (ms : MHs) (hs : List ExceptHandler), cHs G ν ms hs = true → ∃ l, HsS L P G X ms hs l
  | .nil, hs, hc => by
    cases hs with
    | nil => exact ⟨_, .nil⟩
    | cons _ _ => cases hc
  | .cons h s m ms, hs, hc => by
    simp only [cHs] at hc
    split at hc
    · rename_i x p y e q pos r
      simp only [Bool.and_eq_true, decide_eq_true_eq] at hc
      obtain ⟨⟨⟨h1, h2⟩, h3⟩, h4⟩ := hc
      obtain ⟨l, hl⟩ := cHs_ok hO F ms r h4
      obtain ⟨g1, g2⟩ := F.gd h2
      split at h3
      · exact ⟨_, .bare h1 g1 g2 (cU_ok hO F m e h3) hl⟩
      · simp only [Bool.and_eq_true] at h3
        obtain ⟨⟨k1, k2⟩, k3⟩ := h3
        exact ⟨_, .named h1 g1 g2 (F.slot k1) (F.lcl k2) (cU_ok hO F m e k3) hl⟩
      · cases h3
    · cases hc
end
section
variable {Z : Wo} {L : XLay} {P : Prg} {G : GTab} {n : Nat} {κ : List (Nat × CloD)}
/-- a comprehension's check, seen from its statement -/
theorem okLc {W : WX} {X : Cx} {ν : CC} {h : Bool} {me : ME} {mt : MT} {mi : MI} {mifs : MQs} {own : List Nat} {e : Expr} (O : XOk Z L P G n X W) (F : Fit L ν X) (hc : cE G P ν (.lc h me mt mi mifs own) e = true) : LcOk Z L P G n κ W X ν me mt mi mifs own e := by
  simp only [cE] at hc
  split at hc
  · rename_i el tg it ifs scope pos
    simp only [Bool.and_eq_true] at hc
    obtain ⟨⟨⟨⟨⟨⟨h1, h2⟩, h3⟩, h4⟩, h5⟩, h6⟩, h7⟩ := hc
    exact lcOk_of O F h1 h2 h3 (okI mi ν it h4) (okT mt (ν.blk scope) _ tg h5) (okQs mifs (ν.blk scope) ifs h6) (okE me (ν.blk scope) el h7)
  · cases hc
theorem compLike_ok {e : Expr} (h : compLike e = true) : noComp e = true ∨ ∃ a b s p, e = .ListComp a b s p := by
  cases e <;> first | exact .inl h | exact .inr ⟨_, _, _, _, rfl⟩
/-- a store, by the general rule -/
theorem asg_gen {W : WX} {X : Cx} {ν : CC} {t : MT} {m : ME} {tg e : Expr} {pos : Pos} (O : XOk Z L P G n X W) (F : Fit L ν X) (he : cE G P ν m e = true) (h0 : swB ν.sc tg e = false) (h1 : cT G P ν (fun _ => true) t tg = true) (h2 : noSt tg = true) (h3 : compLike e = true) (h4 : asgSh ν.sc tg e = true) : SSt Z L P n κ W X (.asg t m) (.Assign [tg] e pos) := by
  have hk : X.env.scope.kind = .function := by rw [F.sc]; exact F.kind
  refine ss_asg (okE m ν e he Z n κ W X O F) (okT t ν _ tg h1 Z n κ W X O F _ fun _ _ _ _ _ => trivial) (noStar_of h2 rfl) ?_ ?_
  · rw [swB_ok hk (compLike_ok h3), F.sc, h0]
  · by_cases hl : notLst tg = true
    · by_cases hn : (notTup tg || notTup e) = true
      · exact swNone hn hl
      · cases tg <;> first | (exact absurd rfl hn; done) | skip
        cases e <;> first | (exact absurd rfl hn; done) | skip
        rename_i ts k p vs k2 p2
        have h4 : (match swN ν.sc ts vs with | some none => true | _ => false) = true := h4
        refine sw_of hk ?_
        rw [F.sc]
        split at h4
        · assumption
        · cases h4
    · cases tg <;> first | (exact absurd rfl hl; done) | skip
      cases h4
/-- a comprehension to a name -/
theorem asg_lc {W : WX} {X : Cx} {ν : CC} {i : Nat} {y : Str} {h : Bool} {me : ME} {mt : MT} {mi : MI} {mifs : MQs} {own : List Nat} {e : Expr} {py pos : Pos} (O : XOk Z L P G n X W) (F : Fit L ν X) (he : cE G P ν (.lc h me mt mi mifs own) e = true) (h0 : swB ν.sc (.Name y py) e = true)
    (h1 : cSlot ν i y = true) (h2 : cLcl ν y = true) : SSt Z L P n κ W X (.asg (.nm i) (.lc h me mt mi mifs own)) (.Assign [.Name y py] e pos) := by
  have hk : X.env.scope.kind = .function := by rw [F.sc]; exact F.kind
  obtain ⟨el, tg, it, ifs, scope, p, rfl, a, b, c, d⟩ := (okLc (κ := κ) O F he).ex
  have hw : swapsWith (.ListComp el [⟨tg, it, ifs, 0⟩] scope p) (some (.Name y py)) pos.line X.env = pure true := by
    have := swB_ok (tg := .Name y py) (e := .ListComp el [⟨tg, it, ifs, 0⟩] scope p) (l := pos.line) hk (.inr ⟨_, _, _, _, rfl⟩)
    rw [F.sc, h0] at this
    exact this
  have := ss_setlc (h := h) O (F.slot h1) (F.lcl h2) hw a b c d
  rw [ownP_snd] at this
  exact this
abbrev OkS (Z : Wo) (L : XLay) (P : Prg) (G : GTab) (n : Nat) (κ : List (Nat × CloD)) (ν : CC) (m : MS) (st : Stmt) : Prop := ∀ (W : WX) (X : Cx), XS Z L P n W G X → Fit L ν X → SSt Z L P n κ W X m st
abbrev OkSs (Z : Wo) (L : XLay) (P : Prg) (G : GTab) (n : Nat) (κ : List (Nat × CloD)) (ν : CC) (m : MSs) (st : List Stmt) : Prop := ∀ (W : WX) (X : Cx), XS Z L P n W G X → Fit L ν X → SSs Z L P n κ W X m st
theorem asg_ok {ν : CC} {t : MT} {m : ME} {st : Stmt} (hc : cS G P ν (.asg t m) st = true) : OkS Z L P G n κ ν (.asg t m) st := fun W X S F => by
  simp only [cS] at hc
  split at hc
  · rename_i tg e pos
    simp only [Bool.and_eq_true] at hc
    obtain ⟨h1, h2⟩ := hc
    split at h2
    · rename_i f o x g q
      simp only [Bool.and_eq_true, decide_eq_true_eq] at h2
      obtain ⟨⟨rfl, h3⟩, h4⟩ := h2
      exact ss_at S.ok (okE m ν e h1 Z n κ W X S.ok F) (okE o ν x h3 Z n κ WF X S.ok.wf F) h4
    · by_cases hw : swB ν.sc tg e = true
      · rw [if_pos hw] at h2
        split at h2
        · simp only [Bool.and_eq_true] at h2
          exact asg_lc S.ok F h1 hw h2.1 h2.2
        · cases h2
      · rw [if_neg hw] at h2
        simp only [Bool.and_eq_true] at h2
        obtain ⟨⟨⟨k1, k2⟩, k3⟩, k4⟩ := h2
        exact asg_gen S.ok F h1 (Bool.eq_false_iff.mpr hw) k1 k2 k3 k4
  · cases hc
theorem par_ok {ν : CC} {is : List Nat} {ms : MEs} {st : Stmt} (hc : cS G P ν (.par is ms) st = true) : OkS Z L P G n κ ν (.par is ms) st := fun W X S F => by
  have hk : X.env.scope.kind = .function := by rw [F.sc]; exact F.kind
  simp only [cS] at hc
  split at hc
  · rename_i ts k p vs k2 p2 pos
    simp only [Bool.and_eq_true] at hc
    obtain ⟨h1, h2⟩ := hc
    have ha := (okEs ms ν vs h1 Z n κ W X S.ok F).sa
    split at h2
    · simp only [Bool.and_eq_true, decide_eq_true_eq] at h2
      obtain ⟨⟨⟨⟨⟨a1, a2⟩, a3⟩, a4⟩, a5⟩, a6⟩ := h2
      exact ss_par2 S.ok (F.slot a1) (F.slot a2) a3 (F.lcl a4) (F.lcl a5) ha (sw_of hk (by rw [F.sc]; exact a6))
    · simp only [Bool.and_eq_true, decide_eq_true_eq] at h2
      obtain ⟨⟨⟨⟨⟨⟨⟨⟨⟨a1, a2⟩, a3⟩, a4⟩, a5⟩, a6⟩, a7⟩, a8⟩, a9⟩, a10⟩ := h2
      exact ss_par3 S.ok (F.slot a1) (F.slot a2) (F.slot a3) a4 a5 a6 (F.lcl a7) (F.lcl a8) (F.lcl a9) ha (sw_of hk (by rw [F.sc]; exact a10))
    · cases h2
  · cases hc
mutual
theorem okS : ∀ (m : MS) (ν : CC) (st : Stmt), cS G P ν m st = true → OkS Z L P G n κ ν m st
  | .expr m, ν, st, hc => fun W X S F => by
    simp only [cS] at hc
    split at hc
    · obtain ⟨h1, h2⟩ := Bool.and_eq_true_iff.mp hc
      exact ss_expr (okE m ν _ h2 Z n κ W X S.ok F) h1
    · cases hc
  | .asg t m, ν, st, hc => asg_ok hc
  | .par is ms, ν, st, hc => par_ok hc
  | .aug o i m, ν, st, hc => fun W X S F => by
    simp only [cS] at hc
    split at hc
    · simp only [Bool.and_eq_true, decide_eq_true_eq] at hc
      obtain ⟨⟨rfl, h1⟩, h2⟩ := hc
      obtain ⟨a, b, c⟩ := F.set h1
      exact ss_aug S.ok a b c (okE m ν _ h2 Z n κ W X S.ok F)
    · cases hc
  | .augf o f a m, ν, st, hc => fun W X S F => by
    simp only [cS] at hc
    split at hc
    · simp only [Bool.and_eq_true, decide_eq_true_eq] at hc
      obtain ⟨⟨⟨rfl, rfl⟩, h1⟩, h2⟩ := hc
      exact ss_augf S.ok (okE a ν _ h1 Z n κ W X S.ok F) (okE m ν _ h2 Z n κ W X S.ok F)
    · cases hc
  | .augs _ _ _ _, ν, st, hc => by cases hc
  | .ife t a b, ν, st, hc => fun W X S F => by
    simp only [cS] at hc
    split at hc
    · simp only [Bool.and_eq_true] at hc
      obtain ⟨⟨h1, h2⟩, h3⟩ := hc
      exact ss_if (okQ t ν _ h1 Z n κ W X S.ok F) (okSs a ν _ h2 W X S F) (okSs b ν _ h3 W X S F)
    · cases hc
  | .whl t b, ν, st, hc => fun W X S F => by
    simp only [cS] at hc
    split at hc
    · simp only [Bool.and_eq_true] at hc
      obtain ⟨h1, h2⟩ := hc
      exact ss_whl S (okQ t ν _ h1 Z n κ W X S.ok F) (okSs b ν _ h2 W X S F)
    · cases hc
  | .fr t it b, ν, st, hc => fun W X S F => by
    simp only [cS] at hc
    split at hc
    · simp only [Bool.and_eq_true] at hc
      obtain ⟨⟨⟨h1, h2⟩, h3⟩, h4⟩ := hc
      exact ss_for S (okI it ν _ h3 Z n κ W X _ S.ok F) (okT t ν _ _ h2 Z n κ W X S.ok F _ fun _ _ _ _ _ => trivial) (okSs b ν _ h4 W X S F) (notSet_ok h1)
    · cases hc
  | .ret m, ν, st, hc => fun W X S F => by
    simp only [cS] at hc
    split at hc
    · exact ss_ret (okE m ν _ hc Z n κ W X S.ok F)
    · cases hc
  | .retn, ν, st, hc => fun W X S F => by
    simp only [cS] at hc
    split at hc
    · exact ss_retn
    · cases hc
  | .rse c m, ν, st, hc => fun W X S F => by
    simp only [cS] at hc
    split at hc
    · simp only [Bool.and_eq_true, decide_eq_true_eq] at hc
      obtain ⟨⟨⟨⟨h1, h2⟩, h3⟩, h4⟩, h5⟩ := hc
      obtain ⟨g1, g2⟩ := F.gd h3
      exact ss_rse S h1 h2 (okE m ν _ h5 Z n κ W X S.ok F) g1 g2 (noStar_of h4 rfl)
    · cases hc
  | .tr b hs, ν, st, hc => fun W X S F => by
    simp only [cS] at hc
    split at hc
    · rename_i body hds pos
      simp only [Bool.and_eq_true, Bool.not_eq_true', List.isEmpty_eq_false_iff] at hc
      obtain ⟨⟨h1, h2⟩, h3⟩ := hc
      obtain ⟨l, hl⟩ := cHs_ok ⟨Z, n, W, S.ok⟩ F hs hds h2
      cases hds with
      | nil => exact absurd rfl h1
      | cons h0 hds => exact ss_tr S hl fun V pn xe S' => okSs b ν body h3 V _ S' ⟨F.N, F.sc, F.kind, F.fn, F.lam⟩
    · cases hc
  | .brk, ν, st, hc => fun W X S F => by
    simp only [cS] at hc
    split at hc
    · exact ss_brk
    · cases hc
  | .cnt, ν, st, hc => fun W X S F => by
    simp only [cS] at hc
    split at hc
    · exact ss_cnt
    · cases hc
  | .pas, ν, st, hc => fun W X S F => by
    simp only [cS] at hc
    split at hc
    · exact ss_pas
    · exact ss_doc
    · cases hc
theorem okSs : ∀ (ms : MSs) (ν : CC) (l : List Stmt), cSs G P ν ms l = true → OkSs Z L P G n κ ν ms l
  | .nil, ν, l, hc => fun W X S F => by
    cases l with
    | nil => exact ss_nil
    | cons _ _ => cases hc
  | .cons m ms, ν, l, hc => fun W X S F => by
    cases l with
    | nil => cases hc
    | cons st r =>
      obtain ⟨h1, h2⟩ := Bool.and_eq_true_iff.mp (show (cS G P ν m st && cSs G P ν ms r) = true from hc)
      exact ss_cons (okS m ν st h1 W X S F) (okSs ms ν r h2 W X S F)
end
end
end Mi

end
section
/-! M30: parameters are bound from the left, the defaults fill up. -/
namespace Mi
open PySem L2
theorem lookup_mem {β : Type} {n : Str} {w : β} : ∀ {l : List (Str × β)}, (l.map (·.1)).Nodup → (n, w) ∈ l → l.lookup n = some w
  | [], _, h => by cases h
  | (m, v) :: l, nd, h => by
    rw [List.map_cons, List.nodup_cons] at nd
    rcases List.mem_cons.mp h with e | h
    · cases e
      simp [List.lookup]
    · have hne : n ≠ m := fun z => nd.1 (List.mem_map.mpr ⟨(n, w), h, z⟩)
      have : (n == m) = false := by simpa using hne
      rw [List.lookup, this]
      exact lookup_mem nd.2 h
theorem lookup_out {β : Type} {n : Str} : ∀ {l : List (Str × β)}, n ∉ l.map (·.1) → l.lookup n = none
  | [], _ => rfl
  | (m, v) :: l, h => by
    rw [List.map_cons, List.mem_cons, not_or] at h
    have : (n == m) = false := by simpa using h.1
    rw [List.lookup, this]
    exact lookup_out h.2
theorem lookup_app {β : Type} {n : Str} : ∀ {l r : List (Str × β)}, l.lookup n = none → (l ++ r).lookup n = r.lookup n
  | [], r, _ => rfl
  | (m, v) :: l, r, h => by
    rw [List.lookup] at h
    cases e : n == m with
    | true => rw [e] at h; cases h
    | false =>
      rw [e] at h
      rw [List.cons_append, List.lookup, e]
      exact lookup_app h
theorem zip_keys : ∀ {ps : List Str} {us : List Value}, us.length ≤ ps.length → (ps.zip us).map (·.1) = ps.take us.length
  | _, [], _ => by simp
  | [], _ :: _, h => by simp at h
  | p :: ps, u :: us, h => by
    simp only [List.zip_cons_cons, List.map_cons, List.length_cons, List.take_succ_cons]
    rw [zip_keys (by simpa using h)]
/-- the defaults' loop -/
theorem dflt_loop {f : Str × Value → List (Str × Value) → Sem (ForInStep (List (Str × Value)))} (hf : ∀ x acc, f x acc = if (acc.lookup x.1).isNone = true then pure (.yield (acc ++ [(x.1, x.2)])) else pure (.yield acc)) :
    ∀ (l : List (Str × Value)) (acc : List (Str × Value)), (l.map (·.1)).Nodup → forIn l acc f = (pure (acc ++ l.filter fun p => (acc.lookup p.1).isNone) : Sem _)
  | [], acc, _ => by simp
  | x :: l, acc, nd => by
    rw [List.map_cons, List.nodup_cons] at nd
    rw [List.forIn_cons, hf]
    by_cases h : (acc.lookup x.1).isNone = true
    · rw [if_pos h]
      show (forIn l (acc ++ [(x.1, x.2)]) f) = _
      rw [dflt_loop hf l _ nd.2, List.filter_cons_of_pos (by exact h), List.append_assoc]
      congr 2
      show (x.1, x.2) :: _ = x :: _
      congr 1
      refine List.filter_congr fun q hq => ?_
      have hne : q.1 ≠ x.1 := fun z => nd.1 (List.mem_map.mpr ⟨q, hq, z⟩)
      cases e : acc.lookup q.1 with
      | none =>
        rw [lookup_app e]
        have : (q.1 == x.1) = false := by simpa using hne
        simp [List.lookup, this]
      | some v =>
        have : (acc ++ [(x.1, x.2)]).lookup q.1 = some v := by
          have go : ∀ {l r : List (Str × Value)}, l.lookup q.1 = some v → (l ++ r).lookup q.1 = some v := by
            intro l r
            induction l with
            | nil => intro h; cases h
            | cons a l ih =>
              intro h
              rw [List.cons_append]
              obtain ⟨m, w⟩ := a
              rw [List.lookup] at h ⊢
              cases e2 : q.1 == m with
              | true => rw [e2] at h; exact h
              | false => rw [e2] at h; exact ih h
          exact go e
        rw [this]
    · rw [if_neg h, List.filter_cons_of_neg (by exact h)]
      show (forIn l acc f) = _
      exact dflt_loop hf l acc nd.2
theorem binds_zip {S : List (Str × Value)} : ∀ {ps : List Str} {ws : List Value}, ps.length = ws.length → (∀ (i : Nat) (n : Str) (w : Value), ps[i]? = some n → ws[i]? = some w → S.lookup n = some w) → ps.filterMap (fun n => (S.lookup n).map (n, ·)) = ps.zip ws
  | [], [], _, _ => rfl
  | [], _ :: _, h, _ => by cases h
  | _ :: _, [], h, _ => by cases h
  | p :: ps, w :: ws, h, k => by
    have h0 := k 0 p w rfl rfl
    rw [List.filterMap_cons, h0]
    show (p, w) :: _ = (p, w) :: ps.zip ws
    rw [binds_zip (by simpa using h) fun i n v e1 e2 => k (i + 1) n v (by simpa using e1) (by simpa using e2)]
theorem bind_gen {as : List Arg} {us its : List Value} {ds : List Expr} {fd : FuncData} {o : Option (Array Value)} (hp : fd.params = ⟨[], as, none, [], [], none, ds⟩) (ho : (o.getD #[]).toList = its) (nd : (as.map (·.arg)).Nodup) (h1 : us.length ≤ as.length) (h2 : its.length ≤ as.length) (h3 : as.length ≤ us.length + its.length) :
    ∃ k, bindArgs fd ⟨us, []⟩ = seqItems? fd.defaults >>= k ∧ k o = pure ((as.map (·.arg)).zip (us ++ its.drop (us.length + its.length - as.length))) := by
  obtain ⟨x1, x2, x3, x4, x5, x6, x7, x8, x9, x10, x11, x12, x13, x14, x15⟩ := fd
  subst hp
  refine ⟨_, rfl, ?_⟩
  have e1 : ¬ (us.length > (as.map (·.arg)).length) := by rw [List.length_map]; omega
  have e2 : its.drop (its.length - (as.map (·.arg)).length) = its := by rw [List.length_map, Nat.sub_eq_zero_of_le h2]; rfl
  simp only [List.map_nil, List.nil_append, List.append_nil, ho, e1, decide_false, Bool.false_and, Bool.false_eq_true, if_false, e2]
  generalize hps : as.map (·.arg) = ps at *
  have hl : ps.length = as.length := by rw [← hps, List.length_map]
  have hm : (ps.take (ps.length - its.length)).filter (fun n => ((ps.zip us).lookup n).isNone) = [] := by
    rw [List.filter_eq_nil_iff]
    intro n hn
    have : n ∈ (ps.zip us).map (·.1) := by
      rw [zip_keys (by omega)]
      obtain ⟨i, hi⟩ := List.mem_iff_getElem?.mp hn
      rw [List.getElem?_take] at hi
      split at hi
      · exact List.mem_iff_getElem?.mpr ⟨i, by rw [List.getElem?_take, if_pos (by omega)]; exact hi⟩
      · cases hi
    obtain ⟨⟨m, v⟩, hv, rfl⟩ := List.mem_map.mp this
    have ndz : ((ps.zip us).map (·.1)).Nodup := by rw [zip_keys (by omega)]; exact nd.sublist (List.take_sublist _ _)
    rw [lookup_mem ndz hv]
    simp
  have kd : (((ps.drop (ps.length - its.length)).zip its).map (·.1)).Nodup := by
    rw [zip_keys (by rw [List.length_drop]; omega)]
    exact (nd.sublist (List.drop_sublist _ _)).sublist (List.take_sublist _ _)
  have ndz : ((ps.zip us).map (·.1)).Nodup := by rw [zip_keys (by omega)]; exact nd.sublist (List.take_sublist _ _)
  rw [hm]
  simp only [List.isEmpty_nil, Bool.not_true, Bool.false_eq_true, if_false, dflt_loop (fun _ _ => rfl) _ _ kd, pure_bind, List.forIn_nil]
  congr 1
  refine binds_zip (by rw [List.length_append, List.length_drop]; omega) fun i n w g1 g2 => ?_
  have hi : i < ps.length := (List.getElem?_eq_some_iff.mp g1).1
  refine lookup_mem ?_ ?_
  · rw [List.map_append, List.nodup_append]
    refine ⟨ndz, kd.sublist (List.Sublist.map _ List.filter_sublist), fun a ha b hb z => ?_⟩
    subst z
    obtain ⟨q, hq, rfl⟩ := List.mem_map.mp hb
    have := (List.mem_filter.mp hq).2
    obtain ⟨⟨m, v⟩, hv, e⟩ := List.mem_map.mp ha
    have e : m = q.1 := e
    rw [e] at hv
    rw [lookup_mem ndz hv] at this
    cases this
  · by_cases hlt : i < us.length
    · refine List.mem_append_left _ (List.mem_iff_getElem?.mpr ⟨i, ?_⟩)
      rw [List.getElem?_append_left hlt] at g2
      rw [List.getElem?_zip_eq_some]
      exact ⟨g1, g2⟩
    · have hge : us.length ≤ i := Nat.le_of_not_lt hlt
      rw [List.getElem?_append_right hge, List.getElem?_drop] at g2
      refine List.mem_append_right _ (List.mem_filter.mpr ⟨List.mem_iff_getElem?.mpr ⟨i - (ps.length - its.length), ?_⟩, ?_⟩)
      · rw [List.getElem?_zip_eq_some, List.getElem?_drop]
        refine ⟨?_, ?_⟩
        · rw [show ps.length - its.length + (i - (ps.length - its.length)) = i from by omega]; exact g1
        · rw [show i - (ps.length - its.length) = us.length + its.length - as.length + (i - us.length) from by omega]; exact g2
      · rw [lookup_out]
        · rfl
        · rw [zip_keys (by omega)]
          intro hn
          obtain ⟨j, hj⟩ := List.mem_iff_getElem?.mp hn
          rw [List.getElem?_take] at hj
          split at hj
          · have : j = i := (List.getElem?_inj (by omega) nd).mp (by rw [hj, g1])
            omega
          · cases hj
theorem bind_dflt {as : List Arg} {us its : List Value} {x qual : Str} {ds : List Expr} {body : List Stmt} {scope : Scope} {T : Addr} {kV doc pm : Value} {an : Option Addr} {cdv ct : Value} (nd : (as.map (·.arg)).Nodup) (h1 : us.length ≤ as.length) (h2 : its.length ≤ as.length) (h3 : as.length ≤ us.length + its.length) :
    ∃ k, bindArgs (PySem.W.fnOf x qual ⟨[], as, none, [], [], none, ds⟩ body scope (.ref T) kV doc pm an cdv ct) ⟨us, []⟩ = seqItems? (.ref T) >>= k ∧ k (some its.toArray) = pure ((as.map (·.arg)).zip (us ++ its.drop (us.length + its.length - as.length))) := bind_gen rfl rfl nd h1 h2 h3
theorem bind_none {as : List Arg} {us : List Value} {ds : List Expr} {fd : FuncData} (hp : fd.params = ⟨[], as, none, [], [], none, ds⟩) (hd : fd.defaults = .none) (nd : (as.map (·.arg)).Nodup) (h1 : us.length = as.length) : bindArgs fd ⟨us, []⟩ = pure ((as.map (·.arg)).zip us) := by
  obtain ⟨k, e1, e2⟩ := bind_gen (o := none) (its := []) hp rfl nd (Nat.le_of_eq h1) (Nat.zero_le _) (Nat.le_of_eq (by rw [h1]; rfl))
  rw [hd, show seqItems? .none = pure none from rfl, pure_bind] at e1
  rw [e1, e2, List.drop_nil, List.append_nil]
theorem bind_all {as : List Arg} {us : List Value} {x qual : Str} {ds : List Expr} {body : List Stmt} {scope : Scope} {kV doc pm : Value} {an : Option Addr} {cdv ct : Value} (nd : (as.map (·.arg)).Nodup) (h1 : us.length = as.length) :
    bindArgs (PySem.W.fnOf x qual ⟨[], as, none, [], [], none, ds⟩ body scope .none kV doc pm an cdv ct) ⟨us, []⟩ = pure ((as.map (·.arg)).zip us) := bind_none rfl rfl nd h1
theorem lamB_of {ps : List Str} (nd : ps.Nodup) : LamB ps := fun as e body scope q cl pm cv ctv us h1 => by
  subst e
  rw [List.length_map] at h1
  exact bind_none (by first | rfl | with_unfolding_all rfl) (by first | rfl | with_unfolding_all rfl) nd h1
end Mi

end
section
/-! M31: defs, level by level. -/
namespace Mi
open PySem L2
section
variable (Z : Wo) (L : XLay) (P : Prg) (G : GTab)
/-- a lambda's name in a def -/
def lq (qual : Str) : Str := (qual ++ (".<locals>." : Str)) ++ ("<lambda>" : Str)
/-- a def of the text has the small language's form -/
structure DefIn (g : Nat) (f : Fn) : Prop where
  ex : ∃ (x qual : Str) (as : List Arg) (ds : List Expr) (body : List Stmt) (scope : Scope) (dvs : List V) (oc : Value) (od : Option Addr) (dV kV doc pm : Value) (an : Option Addr) (cdv ct : Value) (osl : Array (Option Value)) (lam : Bool),
    L.K.lookup (L.fa g) = some ⟨oc, od, .func (PySem.W.fnOf x qual ⟨[], as, none, [], [], none, ds⟩ body scope dV kV doc pm an cdv ct), osl⟩ ∧ PySem.W.codeIn L.K cdv qual = true ∧ DflV L.K dV dvs ∧ PySem.W.keepIn L.K (.ref (L.fa g)) = true ∧ FnScope f.N (as.map (·.arg)) scope ∧ as.length = f.np ∧ f.defs.length ≤ f.np ∧
    (∀ ρ H, RepL L.toLay ρ H f.defs dvs) ∧ cSs G P ⟨f.N, scope, fun _ => true, lam⟩ f.body body = true ∧
    (lam = true → ∃ c T, cdv = .ref c ∧ LamX.TabB Z.base Z.mg c T ∧ (T, lq qual) ∈ L.T ∧ ∀ p ∈ L.T, p.1 = T → p.2 = lq qual)
/-- what does not depend on the level -/
structure WSt : Prop where
  blt : ∀ x ∈ biNames, Z.mg x = none
  fnm : ∀ x g, G.fnm.lookup x = some g → Z.mg x = some (.ref (L.fa g))
  csts : ∀ p ∈ P.csts, ∃ u v, Z.mg p.1 = some u ∧ RelV v u ∧ ∀ ρ H, Rep L.toLay ρ H p.2 v
  defs : ∀ g f, P.fns[g]? = some f → DefIn Z L P G g f
  cls : ∀ C k, P.clss[C]? = some k → L2.Cls L.K (L.ca C) ∧ (∀ f ∈ k.own, NoAttr L.K (L.ca C) f) ∧ ∀ m g, k.meths.lookup m = some g → Meth L.K (L.ca C) m (L.fa g)
  xnm : ∀ x c, G.xnm.lookup x = some c → Z.mg x = some (.ref (L.xa c)) ∧ c < P.exs
  exf : ∀ x c, (x, c) ∈ G.rais → ExFact L.K Z.prog (L.xa c) (L.xn c)
  exm : ∀ c h, c < P.exs → h < P.exs → PySem.W.exmOne L.K (.ref (L.xa c)) (.ref (L.xa h)) = some (P.below c h)
  xf : ∀ c, c < P.exs → XfC L.K (L.xa c) ∧ PySem.W.findIn L.K (.ref (L.xa c)) "place" = some none
  lps : ∀ ps ∈ G.lps, LamB ps
  fkp : ∀ x g, G.fnm.lookup x = some g → PySem.W.keepIn L.K (.ref (L.fa g)) = true
  cnm : ∀ x C, G.cnm.lookup x = some C → Z.mg x = some (.ref (L.ca C)) ∧ ∃ k g, P.clss[C]? = some k ∧ k.init = some g ∧ Mk L.K (L.ca C) (L.fa g)
end
section
variable {Z : Wo} {L : XLay} {P : Prg} {G : GTab}
theorem drop_over {α : Type} {l : List α} {n m : Nat} (h : n ≤ m + l.length) : (l.drop (m + l.length - n)).length = n - m := by rw [List.length_drop]; omega
theorem lamMk_of {X : Cx} {c T : Addr} {q : Str} (h1 : LamX.TabB X.base X.mg c T) (h2 : X.env.code = .ref c) (hq : X.env.qual = q) (h3 : (T, q ++ ("<lambda>" : Str)) ∈ L.T) (h4 : ∀ p ∈ L.T, p.1 = T → p.2 = q ++ ("<lambda>" : Str)) : LamMk L X := by
  subst hq
  exact ⟨c, T, h1, h2, h3, h4⟩
theorem DefIn.bnd {g : Nat} {f : Fn} (D : DefIn Z L P G g f) : ∃ fd ps, Bnd L g f fd ps ∧ (∀ n, (∀ k, n = k + 1 → WOk Z L P G k) → Runs Z L P n g f fd ps) ∧ (∃ oc od osl, L.K.lookup (L.fa g) = some ⟨oc, od, .func fd, osl⟩) ∧ ps = fd.params.args.map (·.arg) := by
  obtain ⟨x, qual, as, ds, body, scope, dvs, oc, od, dV, kV, doc, pm, an, cdv, ct, osl, lam, lk, hcd, hD, hkp, S, hnp, hdl, hrep, hck, hlam⟩ := D.ex
  have nd : (as.map (·.arg)).Nodup := by rw [← S.pre]; exact S.nd.sublist (List.take_sublist _ _)
  refine ⟨PySem.W.fnOf x qual ⟨[], as, none, [], [], none, ds⟩ body scope dV kV doc pm an cdv ct, as.map (·.arg), ⟨by rw [List.length_map]; exact hnp, hkp, fun s us X h1 h2 => ?_⟩, fun n W => ?_, ⟨oc, od, osl, lk⟩, rfl⟩
  · have hl : dvs.length = f.defs.length := (hrep [] fun _ => none).len
    rcases hD with ⟨e1, e2⟩ | ⟨e1, T, o, its, m, e2, lT, oT, rT⟩
    · subst e1
      subst e2
      have e0 : f.defs = [] := List.length_eq_zero_iff.mp hl.symm
      rw [e0] at h2 ⊢
      refine ⟨[], [], ?_, .nil, fun ρ H => by rw [List.drop_nil]; rfl⟩
      rw [List.append_nil]
      exact .of_eq (bind_all nd (by rw [hnp]; simp at h2; omega))
    · subst e2
      have li : its.length = dvs.length := rT.length.symm
      refine ⟨its.drop (us.length + f.defs.length - f.np), dvs.drop (us.length + f.defs.length - f.np), ?_, rT.drop _, fun ρ H => (hrep ρ H).drop _⟩
      obtain ⟨k, k1, k2⟩ := bind_dflt (us := us) (its := its) (x := x) (qual := qual) (ds := ds) (body := body) (scope := scope) (T := T) (kV := kV) (doc := doc) (pm := pm) (an := an) (cdv := cdv) (ct := ct) nd (by omega) (by omega) (by omega)
      refine BindsTo.of_looks fun M => ?_
      rw [k1]
      refine looks_items X lT oT (.of_pure ?_)
      rw [k2, li, hl, hnp]
  · cases n with
    | zero =>
      intro A outer s H args us vs Q E ρ M os κ sv hr e0 hb r sm hl ar go
      exact False.elim go
    | succ k =>
      have wok := W k rfl
      intro A outer s H args us vs Q E ρ M os κ sv hr e0 hb r sm hl ar go
      have hvl : vs.length = (as.map (·.arg)).length := by rw [ar.1, hl, List.length_map, hnp]
      have hF : Fit L ⟨f.N, scope, fun _ => true, lam⟩ (cxOf (CX Z.prog Z.w) Z.prog Z.w L.K Z.mg Z.base f.N qual scope (L.fa g) cdv A outer s H E) := by
        refine ⟨rfl, rfl, S.kind, fun _ _ => rfl, fun z => ?_⟩
        obtain ⟨c, T, e1, e2, e3, e4⟩ := hlam z
        exact lamMk_of (q := qual ++ (".<locals>." : Str)) e2 e1 rfl e3 e4
      refine LamX.run_ofS lk hcd S hr e0 hb r hvl fun hroom => ?_
      have hS : XS (Z.at ⟨frs outer, H, s.heap⟩) L P k (wE E) G (cxOf (CX Z.prog Z.w) Z.prog Z.w L.K Z.mg Z.base f.N qual scope (L.fa g) cdv A outer s H E) := ⟨cx_ok wok (Nat.le_refl k) S.nd hroom, passes_of rfl, rfl, rfl, rfl⟩
      refine ⟨_, okSs (Z := Z.at ⟨frs outer, H, s.heap⟩) (n := k) (κ := κ) f.body _ body hck (wE E) _ hS hF, ?_⟩
      have hN : (as.map (·.arg)).length ≤ f.N.length := by
        have := congrArg List.length S.pre
        rw [List.length_take] at this
        omega
      have hos : os.length ≤ f.N.length := by rw [hl, ← hnp]; rwa [List.length_map] at hN
      refine ⟨ρ, startE f.N.length os, M, sm, ⟨?_, fun i d e => ?_⟩, fun i c e => ?_, ?_⟩
      · unfold L2.start startE
        rw [List.length_append, List.length_append, List.length_map, List.length_replicate, List.length_replicate, ar.1]
      · unfold startE at e
        by_cases hi : i < os.length
        · rw [List.getElem?_append_left hi] at e
          obtain ⟨v, ev, rv⟩ := ar.2.1 i d e
          refine ⟨v, ?_, rv⟩
          unfold L2.start
          rw [List.getElem?_append_left (by rw [List.length_map, ar.1]; exact hi), List.getElem?_map, ev]
          rfl
        · rw [List.getElem?_append_right (Nat.le_of_not_lt hi), List.getElem?_replicate] at e
          split at e <;> cases e
      · obtain ⟨v, ev, cv⟩ := ar.2.2 i c e
        refine ⟨v, ?_, cv.le (Nat.le_succ k)⟩
        unfold L2.start
        have hi : i < vs.length := (List.getElem?_eq_some_iff.mp ev).1
        rw [List.getElem?_append_left (by rw [List.length_map]; exact hi), List.getElem?_map, ev]
        rfl
      · have go : Go L (TD L) (wE E) ρ H sv (execs P (rt P k) κ f.body (startE f.N.length os) M).res Q := go
        cases e : execs P (rt P k) κ f.body (startE f.N.length os) M with
        | nxt σ' M' => rw [e] at go; exact fun ρ' H' sv' m s' _ _ => go ρ' H' .non m s' rfl
        | ret d M' => rw [e] at go; exact fun ρ' H' v m s' r' => go ρ' H' v m s' r'
        | brk σ' M' => rw [e] at go; exact False.elim go
        | cnt σ' M' => rw [e] at go; exact False.elim go
        | exc c x' σ' M' => rw [e] at go; exact fun ρ' H' sv' dd v m s' _ _ r' nd' hd => go ρ' H' dd v m s' r' nd' hd
        | bad => rw [e] at go; exact False.elim go
theorem WSt.wok (w : WSt Z L P G) : ∀ n, WOk Z L P G n
  | 0 => ⟨w.blt, w.fnm, w.csts, fun g f e m hm => by
      obtain ⟨fd, ps, b, r, _⟩ := (w.defs g f e).bnd
      have : m = 0 := Nat.le_zero.mp hm
      subst this
      exact ⟨fd, ps, b, r 0 fun k z => by cases z⟩, w.cls, w.xnm, w.exf, w.exm, w.xf, w.lps, w.fkp, w.cnm⟩
  | n + 1 => ⟨w.blt, w.fnm, w.csts, fun g f e m hm => by
      obtain ⟨fd, ps, b, r, _⟩ := (w.defs g f e).bnd
      by_cases h : m ≤ n
      · exact (w.wok n).fns g f e m h
      · have : m = n + 1 := by omega
        subst this
        exact ⟨fd, ps, b, r (n + 1) fun k z => by cases z; exact w.wok n⟩, w.cls, w.xnm, w.exf, w.exm, w.xf, w.lps, w.fkp, w.cnm⟩
end
end Mi

end
section
/-! M32: what is looked at behind the top. -/
namespace Mi
open PySem L2
/-! ### constants -/
mutual
def cstB (K : PySem.W.Frag) : D → Value → Bool
  | .non, .none => true
  | .bl b, .bool c => b == c
  | .int i, .int j _ => decide (i = j)
  | .str x, .str y _ => decide (x = y)
  | .tup ds, .ref a => (match K.lookup a with
    | some ⟨.type c, _, .seq its _, _⟩ => decide (c = "tuple") && decide (its.size ≤ sizeLine) && cstBs K ds its.toList
    | _ => false)
  | .flst ds, .ref a => (match K.lookup a with
    | some ⟨.type c, none, .seq its _, _⟩ => decide (c = "list") && decide (its.size ≤ sizeLine) && cstBs K ds its.toList
    | _ => false)
  | _, _ => false
def cstBs (K : PySem.W.Frag) : List D → List Value → Bool
  | [], [] => true
  | d :: ds, u :: us => cstB K d u && cstBs K ds us
  | _, _ => false
end
mutual
theorem cstB_ok {L : Lay} : ∀ (d : D) (u : Value), cstB L.K d u = true → ∃ v, RelV v u ∧ ∀ ρ H, Rep L ρ H d v
  | .non, u, h => by
    cases u <;> first | (cases h; done) | exact ⟨.non, rfl, fun _ _ => rfl⟩
  | .bl b, u, h => by
    cases u <;> first | cases h | skip
    rename_i c
    have e : b = c := beq_iff_eq.mp (show (b == c) = true from h)
    exact ⟨.bl b, by rw [e]; rfl, fun _ _ => rfl⟩
  | .int i, u, h => by
    cases u <;> first | cases h | skip
    rename_i j t
    have e : i = j := of_decide_eq_true h
    exact ⟨.int i, ⟨t, by rw [e]⟩, fun _ _ => rfl⟩
  | .str i, u, h => by
    cases u <;> first | cases h | skip
    rename_i j t
    have e : i = j := of_decide_eq_true h
    exact ⟨.str i, ⟨t, by rw [e]⟩, fun _ _ => rfl⟩
  | .tup ds, u, h => by
    cases u <;> first | cases h | skip
    rename_i a
    simp only [cstB] at h
    split at h
    · rename_i c od its n sl ho
      simp only [Bool.and_eq_true, decide_eq_true_eq] at h
      obtain ⟨⟨h1, h2⟩, h3⟩ := h
      obtain ⟨vs, r, q⟩ := cstBs_ok ds _ h3
      exact ⟨.ref a, rfl, fun ρ H => ⟨a, vs, rfl, .inr ⟨_, its, n, ho, congrArg Value.type h1, rfl, h2, r⟩, q ρ H⟩⟩
    · cases h
  | .flst ds, u, h => by
    cases u <;> first | cases h | skip
    rename_i a
    simp only [cstB] at h
    split at h
    · rename_i c its n sl ho
      simp only [Bool.and_eq_true, decide_eq_true_eq] at h
      obtain ⟨⟨h1, h2⟩, h3⟩ := h
      obtain ⟨vs, r, q⟩ := cstBs_ok ds _ h3
      exact ⟨.ref a, rfl, fun ρ H => ⟨a, vs, rfl, .inr ⟨_, its, n, ho, congrArg Value.type h1, rfl, rfl, h2, r⟩, q ρ H⟩⟩
    · cases h
  | .lst _, u, h => by cases u <;> cases h
  | .dic _ _, u, h => by cases u <;> cases h
  | .ref _, u, h => by cases u <;> cases h
  | .fn _, u, h => by cases u <;> cases h
theorem cstBs_ok {L : Lay} : ∀ (ds : List D) (us : List Value), cstBs L.K ds us = true → ∃ vs, Vals vs us ∧ ∀ ρ H, RepL L ρ H ds vs
  | [], us, h => by
    cases us with
    | nil => exact ⟨[], .nil, fun _ _ => rfl⟩
    | cons _ _ => cases h
  | d :: ds, us, h => by
    cases us with
    | nil => cases h
    | cons u us =>
      obtain ⟨h1, h2⟩ := Bool.and_eq_true_iff.mp (show (cstB L.K d u && cstBs L.K ds us) = true from h)
      obtain ⟨v, r1, q1⟩ := cstB_ok d u h1
      obtain ⟨vs, r2, q2⟩ := cstBs_ok ds us h2
      exact ⟨v :: vs, .cons r1 r2, fun ρ H => ⟨v, vs, rfl, q1 ρ H, q2 ρ H⟩⟩
end
def cstK (K : PySem.W.Frag) (p : Str × D) : Bool := match PySem.W.nsIn K mainGlobals p.1 with
  | some (some u) => cstB K p.2 u
  | _ => false
theorem cstK_ok {L : Lay} {h : Heap} {mg : Str → Option Value} (X : L.K.In h) (N : h.Ns mainGlobals mg) {p : Str × D} (e : cstK L.K p = true) : ∃ u v, mg p.1 = some u ∧ RelV v u ∧ ∀ ρ H, Rep L ρ H p.2 v := by
  unfold cstK at e
  split at e
  · rename_i u hu
    obtain ⟨v, r, q⟩ := cstB_ok (L := L) p.2 u e
    exact ⟨u, v, PySem.W.mg_of X N hu, r, q⟩
  · cases e
/-! ### own exceptions -/
abbrev FnS : Type := Option (Str × Str × Arguments × FuncBody × Scope × Addr × List Str × Value × Value × Addr)
def fnS (K : PySem.W.Frag) (f : Addr) : FnS := match K.lookup f with
  | some ⟨_, _, .func fd, _⟩ => some (fd.name, fd.qualname, fd.params, fd.body, fd.scope, fd.globals, fd.closure.map (·.1), fd.defaults, fd.kwdefaults, fd.builtins)
  | _ => none
/-- an __init__ of the class at D, its file -/
def supB (K : PySem.W.Frag) (file : Str) (f D : Addr) : Bool := match K.lookup f with
  | some ⟨_, _, .func fd, _⟩ => PySem.W.codeIn K fd.code fd.qualname && (match fd.code with
      | .ref co => (match K.lookup co with
        | some ⟨_, _, .fields vs, _⟩ => (match (vs[2]? : Option Value) with
          | some (Value.str z _) => file == z
          | _ => false)
        | _ => false)
      | _ => false) && (match fd.closure with
      | [(_, cc)] => (match K.lookup cc with
        | some ⟨_, _, .cell (some (.ref D')), _⟩ => D' == D
        | _ => false)
      | _ => false) && decide (PySem.W.typeIn K (.ref f) = some (.type "function"))
  | _ => false
theorem supB_ok {K : PySem.W.Frag} {prog : Program} {f D : Addr} {qual : Str} {p1 p2 : Pos} {body : List Stmt} {scope : Scope} (h : supB K prog.main.file f D = true)
    (e : fnS K f = (some (("__init__" : Str), qual, { posonlyargs := [], args := [{ arg := "self", annotation := none, pos := p1 }, { arg := "place", annotation := none, pos := p2 }], vararg := none, kwonlyargs := [], kw_defaults := [], kwarg := none, defaults := [] }, .stmts body, scope, mainGlobals, [("__class__" : Str)], Value.none, Value.none, builtinsNs) : FnS))
    (hs : SupSc scope) (ht : (prog.main.scope.names.lookup ("super" : Str)).isSome = false) : SupFn K prog f D qual body := by
  unfold supB at h
  unfold fnS at e
  split at h
  · rename_i oc od fd osl ho
    rw [ho] at e
    obtain ⟨n1, n2, n3, n4, n5, n6, n7, n8, n9, n10, n11, n12, n13, n14, n15⟩ := fd
    simp only [Option.some.injEq, Prod.mk.injEq] at e
    obtain ⟨rfl, rfl, rfl, rfl, rfl, rfl, e7, rfl, rfl, rfl⟩ := e
    simp only [Bool.and_eq_true, decide_eq_true_eq] at h
    obtain ⟨⟨⟨h1, h2⟩, h3⟩, h4⟩ := h
    cases n7 with
    | nil => cases e7
    | cons q r =>
      cases r with
      | cons _ _ => cases h3
      | nil =>
        obtain ⟨q1, cc⟩ := q
        have e7 : q1 = ("__class__" : Str) := by
          have := congrArg List.head? e7
          exact Option.some.inj this
        subst e7
        split at h2
        · rename_i co
          split at h2
          · rename_i ccl cdd vs ccs hvs
            split at h2
            · rename_i z tf hz
              have h3 : (match K.lookup cc with
                | some ⟨_, _, .cell (some (.ref D')), _⟩ => D' == D
                | _ => false) = true := h3
              split at h3
              · rename_i cl cld D' csl hcell
                have hD : D' = D := beq_iff_eq.mp h3
                subst hD
                exact ⟨⟨oc, od, p1, p2, _, n10, n11, n14, n12, co, cc, osl, ccl, cdd, vs, ccs, z, tf, cl, cld, csl, ho, h1, hvs, hz, h2, hcell, hs⟩, ht, h4⟩
              · cases h3
            · cases h2
          · cases h2
        · cases h2
  · cases h
end Mi

end
section
/-! M33: the Hook. -/
namespace Mi
open PySem L2
/-! ### classes that are raised -/
def excB (K : PySem.W.Frag) (C : Addr) : Bool := match K.lookup C with
  | some ⟨.type t, _, .cls cd, sl⟩ => (match cd.mro, sl.toList with
    | .ref C' :: bm, [_, _, _, _, some (.builtin n), _] => decide (t = "type") && (C' == C) && decide (n = "ValueError.__new__") && !cd.hasDel && cd.hasDict && PySem.HandSPX.refsVE bm
    | _, _ => false)
  | _ => false
theorem excB_ok {K : PySem.W.Frag} {C : Addr} (h : excB K C = true) : ∃ nm q N bs bm sn sub ab col dd k0 k1 k2 k3 k5, K.lookup C = some (excClassObj nm q C N bs bm true sn sub ab col dd k0 k1 k2 k3 k5 "ValueError.__new__") ∧ PySem.HandSPX.refsVE bm = true := by
  unfold excB at h
  split at h
  · rename_i t dd cd sl ho
    split at h
    · rename_i C' bm k0 k1 k2 k3 n k5 hm hs
      simp only [Bool.and_eq_true, beq_iff_eq, Bool.not_eq_true', decide_eq_true_eq] at h
      obtain ⟨⟨⟨⟨⟨rfl, rfl⟩, rfl⟩, hdel⟩, hdict⟩, hr⟩ := h
      obtain ⟨nm, bs, mro, ns, qn, hd, sn, sub, ab, col, del⟩ := cd
      dsimp only at hm hdel hdict
      subst hm hdel hdict
      have hsl : sl = #[k0, k1, k2, k3, some (.builtin "ValueError.__new__"), k5] := by
        obtain ⟨l⟩ := sl
        simp only at hs
        rw [hs]
      subst hsl
      exact ⟨nm, qn, ns, bs, bm, sn, sub, ab, col, dd, k0, k1, k2, k3, k5, ho, hr⟩
    · cases h
  · cases h
open He in
/-- the class x, raised; b: its base that has the fields -/
def exB (K : PySem.W.Frag) (file : Str) (x b : Str) : Bool :=
  let C := ga K x
  let B := ga K b
  let fI := ma K C "__init__"
  let fG := ma K B "__init__"
  excB K C && eqO (PySem.W.findIn K (.ref C) "__setattr__") (some (some (.builtin "object.__setattr__"))) && eqO (PySem.W.findIn K (.ref C) "place") (some none) && eqO (PySem.W.findIn K (.ref C) "name") (some none) && decide (PySem.W.mroIn K C (.ref B) = some true) && decide (PySem.W.mroIn K C (.ref C) = some true) &&
    decide (PySem.W.subIn K (.ref C) (.type "ValueError") = some true) && (PySem.W.clsIn K B).isSome && eqO (PySem.W.ks_superIn K C B "__init__") (some (some (.builtin "ValueError.__init__"))) && eqO (PySem.W.nsIn K cStatics "thirdparty.any") (some none) &&
    eqO (PySem.W.ks_superIn K C C "__init__") (some (some (.ref fG))) && eqO (PySem.W.findIn K (.ref C) "__init__") (some (some (.ref fI))) && supB K file fI C && supB K file fG B && PySem.W.keepIn K (.ref C) && decide (PySem.W.subIn K (.ref C) (.type "BaseException") = some true) && decide (PySem.W.typeIn K (.ref C) = some (.type "type"))
/-- what the text says of it: its own __init__, its base's -/
structure ExT where
  x : Str
  b : Str
  nm : Str
  v1 : FnS
  v2 : FnS
def supT (qual : Str) (p1 p2 : Pos) (body : List Stmt) (scope : Scope) : FnS := some (("__init__" : Str), qual, { posonlyargs := [], args := [{ arg := "self", annotation := none, pos := p1 }, { arg := "place", annotation := none, pos := p2 }], vararg := none, kwonlyargs := [], kw_defaults := [], kwarg := none, defaults := [] }, .stmts body, scope, mainGlobals, [("__class__" : Str)], Value.none, Value.none, builtinsNs)
/-- the text's forms -/
structure ExT.Ok (prog : Program) (t : ExT) : Prop where
  ex : ∃ (a1 a2 a3 a4 a5 p c1 c2 c3 c4 a1' a2' a3' a4' a5' p' b1 b2 b3 b4 c1' c2' c3' c4' q1 q2 q1' q2' : Pos) (kk kk' : Nat) (qual qualG nmG : Str) (sc sc' : Scope), t.v1 = supT qual q1 q2 [.Expr (supE a1 a2 a3 a4 a5) p, stAt "name" (.Constant (.str t.nm) kk c4) c1 c2 c3] sc ∧ (a3.endLine == a5.line) = true ∧
    t.v2 = supT qualG q1' q2' [.Expr (supE a1' a2' a3' a4' a5') p', stAt "place" (.Name "place" b4) b1 b2 b3, stAt "name" (.Constant (.str nmG) kk' c4') c1' c2' c3'] sc' ∧ (a3'.endLine == a5'.line) = true ∧ SupSc sc ∧ SupSc sc'
  top : (prog.main.scope.names.lookup ("super" : Str)).isSome = false
theorem exB_ok {K : PySem.W.Frag} {prog : Program} {t : ExT} (h : exB K prog.main.file t.x t.b = true) (T : t.Ok prog) (e1 : fnS K (He.ma K (He.ga K t.x) "__init__") = t.v1) (e2 : fnS K (He.ma K (He.ga K t.b) "__init__") = t.v2) : ExFact K prog (He.ga K t.x) t.nm := by
  unfold exB at h
  simp only [Bool.and_eq_true, decide_eq_true_eq] at h
  obtain ⟨⟨⟨⟨⟨⟨⟨⟨⟨⟨⟨⟨⟨⟨⟨⟨h1, h2⟩, h3⟩, h4⟩, h5⟩, h6⟩, h7⟩, h8⟩, h9⟩, h10⟩, h11⟩, h12⟩, h13⟩, h14⟩, h15⟩, h16⟩, h17⟩ := h
  obtain ⟨⟨a1, a2, a3, a4, a5, p, c1, c2, c3, c4, a1', a2', a3', a4', a5', p', b1, b2, b3, b4, c1', c2', c3', c4', q1, q2, q1', q2', kk, kk', qual, qualG, nmG, sc, sc', v1, l1, v2, l2, s1, s2⟩, ht⟩ := T
  rw [v1] at e1
  rw [v2] at e2
  refine ⟨⟨He.ma K (He.ga K t.x) "__init__", He.ma K (He.ga K t.b) "__init__", He.ga K t.b, qual, qualG, nmG, a1, a2, a3, a4, a5, p, c1, c2, c3, c4, a1', a2', a3', a4', a5', p', b1, b2, b3, b4, c1', c2', c3', c4', kk, kk',
    ⟨excB_ok h1, He.eqO_ok h2, He.eqO_ok h3, He.eqO_ok h4, h5, h6, h7, Option.isSome_iff_exists.mp h8, He.eqO_ok h9, He.eqO_ok h10⟩, supB_ok h13 e1 s1 ht, l1, supB_ok h14 e2 s2 ht, l2, He.eqO_ok h11, He.eqO_ok h12⟩, h15, h16, h17⟩
/-! ### tables of lambdas -/
def codeOf (K : PySem.W.Frag) (p : Str × Option Str) : Addr := match K.lookup (He.fAd K p) with
  | some ⟨_, _, .func fd, _⟩ => (match fd.code with
    | .ref c => c
    | _ => 0)
  | _ => 0
def tabOf (K : PySem.W.Frag) (c : Addr) : Addr := match K.lookup c with
  | some ⟨_, _, .fields vs, _⟩ => (match (vs[11]? : Option Value) with
    | some (Value.ref P) => P
    | _ => 0)
  | _ => 0
def hdB (K : PySem.W.Frag) (c P : Addr) : Bool := match K.lookup c with
  | some ⟨.type t, _, .fields vs, _⟩ => decide (t = "code") && decide (vs[11]? = some (Value.ref P)) && decide (vs.getD 11 .none = .ref P) && (match vs.getD 18 .none with | .str _ _ => true | _ => false) && (match vs.getD 7 .none with | .int _ _ => true | _ => false) &&
    (match vs.getD 9 .none with | .bool _ => true | _ => false) && (match vs.getD 10 .none with | .int _ _ => true | _ => false) && decide (c ≠ P)
  | _ => false
theorem hdB_ok {K : PySem.W.Frag} {h : Heap} {c P : Addr} (X : K.In h) (e : hdB K c P = true) : PySem.W.CodeHd h c P := by
  unfold hdB at e
  split at e
  · rename_i t od vs sl ho
    simp only [Bool.and_eq_true, decide_eq_true_eq] at e
    obtain ⟨⟨⟨⟨⟨⟨⟨rfl, h1⟩, h2⟩, h3⟩, h4⟩, h5⟩, h6⟩, h7⟩ := e
    split at h3
    · rename_i f tf e3
      split at h4
      · rename_i i4 t4 e4
        split at h5
        · rename_i b5 e5
          split at h6
          · rename_i i6 t6 e6
            exact ⟨_, vs, f, tf, i4, t4, b5, i6, t6, X _ _ ho, rfl, rfl, h1, h2, e3, e4, e5, e6, h7⟩
          · cases h6
        · cases h5
      · cases h4
    · cases h3
  · cases e
def tab0 : Obj := { cls := .none, data := .fields #[] }
def isT0 : Option Obj → Bool
  | some ⟨.none, none, .fields vs, sl⟩ => vs.isEmpty && sl.isEmpty
  | _ => false
theorem isT0_ok {o : Option Obj} (h : isT0 o = true) : o = some tab0 := by
  unfold isT0 at h
  split at h
  · rename_i vs sl
    simp only [Bool.and_eq_true, Array.isEmpty_iff] at h
    rw [h.1, h.2]
    rfl
  · cases h
def lamB (K : PySem.W.Frag) (g : Addr → Option Obj) (p : Str × Option Str) : Bool := hdB K (codeOf K p) (tabOf K (codeOf K p)) && isT0 (g (tabOf K (codeOf K p))) && (K.lookup (tabOf K (codeOf K p))).isNone
end Mi

end
section
/-! M34: all that a law's text must show, as one Bool; what it gives. -/
namespace Mi
open PySem L2
/-- a law's text -/
structure Lk where
  G : GTab
  P : Prg
  fn : List He.DefD
  cl : List Str
  ex : List (Str × Str)
  xs : List ExT
  lm : List ((Str × Option Str) × Str)
  file : Str
def Lk.lay (k : Lk) (K : PySem.W.Frag) : XLay where
  K := K
  fa := fun g => match k.fn[g]? with
    | some d => He.fAd K d.at_
    | none => 0
  ca := fun C => match k.cl[C]? with
    | some x => He.ga K x
    | none => 0
  T := k.lm.map fun p => (tabOf K (codeOf K p.1), lq p.2)
  xa := fun c => match k.ex[c]? with
    | some x => He.ga K x.1
    | none => 0
  xn := fun c => match k.ex[c]? with
    | some x => x.2
    | none => ""
def gloB (K : PySem.W.Frag) (x : Str) (a : Addr) : Bool := He.eqO (PySem.W.nsIn K mainGlobals x) (some (some (.ref a)))
def clsB (k : Lk) (K : PySem.W.Frag) (x : Str) (c : Cls) : Bool := (He.Fa.cls x).ok K && c.own.all (fun f => (He.Fa.noat x f).ok K) && c.meths.all fun p => (He.Fa.meth x p.1).ok K && decide (He.ma K (He.ga K x) p.1 = (k.lay K).fa p.2)
def clssB (k : Lk) (K : PySem.W.Frag) : List Str → List Cls → Bool
  | x :: xs, c :: cs => clsB k K x c && clssB k K xs cs
  | [], [] => true
  | _, _ => false
def mkB (k : Lk) (K : PySem.W.Frag) (x : Str) (C : Nat) : Bool := gloB K x ((k.lay K).ca C) && decide (k.cl[C]? = some x) && (match k.P.clss[C]? with
  | some c => (match c.init with
    | some g => (He.Fa.mkr x).ok K && decide (He.ma K (He.ga K x) "__init__" = (k.lay K).fa g)
    | none => false)
  | none => false)
def boolM (k : Lk) (K : PySem.W.Frag) : Bool :=
  biNames.all (fun x => He.eqO (PySem.W.nsIn K mainGlobals x) (some none)) && k.G.fnm.all (fun p => gloB K p.1 ((k.lay K).fa p.2) && PySem.W.keepIn K (.ref ((k.lay K).fa p.2))) && k.P.csts.all (cstK K) && clssB k K k.cl k.P.clss &&
    k.G.xnm.all (fun p => gloB K p.1 ((k.lay K).xa p.2) && decide (p.2 < k.P.exs)) && k.xs.all (fun t => exB K k.file t.x t.b) && k.G.rais.all (fun p => k.xs.any fun t => decide (k.ex[p.2]? = some (t.x, t.nm))) &&
    (List.range k.P.exs).all (fun c => (List.range k.P.exs).all fun h => decide (PySem.W.exmOne K (.ref ((k.lay K).xa c)) (.ref ((k.lay K).xa h)) = some (k.P.below c h))) &&
    (List.range k.P.exs).all (fun c => xfB K ((k.lay K).xa c) && He.eqO (PySem.W.findIn K (.ref ((k.lay K).xa c)) "place") (some none)) && k.G.cnm.all (fun p => mkB k K p.1 p.2) && k.fn.all (fun d => d.ok K) && decide ((k.lm.map fun p => tabOf K (codeOf K p.1)).Nodup)
abbrev AlM : Type := Bool × List He.FnW × List (FnS × FnS)
def obsK (k : Lk) (K : PySem.W.Frag) (g : Addr → Option Obj) : AlM := (boolM k K && k.lm.all (fun p => lamB K g p.1), k.fn.map (fun d => He.fnW K d.at_), k.xs.map fun t => (fnS K (He.ma K (He.ga K t.x) "__init__"), fnS K (He.ma K (He.ga K t.b) "__init__")))
def asM (g : Addr → Option Obj) (n : Nat) : List Addr := He.asD g n ++ [cStatics]
def frM (n : Nat) (k : Lk) (g : Addr → Option Obj) : PySem.W.Frag :=
  let as := asM g n
  let K0 := He.frG g as
  let tb := k.lm.map fun p => tabOf K0 (codeOf K0 p.1)
  He.frG g (as.filter fun a => !tb.contains a)
def obsM (n : Nat) (k : Lk) (g : Addr → Option Obj) : AlM := obsK k (frM n k g) g
def valM (k : Lk) : AlM := (true, k.fn.map He.DefD.val, k.xs.map fun t => (t.v1, t.v2))
structure SaysM (k : Lk) (K : PySem.W.Frag) (h : Heap) : Prop where
  b : boolM k K = true
  fn : k.fn.map (fun d => He.fnW K d.at_) = k.fn.map He.DefD.val
  xs : ∀ t ∈ k.xs, fnS K (He.ma K (He.ga K t.x) "__init__") = t.v1 ∧ fnS K (He.ma K (He.ga K t.b) "__init__") = t.v2
  lm : ∀ p ∈ k.lm, hdB K (codeOf K p.1) (tabOf K (codeOf K p.1)) = true ∧ h.get? (tabOf K (codeOf K p.1)) = some tab0 ∧ K.lookup (tabOf K (codeOf K p.1)) = none
theorem map_pair {α β : Type} {f g : α → β} : ∀ {l : List α}, l.map f = l.map g → ∀ t ∈ l, f t = g t
  | [], _, t, h => by cases h
  | a :: l, e, t, h => by
    rw [List.map_cons, List.map_cons, List.cons.injEq] at e
    rcases List.mem_cons.mp h with rfl | h
    · exact e.1
    · exact map_pair e.2 t h
theorem saysM_of {k : Lk} {K : PySem.W.Frag} {h : Heap} (e : obsK k K h.get? = valM k) : SaysM k K h := by
  have e1 := congrArg (fun z : AlM => z.1) e
  have e2 := congrArg (fun z : AlM => z.2.1) e
  have e3 := congrArg (fun z : AlM => z.2.2) e
  obtain ⟨b1, b2⟩ := Bool.and_eq_true_iff.mp (show (boolM k K && k.lm.all (fun p => lamB K h.get? p.1)) = true from e1)
  refine ⟨b1, e2, fun t ht => ?_, fun p hp => ?_⟩
  · have := map_pair e3 t ht
    exact ⟨congrArg (·.1) this, congrArg (·.2) this⟩
  · have := List.all_eq_true.mp b2 p hp
    unfold lamB at this
    simp only [Bool.and_eq_true, Option.isNone_iff_eq_none] at this
    exact ⟨this.1.1, isT0_ok this.1.2, this.2⟩
def hookM (n : Nat) (k : Lk) : PySem.W.Hook where
  α := AlM
  obs := fun s => obsM n k s.heap.get?
  val := fun _ => valM k
  says := fun _ h => ∃ K : PySem.W.Frag, K.In h ∧ SaysM k K h
  of := fun _ _ e => ⟨_, He.frG_in, saysM_of e⟩
  keeps := fun _ _ _ ⟨K, hK, c⟩ kp => ⟨K, PySem.W.Frag.In.keeps hK kp, c.b, c.fn, c.xs, fun p hp => ⟨(c.lm p hp).1, kp _ _ (c.lm p hp).2.1, (c.lm p hp).2.2⟩⟩
theorem obsM_eq {n : Nat} {k : Lk} {g : Addr → Option Obj} {s : Shared} (h : ∀ a, g a = s.heap.get? a) : obsM n k g = (hookM n k).obs s := by
  have e : g = s.heap.get? := funext h
  rw [e] <;> rfl
/-! ### a def's static part -/
def fnScB (N ps : List Str) (sc : Scope) : Bool := decide (sc.kind = .function) && !sc.isCoroutine && !sc.isGenerator && decide N.Nodup && decide (N.take ps.length = ps) && ps.all (fun x => decide (sc.names.lookup x = some .local) || decide (sc.names.lookup x = some .cell)) && sc.names.all fun y => decide (y.2 ≠ .free)
theorem fnScB_ok {N ps : List Str} {sc : Scope} (h : fnScB N ps sc = true) : FnScope N ps sc := by
  unfold fnScB at h
  simp only [Bool.and_eq_true, decide_eq_true_eq, Bool.not_eq_true', List.all_eq_true, Bool.or_eq_true] at h
  obtain ⟨⟨⟨⟨⟨⟨h1, h2⟩, h3⟩, h4⟩, h5⟩, h6⟩, h7⟩ := h
  exact ⟨h1, h2, h3, h4, h5, h6, h7⟩
def dvB : D → He.Dv → Bool
  | .non, .non => true
  | .bl a, .bl b => a == b
  | .int a, .int b => decide (a = b)
  | .str a, .str b => decide (a = b)
  | _, _ => false
theorem dvB_ok {L : Lay} {K : PySem.W.Frag} {d : D} {v : He.Dv} (h : dvB d v = true) (ρ : List Addr) (H : Hp) : Rep L ρ H d (v.v K) := by
  cases d <;> cases v <;> first | (cases h; done) | rfl | skip
  · rename_i a b
    rw [show a = b from beq_iff_eq.mp h]; rfl
  · rename_i a b
    rw [show a = b from of_decide_eq_true h]; rfl
  · rename_i a b
    rw [show a = b from of_decide_eq_true h]; rfl
def dvsB : List D → List He.Dv → Bool
  | [], [] => true
  | d :: ds, v :: vs => dvB d v && dvsB ds vs
  | _, _ => false
theorem dvsB_ok {L : Lay} {K : PySem.W.Frag} (ρ : List Addr) (H : Hp) : ∀ {ds : List D} {vs : List He.Dv}, dvsB ds vs = true → RepL L ρ H ds (vs.map (He.Dv.v K))
  | [], [], _ => rfl
  | [], _ :: _, h => by cases h
  | _ :: _, [], h => by cases h
  | d :: ds, v :: vs, h => by
    obtain ⟨h1, h2⟩ := Bool.and_eq_true_iff.mp (show (dvB d v && dvsB ds vs) = true from h)
    exact ⟨_, _, rfl, dvB_ok h1 ρ H, dvsB_ok ρ H h2⟩
def cArgs : Arguments → Option (List Arg × List Expr)
  | ⟨[], as, none, [], [], none, ds⟩ => some (as, ds)
  | _ => none
theorem cArgs_ok {a : Arguments} {p : List Arg × List Expr} (h : cArgs a = some p) : a = ⟨[], p.1, none, [], [], none, p.2⟩ := by
  unfold cArgs at h
  split at h
  · cases h; rfl
  · cases h
def Lk.lam (k : Lk) (d : He.DefD) : Bool := k.lm.any fun p => decide (p.1 = d.at_) && decide (p.2 = d.qual)
/-- a def's text has the form -/
def dstB (k : Lk) (d : He.DefD) (f : Fn) : Bool := match cArgs d.params with
  | some (as, _) => d.kwd.isEmpty && fnScB f.N (as.map (·.arg)) d.scope && decide (as.length = f.np) && decide (f.defs.length ≤ f.np) && dvsB f.defs d.dfl && cSs k.G k.P ⟨f.N, d.scope, fun _ => true, k.lam d⟩ f.body d.body
  | none => false
inductive DstsOk (k : Lk) : List He.DefD → List Fn → Prop
  | nil : DstsOk k [] []
  | cons {d : He.DefD} {f : Fn} {ds : List He.DefD} {fs : List Fn} (h : dstB k d f = true) (r : DstsOk k ds fs) : DstsOk k (d :: ds) (f :: fs)
theorem DstsOk.at {k : Lk} {ds : List He.DefD} {fs : List Fn} (h : DstsOk k ds fs) : ∀ {g : Nat} {f : Fn}, fs[g]? = some f → ∃ d, ds[g]? = some d ∧ dstB k d f = true := by
  induction h with
  | nil => intro g f e; simp at e
  | cons h r ih =>
    intro g f e
    cases g with
    | zero => simp at e; subst e; exact ⟨_, rfl, h⟩
    | succ g => simp at e; obtain ⟨d, e1, e2⟩ := ih e; exact ⟨d, by simpa using e1, e2⟩
end Mi

end
section
/-! M35: what was looked at gives the walk's premises; the law's end. -/
namespace Mi
open PySem L2
theorem nodup_inj {α β : Type} {f : α → β} : ∀ {l : List α}, (l.map f).Nodup → ∀ {a b : α}, a ∈ l → b ∈ l → f a = f b → a = b
  | [], _, _, _, h, _, _ => by cases h
  | x :: l, nd, a, b, ha, hb, e => by
    rw [List.map_cons, List.nodup_cons] at nd
    rcases List.mem_cons.mp ha with h1 | h1
    · rcases List.mem_cons.mp hb with h2 | h2
      · rw [h1, h2]
      · rw [h1] at e
        exact absurd (List.mem_map.mpr ⟨b, h2, e.symm⟩) nd.1
    · rcases List.mem_cons.mp hb with h2 | h2
      · rw [h2] at e
        exact absurd (List.mem_map.mpr ⟨a, h1, e⟩) nd.1
      · exact nodup_inj nd.2 h1 h2 e
theorem lookup_in {β : Type} {x : Str} {b : β} : ∀ {l : List (Str × β)}, l.lookup x = some b → (x, b) ∈ l := fun h => PySem.mem_of_lookup h
def Lk.cs (k : Lk) (K : PySem.W.Frag) : List (Addr × Addr) := k.lm.map fun p => (codeOf K p.1, tabOf K (codeOf K p.1))
section
variable {k : Lk} {K : PySem.W.Frag} {h : Heap} {mg : Str → Option Value} {prog : Program} {w : World} {base : Heap} {ent : Ent}
theorem clss_at : ∀ {xs : List Str} {cs : List Cls} {C : Nat} {c : Cls}, clssB k K xs cs = true → cs[C]? = some c → ∃ x, xs[C]? = some x ∧ clsB k K x c = true
  | [], [], C, c, _, e => by simp at e
  | [], _ :: _, _, _, h, _ => by cases h
  | _ :: _, [], _, _, h, _ => by cases h
  | x :: xs, d :: cs, C, c, h, e => by
    obtain ⟨h1, h2⟩ := Bool.and_eq_true_iff.mp (show (clsB k K x d && clssB k K xs cs) = true from h)
    cases C with
    | zero => simp at e; subst e; exact ⟨x, rfl, h1⟩
    | succ C => simp at e; obtain ⟨y, e1, e2⟩ := clss_at h2 e; exact ⟨y, by simpa using e1, e2⟩
theorem codeOf_eq {p : Str × Option Str} {oc : Value} {od : Option Addr} {fd : FuncData} {osl : Array (Option Value)} {c : Addr} (e : K.lookup (He.fAd K p) = some ⟨oc, od, .func fd, osl⟩) (hc : fd.code = .ref c) : codeOf K p = c := by
  unfold codeOf
  rw [e]
  show (match fd.code with | .ref c => c | _ => 0) = c
  rw [hc]
theorem code_ref {cd : Value} {q : Str} (h : PySem.W.codeIn K cd q = true) : ∃ c, cd = .ref c := by
  cases cd <;> first | (cases h; done) | exact ⟨_, rfl⟩
theorem lk_def (S : SaysM k K h) {g : Nat} {d : He.DefD} (hd : k.fn[g]? = some d) (hb : k.fn.all (fun d => d.ok K) = true) : ∃ fd, FunD K d.name d.qual d.params d.body d.scope (d.dvs K) (d.kws K) (He.fAd K d.at_) fd := by
  have e := S.fn
  have e2 : (k.fn.map fun d => He.fnW K d.at_)[g]? = (k.fn.map He.DefD.val)[g]? := by rw [e]
  rw [List.getElem?_map, List.getElem?_map, hd] at e2
  exact He.DefD.funD (Option.some.inj e2) (List.all_eq_true.mp hb d (List.mem_of_getElem? hd))
theorem wst_of (X : K.In h) (N : h.Ns mainGlobals mg) (S : SaysM k K h) (hfile : k.file = prog.main.file) (D : DstsOk k k.fn k.P.fns) (T : ∀ t ∈ k.xs, t.Ok prog) (hL : ∀ ps ∈ k.G.lps, ps.Nodup) (TB : ∀ p ∈ k.cs K, LamX.TabB base mg p.1 p.2) : WSt ⟨prog, w, mg, base, ent⟩ (k.lay K) k.P k.G := by
  have b := S.b
  unfold boolM at b
  simp only [Bool.and_eq_true, List.all_eq_true, decide_eq_true_eq, List.any_eq_true] at b
  obtain ⟨⟨⟨⟨⟨⟨⟨⟨⟨⟨⟨b1, b2⟩, b3⟩, b4⟩, b5⟩, b6⟩, b7⟩, b8⟩, b9⟩, b10⟩, b11⟩, b12⟩ := b
  have glo : ∀ {x : Str} {a : Addr}, gloB K x a = true → mg x = some (.ref a) := fun c => PySem.W.mg_of X N (He.eqO_ok c)
  refine ⟨fun x hx => PySem.W.mg_none_of X N (He.eqO_ok (b1 x hx)), fun x g e => glo (b2 _ (lookup_in e)).1, fun p hp => cstK_ok (L := (k.lay K).toLay) X N (b3 p hp), fun g f e => ?_, fun C c e => ?_, fun x c e => ⟨glo (b5 _ (lookup_in e)).1, (b5 _ (lookup_in e)).2⟩, fun x c e => ?_,
    fun c h' hc hh => b8 c (List.mem_range.mpr hc) h' (List.mem_range.mpr hh), fun c hc => ⟨xfB_ok (b9 c (List.mem_range.mpr hc)).1, He.eqO_ok (b9 c (List.mem_range.mpr hc)).2⟩, fun ps hps => lamB_of (hL ps hps), fun x g e => (b2 _ (lookup_in e)).2, fun x C e => ?_⟩
  · obtain ⟨d, hd, hst⟩ := D.at e
    obtain ⟨fd, FD⟩ := lk_def S hd (List.all_eq_true.mpr b11)
    obtain ⟨oc, od, dV, kV, doc, pm, an, cdv, ct, osl, rfl, lk, hcd, hD, hK⟩ := FD.ex
    have hfa : (k.lay K).fa g = He.fAd K d.at_ := by
      show (match k.fn[g]? with | some d => He.fAd K d.at_ | none => 0) = _
      rw [hd]
    unfold dstB at hst
    cases ha : cArgs d.params with
    | none => rw [ha] at hst; cases hst
    | some pr =>
      obtain ⟨as, ds⟩ := pr
      rw [ha] at hst
      simp only [Bool.and_eq_true, decide_eq_true_eq] at hst
      obtain ⟨⟨⟨⟨⟨s0, s1⟩, s2⟩, s3⟩, s4⟩, s5⟩ := hst
      have hp := cArgs_ok ha
      rw [hp] at lk
      refine ⟨⟨d.name, d.qual, as, ds, d.body, d.scope, d.dvs K, oc, od, dV, kV, doc, pm, an, cdv, ct, osl, k.lam d, by rw [hfa]; exact lk, hcd, hD, by rw [hfa]; exact FD.kp, fnScB_ok s1, s2, s3, fun ρ H => dvsB_ok ρ H s4, s5, fun hl => ?_⟩⟩
      obtain ⟨p, hp1, hp2⟩ := List.any_eq_true.mp hl
      simp only [Bool.and_eq_true, decide_eq_true_eq] at hp2
      obtain ⟨c, hc⟩ := code_ref hcd
      have hco : codeOf K p.1 = c := by rw [hp2.1]; exact codeOf_eq lk hc
      refine ⟨c, tabOf K c, hc, ?_, ?_, fun q hq e1 => ?_⟩
      · have := TB _ (List.mem_map.mpr ⟨p, hp1, rfl⟩)
        rw [hco] at this
        exact this
      · refine List.mem_map.mpr ⟨p, hp1, ?_⟩
        rw [hco, hp2.2]
      · obtain ⟨p', hp', rfl⟩ := List.mem_map.mp hq
        have e1 : tabOf K (codeOf K p'.1) = tabOf K c := e1
        rw [← hco] at e1
        have := nodup_inj b12 hp' hp1 e1
        subst this
        rw [hp2.2]
  · obtain ⟨x, hx, hc⟩ := clss_at b4 e
    have hca : (k.lay K).ca C = He.ga K x := by
      show (match k.cl[C]? with | some x => He.ga K x | none => 0) = _
      rw [hx]
    unfold clsB at hc
    simp only [Bool.and_eq_true, List.all_eq_true, decide_eq_true_eq] at hc
    obtain ⟨⟨c1, c2⟩, c3⟩ := hc
    rw [hca]
    refine ⟨He.cls_ok c1, fun f hf => He.noat_ok (c2 f hf), fun m g hm => ?_⟩
    obtain ⟨m1, m2⟩ := c3 _ (lookup_in hm)
    rw [← m2]
    exact He.meth_ok m1
  · obtain ⟨t, ht, e1⟩ := b7 _ e
    have ex := exB_ok (prog := prog) (by rw [← hfile]; exact b6 t ht) (T t ht) (S.xs t ht).1 (S.xs t ht).2
    have hxa : (k.lay K).xa c = He.ga K t.x := by
      show (match k.ex[c]? with | some x => He.ga K x.1 | none => 0) = _
      rw [e1]
    have hxn : (k.lay K).xn c = t.nm := by
      show (match k.ex[c]? with | some x => x.2 | none => "") = _
      rw [e1]
    rw [hxa, hxn]
    exact ex
  · have m := b10 _ (lookup_in e)
    unfold mkB at m
    simp only [Bool.and_eq_true, decide_eq_true_eq] at m
    obtain ⟨⟨m1, m2⟩, m3⟩ := m
    have hca : (k.lay K).ca C = He.ga K x := by
      show (match k.cl[C]? with | some x => He.ga K x | none => 0) = _
      rw [m2]
    refine ⟨glo m1, ?_⟩
    split at m3
    · rename_i c ec
      split at m3
      · rename_i g eg
        simp only [Bool.and_eq_true, decide_eq_true_eq] at m3
        exact ⟨c, g, ec, eg, by rw [hca, ← m3.2]; exact He.mkr_ok m3.1⟩
      · cases m3
    · cases m3
end
end Mi

end
section
/-! M36: the law's end. -/
namespace Mi
open PySem L2
/-- the law is run on this -/
def scr (ns : List Int) : List (Option D) := [some (.flst (ns.map D.int))]
theorem repL_ints {L : Lay} {ρ : List Addr} {H : Hp} : ∀ ns : List Int, RepL L ρ H (ns.map D.int) (ns.map V.int)
  | [] => rfl
  | n :: ns => ⟨_, _, rfl, rfl, repL_ints ns⟩
theorem law_at {l : PySem.W.OpenLaw} {w : World} {k : Lk} {K : PySem.W.Frag} {mg : Str → Option Value} {fa : Addr} {h : Heap} {n g : Nat} {d : He.DefD} {f : Fn} {x nm : Str} {ar : Arg} {ds : List Expr} (X : K.In h) (N : h.Ns mainGlobals mg) (S : SaysM k K h) (hfile : k.file = l.prog.main.file) (D : DstsOk k k.fn k.P.fns) (T : ∀ t ∈ k.xs, t.Ok l.prog) (hL : ∀ ps ∈ k.G.lps, ps.Nodup)
    (hd : k.fn[g]? = some d) (hf : k.P.fns[g]? = some f) (hG : k.G.fnm.lookup nm = some g) (hmg : mg nm = some (.ref fa)) (hdf : d.dfl = []) (hx : d.params = ⟨[], [ar], none, [], [], none, ds⟩) (har : ar.arg = x) (hnp : f.np = 1)
    (math : ∀ ns : List Int, ns.length ≤ 63 → (∀ z ∈ ns, Builtin.Int.intBits z ≤ 1048576) → ∃ M', callM k.P n f (scr ns) [] [] = .ok (.bl true) M') : LamX.LawAtS l w K (CX l.prog w) n 63 x mg fa h := by
  have b := S.b
  unfold boolM at b
  simp only [Bool.and_eq_true, List.all_eq_true, decide_eq_true_eq, List.any_eq_true] at b
  have b2 := b.1.1.1.1.1.1.1.1.1.1.2
  have b11 := b.1.2
  obtain ⟨fd, FD⟩ := lk_def S hd (List.all_eq_true.mpr b11)
  obtain ⟨oc, od, dV, kV, doc, pm, an, cdv, ct, osl, efd, lk, hcd, hD, hK⟩ := FD.ex
  have hfa : (k.lay K).fa g = He.fAd K d.at_ := by
    show (match k.fn[g]? with | some d => He.fAd K d.at_ | none => 0) = _
    rw [hd]
  have efa : fa = (k.lay K).fa g := by
    have e := PySem.W.mg_of X N (He.eqO_ok (b2 _ (lookup_in hG)).1)
    rw [hmg] at e
    cases e
    rfl
  have e0 : d.dvs K = [] := by unfold He.DefD.dvs; rw [hdf]; rfl
  have hdV : dV = .none := by
    rw [e0] at hD
    rcases hD with ⟨_, e⟩ | ⟨e, _⟩
    · exact e
    · exact absurd rfl e
  subst hdV
  have hpar : fd.params = ⟨[], [ar], none, [], [], none, ds⟩ := by rw [efd]; exact hx
  refine ⟨fd, k.cs K, fun vs H Q E => ∃ (a : Addr) (ns : List Int), vs = [.ref a] ∧ ns.length ≤ 63 ∧ (∀ z ∈ ns, Builtin.Int.intBits z ≤ 1048576) ∧ (∀ p ∈ k.cs K, H p.2 = some (.tbl #[])) ∧ SqL K H a (ns.map V.int) ∧ ∀ H', Q (.bl true) H', fun p hp => ?_, fun p hp => ?_, fun p hp => ?_, fun s u => ?_, fun H a ns h1 h2 h3 h4 => ⟨a, ns, rfl, h1, h2, h3, h4, fun _ => rfl⟩, fun base hb hn TB => ⟨fun vs H Q E hs => ?_, fun A outer s H args us vs Q E hr e0 hbd r hs => ?_⟩⟩
  · obtain ⟨q, hq, rfl⟩ := List.mem_map.mp hp
    exact (S.lm q hq).2.1
  · obtain ⟨q, hq, rfl⟩ := List.mem_map.mp hp
    exact (S.lm q hq).2.2
  · obtain ⟨q, hq, rfl⟩ := List.mem_map.mp hp
    exact hdB_ok X (S.lm q hq).1
  · have := bind_none (as := [ar]) (us := [u]) hpar (by rw [efd]) (by simp) rfl
    refine .of_eq ?_
    rw [this, ← har]
    rfl
  · obtain ⟨a, ns, rfl, _⟩ := hs
    rfl
  · obtain ⟨a, ns, rfl, h1, h2, h3, h4, hq⟩ := hs
    have W : WSt ⟨l.prog, w, mg, base, ⟨[], H, s.heap⟩⟩ (k.lay K) k.P k.G := wst_of X N S hfile D T hL TB
    obtain ⟨fd', ps, B, R, ⟨oc', od', osl', lk'⟩, hps⟩ := (W.defs g f hf).bnd
    have lk2 : K.lookup ((k.lay K).fa g) = some ⟨oc', od', .func fd', osl'⟩ := lk'
    rw [hfa, lk] at lk2
    cases lk2
    have hps : ps = [x] := by rw [hps, hpar, ← har]; rfl
    subst hps
    rw [efa]
    obtain ⟨M', hm⟩ := math ns h1 h2
    refine R n (fun j hj => W.wok j) A outer s H args us [.ref a] Q E [] [] (scr ns) [] [] hr e0 hbd r ⟨rfl, List.nodup_nil, fun i o b e => by simp at e, fun p hp => ⟨by simp, ?_⟩⟩ (by rw [hnp]; rfl) ⟨rfl, fun i dd e => ?_, fun i c e => by cases e⟩ ?_
    · obtain ⟨q, hq, rfl⟩ := List.mem_map.mp hp
      have := h3 _ (List.mem_map.mpr ⟨q, hq, rfl⟩)
      exact ⟨#[], this, True.intro, fun pos cv hc => by
        have hc : codeAmong pos [] = some cv := hc
        cases hc⟩
    · cases i with
      | succ i => simp [scr] at e
      | zero =>
        simp [scr] at e
        subst e
        refine ⟨.ref a, rfl, a, ns.map V.int, rfl, ?_, repL_ints ns⟩
        rcases h4 with h | h
        · exact .inl ⟨by simp, h⟩
        · exact .inr h
    · rw [hm]
      exact fun ρ' H' bb m s' rb => by
        have rb : bb = .bl true := rb
        rw [rb]
        exact hq H'
end Mi

end
section
set_option maxHeartbeats 0
namespace Mi.K05
open PySem L2
abbrev g_is_count : Nat := 0
abbrev g_is_word : Nat := 1
abbrev g_is_byte : Nat := 2
abbrev g_are_bytes : Nat := 3
abbrev g_is_name : Nat := 4
abbrev g_is_expression : Nat := 5
abbrev g_is_expression_head : Nat := 6
abbrev g_expression_parts : Nat := 7
abbrev g_is_statement : Nat := 8
abbrev g_is_block : Nat := 9
abbrev g_is_variable : Nat := 10
abbrev g_is_procedure : Nat := 11
abbrev g_blocks_of : Nat := 12
abbrev g_statement_count : Nat := 13
abbrev g_check_program_rows : Nat := 14
abbrev g_variable_of : Nat := 15
abbrev g_bodies_of : Nat := 16
abbrev g_type_of : Nat := 17
abbrev g_type_at : Nat := 18
abbrev g_type_made : Nat := 19
abbrev g_statement_fault : Nat := 20
abbrev g_parts_fault : Nat := 21
abbrev g_body_fault : Nat := 22
abbrev g_program_fault : Nat := 23
abbrev g_check_program : Nat := 24
abbrev g__law_next : Nat := 25
abbrev g__law_same : Nat := 26
abbrev g__law_word : Nat := 27
abbrev g__law_bit : Nat := 28
abbrev g__law_block : Nat := 29
abbrev g__law_program : Nat := 30
abbrev g__law_many : Nat := 31
abbrev g__law_asked : Nat := 32
abbrev g__law_type : Nat := 33
abbrev g__law_wrong : Nat := 34
abbrev g__law_fault : Nat := 35
abbrev g__law_first : Nat := 36
abbrev g__law_odd : Nat := 37
abbrev g__law_bent : Nat := 38
abbrev g_law : Nat := 39
abbrev g_Program___init__ : Nat := 40
abbrev g_Program_parts : Nat := 41
/-- is_count -/
def b_is_count : MSs := (.cons (.ret (.bop true (.cons (.isi (.var 0) [.int]) (.cons (.not (.isi (.var 0) [.bool])) (.cons (.cmp .ge (.var 0) (.cst (.int 0))) .nil)))))
 .nil)
def n_is_count : List Str := ["value"]
def f_is_count : Fn := ⟨1, n_is_count, [], b_is_count⟩
/-- is_word -/
def b_is_word : MSs := (.cons (.ret (.bop true (.cons (.call g_is_count (.cons (.var 0) .nil)) (.cons (.cmp .lt (.var 0) (.bin .shl false (.cst (.int 1)) (.var 1))) .nil))))
 .nil)
def n_is_word : List Str := ["value", "width"]
def f_is_word : Fn := ⟨2, n_is_word, [], b_is_word⟩
/-- is_byte -/
def b_is_byte : MSs := (.cons (.ret (.bop true (.cons (.call g_is_count (.cons (.var 0) .nil)) (.cons (.cmp .lt (.var 0) (.glc "BYTE" (.int 256))) .nil))))
 .nil)
def n_is_byte : List Str := ["value"]
def f_is_byte : Fn := ⟨1, n_is_byte, [], b_is_byte⟩
/-- are_bytes -/
def b_are_bytes : MSs := (.cons (.ret (.bop true (.cons (.isi (.var 0) [.tuple]) (.cons (.bi .all false (.cons (.lc false (.call g_is_byte (.cons (.var 1) .nil)) (.nm 1) (.val (.var 0)) .nil [1]) .nil)) .nil))))
 .nil)
def n_are_bytes : List Str := ["value", "one"]
def f_are_bytes : Fn := ⟨1, n_are_bytes, [], b_are_bytes⟩
/-- is_name -/
def b_is_name_1 : MSs := (.cons (.ret (.cst (.bl false)))
 .nil)
def b_is_name : MSs := (.cons (.ife (.bop false (.cons (.not (.val (.isi (.var 0) [.str]))) (.cons (.not (.chn .le .le (.cst (.int 1)) (.bi .len false (.cons (.var 0) .nil)) (.cst (.int 8)))) (.cons (.cmp .isin (.var 0) (.glc "KEPT" (.tup [.str "program", .str "word", .str "bit", .str "row", .str "proc", .str "show", .str "if", .str "else", .str "while", .str "call", .str "stop", .str "true", .str "false"]))) (.cons (.not (.chn .le .le (.cst (.str "a")) (.ix (.var 0) (.cst (.int 0))) (.cst (.str "z")))) .nil))))) b_is_name_1 .nil)
 (.cons (.ret (.bi .all false (.cons (.lc false (.bop false (.cons (.chn .le .le (.cst (.str "a")) (.var 1) (.cst (.str "z"))) (.cons (.chn .le .le (.cst (.str "0")) (.var 1) (.cst (.str "9"))) .nil))) (.nm 1) (.val (.var 0)) .nil [1]) .nil)))
 .nil))
def n_is_name : List Str := ["value", "one"]
def f_is_name : Fn := ⟨1, n_is_name, [], b_is_name⟩
/-- is_expression -/
def b_is_expression_1 : MSs := (.cons (.ret (.cst (.bl false)))
 .nil)
def b_is_expression_2 : MSs := (.cons (.asg (.tp (.cons (.nm 3) (.cons (.nm 4) .nil))) (.bm .pop (.var 1) .nil))
 (.cons (.aug .add 2 (.cst (.int 1)))
 (.cons (.ife (.bop false (.cons (.cmp .gt (.var 4) (.glc "MOST_NESTED" (.int 6))) (.cons (.cmp .gt (.var 2) (.glc "MOST_PARTS" (.int 24))) (.cons (.not (.val (.call g_is_expression_head (.cons (.var 3) .nil)))) .nil)))) b_is_expression_1 .nil)
 (.cons (.aug .add 1 (.lc false (.tup (.cons (.var 5) (.cons (.bin .add false (.var 4) (.cst (.int 1))) .nil))) (.nm 5) (.val (.call g_expression_parts (.cons (.var 3) .nil))) .nil [5]))
 .nil))))
def b_is_expression : MSs := (.cons (.par [1, 2] (.cons (.lst true (.cons (.tup (.cons (.var 0) (.cons (.cst (.int 1)) .nil))) .nil)) (.cons (.cst (.int 0)) .nil)))
 (.cons (.whl (.cmp .ne (.var 1) (.lst false .nil)) b_is_expression_2)
 (.cons (.ret (.cst (.bl true)))
 .nil)))
def n_is_expression : List Str := ["value", "rows", "count", "one", "deep", "part"]
def f_is_expression : Fn := ⟨1, n_is_expression, [], b_is_expression⟩
/-- is_expression_head -/
def b_is_expression_head_1 : MSs := (.cons (.ret (.bop true (.cons (.cmp .eq (.var 2) (.cst (.int 3))) (.cons (.call g_is_name (.cons (.ix (.var 0) (.cst (.int 1))) .nil)) .nil))))
 .nil)
def b_is_expression_head_2 : MSs := (.cons (.ret (.bop true (.cons (.cmp .eq (.var 2) (.cst (.int 2))) (.cons (.call g_is_name (.cons (.ix (.var 0) (.cst (.int 1))) .nil)) .nil))))
 .nil)
def b_is_expression_head_3 : MSs := (.cons (.ret (.bop true (.cons (.cmp .eq (.var 2) (.cst (.int 2))) (.cons (.call g_is_byte (.cons (.ix (.var 0) (.cst (.int 1))) .nil)) .nil))))
 .nil)
def b_is_expression_head_4 : MSs := (.cons (.ret (.cmp .eq (.var 2) (.cst (.int 1))))
 .nil)
def b_is_expression_head_5 : MSs := (.cons (.ret (.cst (.bl false)))
 .nil)
def b_is_expression_head : MSs := (.cons (.ife (.bop false (.cons (.not (.val (.isi (.var 0) [.tuple]))) (.cons (.cmp .eq (.var 0) (.tup .nil)) (.cons (.not (.val (.isi (.ix (.var 0) (.cst (.int 0))) [.str]))) .nil)))) b_is_expression_head_5 .nil)
 (.cons (.par [1, 2] (.cons (.ix (.var 0) (.cst (.int 0))) (.cons (.bi .len false (.cons (.var 0) .nil)) .nil)))
 (.cons (.ife (.cmp .isin (.var 1) (.tup (.cons (.cst (.str "true")) (.cons (.cst (.str "false")) .nil)))) b_is_expression_head_4 .nil)
 (.cons (.ife (.cmp .eq (.var 1) (.cst (.str "num"))) b_is_expression_head_3 .nil)
 (.cons (.ife (.cmp .eq (.var 1) (.cst (.str "var"))) b_is_expression_head_2 .nil)
 (.cons (.ife (.cmp .eq (.var 1) (.cst (.str "at"))) b_is_expression_head_1 .nil)
 (.cons (.ret (.bop false (.cons (.bop true (.cons (.cmp .eq (.var 1) (.cst (.str "not"))) (.cons (.cmp .eq (.var 2) (.cst (.int 2))) .nil))) (.cons (.bop true (.cons (.cmp .isin (.var 1) (.bin .add false (.bin .add false (.glc "SUMS" (.tup [.str "add", .str "sub", .str "and", .str "or", .str "xor"])) (.glc "TESTS" (.tup [.str "less", .str "same"]))) (.glc "BOTHS" (.tup [.str "both", .str "either"])))) (.cons (.cmp .eq (.var 2) (.cst (.int 3))) .nil))) .nil))))
 .nil)))))))
def n_is_expression_head : List Str := ["value", "kind", "size"]
def f_is_expression_head : Fn := ⟨1, n_is_expression_head, [], b_is_expression_head⟩
/-- expression_parts -/
def b_expression_parts_1 : MSs := (.cons (.ret (.tup .nil))
 .nil)
def b_expression_parts : MSs := (.cons (.ife (.cmp .isin (.ix (.var 0) (.cst (.int 0))) (.tup (.cons (.cst (.str "true")) (.cons (.cst (.str "false")) (.cons (.cst (.str "num")) (.cons (.cst (.str "var")) .nil)))))) b_expression_parts_1 .nil)
 (.cons (.ret (.ife (.cmp .eq (.ix (.var 0) (.cst (.int 0))) (.cst (.str "at"))) (.sl false (.var 0) (.some (.cst (.int 2))) .no) (.sl false (.var 0) (.some (.cst (.int 1))) .no)))
 .nil))
def n_expression_parts : List Str := ["expression"]
def f_expression_parts : Fn := ⟨1, n_expression_parts, [], b_expression_parts⟩
/-- is_statement -/
def b_is_statement_1 : MSs := (.cons (.ret (.cst (.bl false)))
 .nil)
def b_is_statement_2 : MSs := (.cons (.ret (.bop true (.cons (.cmp .eq (.var 3) (.cst (.int 3))) (.cons (.call g_is_expression (.cons (.ix (.var 0) (.cst (.int 1))) .nil)) (.cons (.call g_is_block (.cons (.ix (.var 0) (.cst (.int 2))) (.cons (.bin .add false (.var 1) (.cst (.int 1))) .nil))) .nil)))))
 .nil)
def b_is_statement_3 : MSs := (.cons (.ret (.bop true (.cons (.cmp .eq (.var 3) (.cst (.int 4))) (.cons (.call g_is_name (.cons (.ix (.var 0) (.cst (.int 1))) .nil)) (.cons (.call g_is_expression (.cons (.ix (.var 0) (.cst (.int 2))) .nil)) (.cons (.call g_is_expression (.cons (.ix (.var 0) (.cst (.int 3))) .nil)) .nil))))))
 .nil)
def b_is_statement_4 : MSs := (.cons (.ret (.bop true (.cons (.cmp .eq (.var 3) (.cst (.int 3))) (.cons (.call g_is_name (.cons (.ix (.var 0) (.cst (.int 1))) .nil)) (.cons (.call g_is_expression (.cons (.ix (.var 0) (.cst (.int 2))) .nil)) .nil)))))
 .nil)
def b_is_statement_5 : MSs := (.cons (.ret (.bop true (.cons (.cmp .eq (.var 3) (.cst (.int 2))) (.cons (.call g_is_expression (.cons (.ix (.var 0) (.cst (.int 1))) .nil)) .nil))))
 .nil)
def b_is_statement_6 : MSs := (.cons (.ret (.bop true (.cons (.cmp .eq (.var 3) (.cst (.int 2))) (.cons (.call g_is_name (.cons (.ix (.var 0) (.cst (.int 1))) .nil)) .nil))))
 .nil)
def b_is_statement_7 : MSs := (.cons (.ret (.cmp .eq (.var 3) (.cst (.int 1))))
 .nil)
def b_is_statement_8 : MSs := (.cons (.ret (.cst (.bl false)))
 .nil)
def b_is_statement : MSs := (.cons (.ife (.bop false (.cons (.not (.val (.isi (.var 0) [.tuple]))) (.cons (.cmp .eq (.var 0) (.tup .nil)) (.cons (.not (.val (.isi (.ix (.var 0) (.cst (.int 0))) [.str]))) (.cons (.cmp .gt (.var 1) (.glc "MOST_NESTED" (.int 6))) .nil))))) b_is_statement_8 .nil)
 (.cons (.par [2, 3] (.cons (.ix (.var 0) (.cst (.int 0))) (.cons (.bi .len false (.cons (.var 0) .nil)) .nil)))
 (.cons (.ife (.cmp .eq (.var 2) (.cst (.str "stop"))) b_is_statement_7 .nil)
 (.cons (.ife (.cmp .eq (.var 2) (.cst (.str "call"))) b_is_statement_6 .nil)
 (.cons (.ife (.cmp .eq (.var 2) (.cst (.str "show"))) b_is_statement_5 .nil)
 (.cons (.ife (.cmp .eq (.var 2) (.cst (.str "set"))) b_is_statement_4 .nil)
 (.cons (.ife (.cmp .eq (.var 2) (.cst (.str "put"))) b_is_statement_3 .nil)
 (.cons (.ife (.cmp .eq (.var 2) (.cst (.str "while"))) b_is_statement_2 .nil)
 (.cons (.ife (.bop false (.cons (.cmp .ne (.var 2) (.cst (.str "if"))) (.cons (.cmp .ne (.var 3) (.cst (.int 4))) (.cons (.not (.val (.call g_is_expression (.cons (.ix (.var 0) (.cst (.int 1))) .nil)))) .nil)))) b_is_statement_1 .nil)
 (.cons (.ret (.bop true (.cons (.call g_is_block (.cons (.ix (.var 0) (.cst (.int 2))) (.cons (.bin .add false (.var 1) (.cst (.int 1))) .nil))) (.cons (.call g_is_block (.cons (.ix (.var 0) (.cst (.int 3))) (.cons (.bin .add false (.var 1) (.cst (.int 1))) .nil))) .nil))))
 .nil))))))))))
def n_is_statement : List Str := ["value", "deep", "kind", "size"]
def f_is_statement : Fn := ⟨2, n_is_statement, [.int 1], b_is_statement⟩
/-- is_block -/
def b_is_block_1 : MSs := (.cons (.ret (.cst (.bl false)))
 .nil)
def b_is_block : MSs := (.cons (.ife (.bop false (.cons (.not (.val (.isi (.var 0) [.tuple]))) (.cons (.cmp .gt (.bi .len false (.cons (.var 0) .nil)) (.glc "MOST_BLOCK" (.int 12))) .nil))) b_is_block_1 .nil)
 (.cons (.ret (.bi .all false (.cons (.lc false (.call g_is_statement (.cons (.var 2) (.cons (.var 1) .nil))) (.nm 2) (.val (.var 0)) .nil [2]) .nil)))
 .nil))
def n_is_block : List Str := ["value", "deep", "one"]
def f_is_block : Fn := ⟨2, n_is_block, [.int 1], b_is_block⟩
/-- is_variable -/
def b_is_variable_1 : MSs := (.cons (.ret (.bop true (.cons (.call g_are_bytes (.cons (.ix (.var 0) (.cst (.int 2))) .nil)) (.cons (.chn .le .le (.cst (.int 1)) (.bi .len false (.cons (.ix (.var 0) (.cst (.int 2))) .nil)) (.cst (.int 8))) .nil))))
 .nil)
def b_is_variable_2 : MSs := (.cons (.ret (.cst (.bl false)))
 .nil)
def b_is_variable : MSs := (.cons (.ife (.bop false (.cons (.not (.val (.isi (.var 0) [.tuple]))) (.cons (.cmp .ne (.bi .len false (.cons (.var 0) .nil)) (.cst (.int 3))) (.cons (.not (.val (.isi (.ix (.var 0) (.cst (.int 0))) [.str]))) (.cons (.not (.val (.call g_is_name (.cons (.ix (.var 0) (.cst (.int 1))) .nil)))) .nil))))) b_is_variable_2 .nil)
 (.cons (.ife (.cmp .eq (.ix (.var 0) (.cst (.int 0))) (.cst (.str "row"))) b_is_variable_1 .nil)
 (.cons (.ret (.bop false (.cons (.bop true (.cons (.cmp .eq (.ix (.var 0) (.cst (.int 0))) (.cst (.str "word"))) (.cons (.call g_is_byte (.cons (.ix (.var 0) (.cst (.int 2))) .nil)) .nil))) (.cons (.bop true (.cons (.cmp .eq (.ix (.var 0) (.cst (.int 0))) (.cst (.str "bit"))) (.cons (.call g_is_word (.cons (.ix (.var 0) (.cst (.int 2))) (.cons (.cst (.int 1)) .nil))) .nil))) .nil))))
 .nil)))
def n_is_variable : List Str := ["value"]
def f_is_variable : Fn := ⟨1, n_is_variable, [], b_is_variable⟩
/-- is_procedure -/
def b_is_procedure : MSs := (.cons (.ret (.bop true (.cons (.isi (.var 0) [.tuple]) (.cons (.cmp .eq (.bi .len false (.cons (.var 0) .nil)) (.cst (.int 2))) (.cons (.call g_is_name (.cons (.ix (.var 0) (.cst (.int 0))) .nil)) (.cons (.call g_is_block (.cons (.ix (.var 0) (.cst (.int 1))) .nil)) .nil))))))
 .nil)
def n_is_procedure : List Str := ["value"]
def f_is_procedure : Fn := ⟨1, n_is_procedure, [], b_is_procedure⟩
/-- blocks_of -/
def b_blocks_of : MSs := (.cons (.ret (.bm .get (.dsp false (.cons (.cst (.str "while")) (.sl false (.var 0) (.some (.cst (.int 2))) .no) (.cons (.cst (.str "if")) (.sl false (.var 0) (.some (.cst (.int 2))) .no) .nil))) (.cons (.ix (.var 0) (.cst (.int 0))) (.cons (.tup .nil) .nil))))
 .nil)
def n_blocks_of : List Str := ["statement"]
def f_blocks_of : Fn := ⟨1, n_blocks_of, [], b_blocks_of⟩
/-- statement_count -/
def b_statement_count : MSs := (.cons (.ret (.bi .sum false (.cons (.lc false (.bin .add false (.cst (.int 1)) (.bi .sum false (.cons (.lc false (.call g_statement_count (.cons (.var 1) .nil)) (.nm 1) (.val (.call g_blocks_of (.cons (.var 2) .nil))) .nil [1]) .nil))) (.nm 2) (.val (.var 0)) .nil [2]) .nil)))
 .nil)
def n_statement_count : List Str := ["body", "one", "row"]
def f_statement_count : Fn := ⟨1, n_statement_count, [], b_statement_count⟩
/-- check_program_rows -/
def b_check_program_rows_1 : MSs := (.cons (.rse 1 (.tup (.cons (.var 0) (.cons (.var 6) .nil))))
 .nil)
def b_check_program_rows_2 : MSs := (.cons (.ife (.bop false (.cons (.cmp .ge (.var 6) (.var 4)) (.cons (.not (.val (.callv 2 (.cons (.ix (.var 1) (.var 6)) .nil)))) (.cons (.cmp .isin (.callv 3 (.cons (.ix (.var 1) (.var 6)) .nil)) (.var 5)) .nil)))) b_check_program_rows_1 .nil)
 (.cons (.asg (.sb (.var 5) (.callv 3 (.cons (.ix (.var 1) (.var 6)) .nil))) (.cst (.bl true)))
 .nil))
def b_check_program_rows_3 : MSs := (.cons (.rse 1 (.tup (.cons (.var 0) (.cons (.cst (.non)) .nil))))
 .nil)
def b_check_program_rows : MSs := (.cons (.ife (.not (.val (.isi (.var 1) [.tuple]))) b_check_program_rows_3 .nil)
 (.cons (.asg (.nm 5) (.dsp true .nil))
 (.cons (.fr (.nm 6) (.rng1 (.bi .len false (.cons (.var 1) .nil))) b_check_program_rows_2)
 .nil)))
def n_check_program_rows : List Str := ["kind", "rows", "is_right", "name_of", "most", "names", "k"]
def f_check_program_rows : Fn := ⟨5, n_check_program_rows, [], b_check_program_rows⟩
/-- variable_of -/
def b_variable_of_1 : MSs := (.cons (.ret (.var 2))
 .nil)
def b_variable_of_2 : MSs := (.cons (.ife (.cmp .eq (.ix (.var 2) (.cst (.int 1))) (.var 1)) b_variable_of_1 .nil)
 .nil)
def b_variable_of : MSs := (.cons (.fr (.nm 2) (.val (.fld "variables" (.var 0))) b_variable_of_2)
 (.cons (.ret (.cst (.non)))
 .nil))
def n_variable_of : List Str := ["program", "name", "row"]
def f_variable_of : Fn := ⟨2, n_variable_of, [], b_variable_of⟩
/-- bodies_of -/
def b_bodies_of : MSs := (.cons (.ret (.bin .add false (.fld "procs" (.var 0)) (.tup (.cons (.tup (.cons (.cst (.non)) (.cons (.fld "body" (.var 0)) .nil))) .nil))))
 .nil)
def n_bodies_of : List Str := ["program"]
def f_bodies_of : Fn := ⟨1, n_bodies_of, [], b_bodies_of⟩
/-- type_of -/
def b_type_of : MSs := (.cons (.ret (.call g_type_at (.cons (.var 0) (.cons (.var 1) (.cons (.tup .nil) .nil)))))
 .nil)
def n_type_of : List Str := ["program", "expression"]
def f_type_of : Fn := ⟨2, n_type_of, [], b_type_of⟩
/-- type_at -/
def b_type_at_1 : MSs := (.cons (.rse 1 (.var 2))
 .nil)
def b_type_at : MSs := (.cons (.asg (.nm 3) (.call g_expression_parts (.cons (.var 1) .nil)))
 (.cons (.asg (.nm 4) (.lc false (.call g_type_at (.cons (.var 0) (.cons (.ix (.var 3) (.var 5)) (.cons (.bin .add false (.var 2) (.tup (.cons (.var 5) .nil))) .nil)))) (.nm 5) (.rng1 (.bi .len false (.cons (.var 3) .nil))) .nil [5]))
 (.cons (.asg (.nm 6) (.call g_type_made (.cons (.var 0) (.cons (.var 1) (.cons (.var 4) .nil)))))
 (.cons (.ife (.cmp .is (.var 6) (.cst (.non))) b_type_at_1 .nil)
 (.cons (.ret (.var 6))
 .nil)))))
def n_type_at : List Str := ["program", "expression", "path", "parts", "told", "k", "found"]
def f_type_at : Fn := ⟨3, n_type_at, [], b_type_at⟩
/-- type_made -/
def b_type_made_1 : MSs := (.cons (.ret (.cst (.non)))
 .nil)
def b_type_made_2 : MSs := (.cons (.ret (.cst (.non)))
 .nil)
def b_type_made_3 : MSs := (.cons (.asg (.nm 4) (.call g_variable_of (.cons (.var 0) (.cons (.ix (.var 1) (.cst (.int 1))) .nil))))
 (.cons (.ife (.bop false (.cons (.cmp .is (.var 4) (.cst (.non))) (.cons (.cmp .ne (.cmp .eq (.ix (.var 4) (.cst (.int 0))) (.cst (.str "row"))) (.cmp .eq (.var 3) (.cst (.str "at")))) .nil))) b_type_made_2 .nil)
 (.cons (.ret (.ife (.cmp .eq (.var 3) (.cst (.str "var"))) (.ix (.var 4) (.cst (.int 0))) (.ife (.cmp .eq (.var 2) (.lst false (.cons (.cst (.str "word")) .nil))) (.cst (.str "word")) (.cst (.non)))))
 .nil)))
def b_type_made_4 : MSs := (.cons (.ret (.cst (.str "word")))
 .nil)
def b_type_made_5 : MSs := (.cons (.ret (.cst (.str "bit")))
 .nil)
def b_type_made : MSs := (.cons (.asg (.nm 3) (.ix (.var 1) (.cst (.int 0))))
 (.cons (.ife (.cmp .isin (.var 3) (.tup (.cons (.cst (.str "true")) (.cons (.cst (.str "false")) .nil)))) b_type_made_5 .nil)
 (.cons (.ife (.cmp .eq (.var 3) (.cst (.str "num"))) b_type_made_4 .nil)
 (.cons (.ife (.cmp .isin (.var 3) (.tup (.cons (.cst (.str "var")) (.cons (.cst (.str "at")) .nil)))) b_type_made_3 .nil)
 (.cons (.asg (.nm 5) (.ife (.cmp .isin (.var 3) (.bin .add false (.glc "BOTHS" (.tup [.str "both", .str "either"])) (.tup (.cons (.cst (.str "not")) .nil)))) (.cst (.str "bit")) (.cst (.str "word"))))
 (.cons (.ife (.not (.val (.bi .all false (.cons (.lc false (.cmp .eq (.var 6) (.var 5)) (.nm 6) (.val (.var 2)) .nil [6]) .nil)))) b_type_made_1 .nil)
 (.cons (.ret (.ife (.cmp .isin (.var 3) (.glc "SUMS" (.tup [.str "add", .str "sub", .str "and", .str "or", .str "xor"]))) (.cst (.str "word")) (.cst (.str "bit"))))
 .nil)))))))
def n_type_made : List Str := ["program", "expression", "told", "kind", "row", "due", "one"]
def f_type_made : Fn := ⟨3, n_type_made, [], b_type_made⟩
/-- statement_fault -/
def b_statement_fault_1 : MSs := (.cons (.ret (.cst (.non)))
 .nil)
def b_statement_fault_2 : MSs := (.cons (.ret (.tup (.cons (.cst (.str "name")) (.cons (.ix (.var 1) (.cst (.int 1))) .nil))))
 .nil)
def b_statement_fault_3 : MSs := (.cons (.asg (.nm 4) (.call g_variable_of (.cons (.var 0) (.cons (.ix (.var 1) (.cst (.int 1))) .nil))))
 (.cons (.ife (.bop false (.cons (.cmp .is (.var 4) (.cst (.non))) (.cons (.cmp .ne (.cmp .eq (.ix (.var 4) (.cst (.int 0))) (.cst (.str "row"))) (.cmp .eq (.var 3) (.cst (.str "put")))) .nil))) b_statement_fault_2 .nil)
 (.cons (.asg (.nm 5) (.ife (.cmp .eq (.var 3) (.cst (.str "put"))) (.tup (.cons (.cst (.str "word")) (.cons (.cst (.str "word")) .nil))) (.tup (.cons (.ix (.var 4) (.cst (.int 0))) .nil))))
 (.cons (.ret (.call g_parts_fault (.cons (.var 0) (.cons (.sl false (.var 1) (.some (.cst (.int 2))) .no) (.cons (.var 5) .nil)))))
 .nil))))
def b_statement_fault_4 : MSs := (.cons (.ret (.ife (.cmp .isin (.ix (.var 1) (.cst (.int 1))) (.var 2)) (.cst (.non)) (.tup (.cons (.cst (.str "call")) (.cons (.ix (.var 1) (.cst (.int 1))) .nil)))))
 .nil)
def b_statement_fault : MSs := (.cons (.asg (.nm 3) (.ix (.var 1) (.cst (.int 0))))
 (.cons (.ife (.cmp .eq (.var 3) (.cst (.str "call"))) b_statement_fault_4 .nil)
 (.cons (.ife (.cmp .isin (.var 3) (.tup (.cons (.cst (.str "set")) (.cons (.cst (.str "put")) .nil)))) b_statement_fault_3 .nil)
 (.cons (.ife (.cmp .eq (.var 3) (.cst (.str "stop"))) b_statement_fault_1 .nil)
 (.cons (.ret (.call g_parts_fault (.cons (.var 0) (.cons (.sl false (.var 1) (.some (.cst (.int 1))) (.some (.cst (.int 2)))) (.cons (.ife (.cmp .eq (.var 3) (.cst (.str "show"))) (.tup (.cons (.cst (.str "word")) .nil)) (.tup (.cons (.cst (.str "bit")) .nil))) .nil)))))
 .nil)))))
def n_statement_fault : List Str := ["program", "statement", "before", "kind", "row", "dues"]
def f_statement_fault : Fn := ⟨3, n_statement_fault, [], b_statement_fault⟩
/-- parts_fault -/
def b_parts_fault_1 : MSs := (.cons (.ret (.tup (.cons (.cst (.str "type")) (.cons (.var 3) .nil))))
 .nil)
def b_parts_fault_2 : MSs := (.cons (.asg (.nm 4) (.call g_type_of (.cons (.var 0) (.cons (.ix (.var 1) (.var 3)) .nil))))
 .nil)
def b_parts_fault_3 : MSs := (.cons (.tr b_parts_fault_2 (.cons 1 (some 5) (.tup (.cons (.cst (.str "part")) (.cons (.var 3) (.cons (.exp 5) .nil)))) .nil))
 (.cons (.ife (.cmp .ne (.var 4) (.ix (.var 2) (.var 3))) b_parts_fault_1 .nil)
 .nil))
def b_parts_fault : MSs := (.cons (.fr (.nm 3) (.rng1 (.bi .len false (.cons (.var 1) .nil))) b_parts_fault_3)
 (.cons (.ret (.cst (.non)))
 .nil))
def n_parts_fault : List Str := ["program", "expressions", "dues", "k", "told", "fault"]
def f_parts_fault : Fn := ⟨3, n_parts_fault, [], b_parts_fault⟩
/-- body_fault -/
def b_body_fault_1 : MSs := (.cons (.ret (.var 5))
 .nil)
def b_body_fault_2 : MSs := (.cons (.asg (.nm 5) (.call g_body_fault (.cons (.var 0) (.cons (.ix (.ix (.var 1) (.var 4)) (.var 6)) (.cons (.var 2) (.cons (.bin .add false (.var 3) (.tup (.cons (.var 4) (.cons (.bin .sub false (.var 6) (.cst (.int 2))) .nil)))) .nil))))))
 (.cons (.ife (.cmp .isnot (.var 5) (.cst (.non))) b_body_fault_1 .nil)
 .nil))
def b_body_fault_3 : MSs := (.cons (.ife (.cmp .isin (.ix (.ix (.var 1) (.var 4)) (.cst (.int 0))) (.tup (.cons (.cst (.str "if")) (.cons (.cst (.str "while")) .nil)))) b_body_fault_2 .nil)
 .nil)
def b_body_fault_4 : MSs := (.cons (.ret (.tup (.cons (.bin .add false (.var 3) (.tup (.cons (.var 4) .nil))) (.cons (.var 5) .nil))))
 .nil)
def b_body_fault_5 : MSs := (.cons (.asg (.nm 5) (.call g_statement_fault (.cons (.var 0) (.cons (.ix (.var 1) (.var 4)) (.cons (.var 2) .nil)))))
 (.cons (.ife (.cmp .isnot (.var 5) (.cst (.non))) b_body_fault_4 .nil)
 (.cons (.fr (.nm 6) (.rng2 (.cst (.int 2)) (.bi .len false (.cons (.ix (.var 1) (.var 4)) .nil))) b_body_fault_3)
 .nil)))
def b_body_fault : MSs := (.cons (.fr (.nm 4) (.rng1 (.bi .len false (.cons (.var 1) .nil))) b_body_fault_5)
 (.cons (.ret (.cst (.non)))
 .nil))
def n_body_fault : List Str := ["program", "body", "before", "path", "k", "fault", "j"]
def f_body_fault : Fn := ⟨4, n_body_fault, [], b_body_fault⟩
/-- program_fault -/
def b_program_fault_1 : MSs := (.cons (.ret (.bin .add false (.tup (.cons (.var 2) .nil)) (.var 4)))
 .nil)
def b_program_fault_2 : MSs := (.cons (.asg (.nm 4) (.call g_body_fault (.cons (.var 0) (.cons (.var 3) (.cons (.var 1) (.cons (.tup .nil) .nil))))))
 (.cons (.ife (.cmp .isnot (.var 4) (.cst (.non))) b_program_fault_1 .nil)
 (.cons (.expr (.bm .append (.var 1) (.cons (.var 2) .nil)))
 .nil)))
def b_program_fault : MSs := (.cons (.asg (.nm 1) (.lst true .nil))
 (.cons (.fr (.tp (.cons (.nm 2) (.cons (.nm 3) .nil))) (.val (.call g_bodies_of (.cons (.var 0) .nil))) b_program_fault_2)
 (.cons (.ret (.cst (.non)))
 .nil)))
def n_program_fault : List Str := ["program", "before", "name", "body", "fault"]
def f_program_fault : Fn := ⟨1, n_program_fault, [], b_program_fault⟩
/-- check_program -/
def b_check_program_1 : MSs := (.cons (.rse 1 (.var 1))
 .nil)
def b_check_program : MSs := (.cons (.asg (.nm 1) (.call g_program_fault (.cons (.var 0) .nil)))
 (.cons (.ife (.cmp .isnot (.var 1) (.cst (.non))) b_check_program_1 .nil)
 .nil))
def n_check_program : List Str := ["program", "fault"]
def f_check_program : Fn := ⟨1, n_check_program, [], b_check_program⟩
/-- _law_next -/
def b__law_next_1 : MSs := (.cons (.asg (.sb (.var 0) (.cst (.int 3))) (.bin .mod false (.bi .int false (.cons (.bin .add false (.bin .add false (.bin .mul false (.ix (.var 0) (.cst (.int 3))) (.cst (.int 69621))) (.bin .mul false (.var 3) (.cst (.int 40692)))) (.cst (.int 17))) .nil)) (.cst (.int 2147483647))))
 (.cons (.ret (.bin .mod false (.bin .mod false (.bi .int false (.cons (.bin .mul false (.bi .int false (.cons (.bin .fdiv false (.ix (.var 0) (.cst (.int 3))) (.cst (.int 5))) .nil)) (.cst (.int 48271))) .nil)) (.cst (.int 2147483647))) (.var 1)))
 .nil))
def b__law_next_2 : MSs := (.cons (.asg (.nm 3) (.bi .abs false (.cons (.bi .int false (.cons (.ix (.ix (.var 0) (.cst (.int 0))) (.ix (.var 0) (.cst (.int 1)))) .nil)) .nil)))
 (.cons (.asg (.sb (.var 0) (.cst (.int 1))) (.bin .add false (.ix (.var 0) (.cst (.int 1))) (.cst (.int 1))))
 .nil))
def b__law_next_3 : MSs := (.cons (.asg (.nm 3) (.cst (.int 0)))
 (.cons (.ife (.cmp .lt (.ix (.var 0) (.cst (.int 1))) (.bi .len false (.cons (.ix (.var 0) (.cst (.int 0))) .nil))) b__law_next_2 .nil)
 (.cons (.asg (.nm 2) (.var 3))
 (.cons (.ife (.cmp .lt (.var 3) (.bin .pow false (.cst (.int 10)) (.cst (.int 18)))) b__law_next_1 .nil)
 .nil))))
def b__law_next : MSs := (.cons (.asg (.nm 2) (.ix (.var 0) (.cst (.int 2))))
 (.cons (.ife (.cmp .eq (.var 2) (.cst (.int 0))) b__law_next_3 .nil)
 (.cons (.asg (.sb (.var 0) (.cst (.int 2))) (.bin .fdiv false (.var 2) (.var 1)))
 (.cons (.ret (.bin .mod false (.bi .int false (.cons (.var 2) .nil)) (.var 1)))
 .nil))))
def n__law_next : List Str := ["tape", "many", "rest", "cell"]
def f__law_next : Fn := ⟨2, n__law_next, [], b__law_next⟩
/-- _law_same -/
def b__law_same_1 : MSs := (.cons (.ret (.cst (.bl false)))
 .nil)
def b__law_same_2 : MSs := (.cons (.ret (.bop true (.cons (.isi (.var 0) [.str]) (.cons (.cmp .eq (.var 0) (.var 1)) .nil))))
 .nil)
def b__law_same_3 : MSs := (.cons (.ret (.bop true (.cons (.isi (.var 0) [.int]) (.cons (.not (.isi (.var 0) [.bool])) (.cons (.cmp .eq (.var 0) (.var 1)) .nil)))))
 .nil)
def b__law_same_4 : MSs := (.cons (.ret (.bop true (.cons (.isi (.var 0) [.bool]) (.cons (.cmp .eq (.var 0) (.var 1)) .nil))))
 .nil)
def b__law_same_5 : MSs := (.cons (.ret (.cmp .is (.var 0) (.cst (.non))))
 .nil)
def b__law_same : MSs := (.cons (.ife (.cmp .is (.var 1) (.cst (.non))) b__law_same_5 .nil)
 (.cons (.ife (.val (.isi (.var 1) [.bool])) b__law_same_4 .nil)
 (.cons (.ife (.val (.isi (.var 1) [.int])) b__law_same_3 .nil)
 (.cons (.ife (.val (.isi (.var 1) [.str])) b__law_same_2 .nil)
 (.cons (.ife (.bop false (.cons (.bop true (.cons (.val (.isi (.var 1) [.list])) (.cons (.not (.val (.isi (.var 0) [.list]))) .nil))) (.cons (.bop true (.cons (.val (.isi (.var 1) [.tuple])) (.cons (.not (.val (.isi (.var 0) [.tuple]))) .nil))) .nil))) b__law_same_1 .nil)
 (.cons (.ret (.bop true (.cons (.cmp .eq (.bi .len false (.cons (.var 0) .nil)) (.bi .len false (.cons (.var 1) .nil))) (.cons (.cmp .eq (.lc false (.cst (.int 1)) (.nm 2) (.rng1 (.bi .len false (.cons (.var 1) .nil))) (.cons (.not (.val (.call g__law_same (.cons (.ix (.var 0) (.var 2)) (.cons (.ix (.var 1) (.var 2)) .nil))))) .nil) [2]) (.lst false .nil)) .nil))))
 .nil))))))
def n__law_same : List Str := ["told", "due", "k"]
def f__law_same : Fn := ⟨2, n__law_same, [], b__law_same⟩
/-- _law_word -/
def b__law_word_1 : MSs := (.cons (.asg (.tp (.cons (.nm 6) (.cons (.nm 7) .nil))) (.ix (.var 4) (.call g__law_next (.cons (.var 0) (.cons (.bi .len false (.cons (.var 4) .nil)) .nil)))))
 (.cons (.asg (.nm 8) (.ife (.cmp .gt (.call g__law_next (.cons (.var 0) (.cons (.cst (.int 3)) .nil))) (.cst (.int 0))) (.tup (.cons (.cst (.str "num")) (.cons (.call g__law_next (.cons (.var 0) (.cons (.var 7) .nil))) .nil))) (.call g__law_word (.cons (.var 0) (.cons (.bin .sub false (.var 1) (.cst (.int 1))) (.cons (.var 2) (.cons (.var 3) (.cons (.var 4) .nil))))))))
 (.cons (.ret (.tup (.cons (.cst (.str "at")) (.cons (.var 6) (.cons (.var 8) .nil)))))
 .nil)))
def b__law_word_2 : MSs := (.cons (.ret (.tup (.cons (.cst (.str "num")) (.cons (.ix (.tup (.cons (.cst (.int 0)) (.cons (.cst (.int 1)) (.cons (.cst (.int 2)) (.cons (.cst (.int 3)) (.cons (.cst (.int 5)) (.cons (.cst (.int 200)) (.cons (.cst (.int 255)) .nil)))))))) (.call g__law_next (.cons (.var 0) (.cons (.cst (.int 7)) .nil)))) .nil))))
 .nil)
def b__law_word_3 : MSs := (.cons (.ret (.tup (.cons (.cst (.str "var")) (.cons (.ix (.var 2) (.call g__law_next (.cons (.var 0) (.cons (.bi .len false (.cons (.var 2) .nil)) .nil)))) .nil))))
 .nil)
def b__law_word : MSs := (.cons (.asg (.nm 5) (.ife (.cmp .gt (.var 1) (.cst (.int 0))) (.call g__law_next (.cons (.var 0) (.cons (.cst (.int 10)) .nil))) (.call g__law_next (.cons (.var 0) (.cons (.cst (.int 3)) .nil)))))
 (.cons (.ife (.bop true (.cons (.cmp .lt (.var 5) (.cst (.int 2))) (.cons (.cmp .ne (.var 2) (.lst false .nil)) .nil))) b__law_word_3 .nil)
 (.cons (.ife (.cmp .lt (.var 5) (.cst (.int 3))) b__law_word_2 .nil)
 (.cons (.ife (.bop true (.cons (.cmp .lt (.var 5) (.cst (.int 5))) (.cons (.cmp .ne (.var 4) (.lst false .nil)) .nil))) b__law_word_1 .nil)
 (.cons (.asg (.nm 9) (.ix (.tup (.cons (.cst (.str "add")) (.cons (.cst (.str "sub")) (.cons (.cst (.str "and")) (.cons (.cst (.str "or")) (.cons (.cst (.str "xor")) .nil)))))) (.call g__law_next (.cons (.var 0) (.cons (.cst (.int 5)) .nil)))))
 (.cons (.ret (.tup (.cons (.var 9) (.cons (.call g__law_word (.cons (.var 0) (.cons (.bin .sub false (.var 1) (.cst (.int 1))) (.cons (.var 2) (.cons (.var 3) (.cons (.var 4) .nil)))))) (.cons (.call g__law_word (.cons (.var 0) (.cons (.bin .sub false (.var 1) (.cst (.int 1))) (.cons (.var 2) (.cons (.var 3) (.cons (.var 4) .nil)))))) .nil)))))
 .nil))))))
def n__law_word : List Str := ["tape", "deep", "words", "bits", "rows", "kind", "name", "size", "place", "pair"]
def f__law_word : Fn := ⟨5, n__law_word, [], b__law_word⟩
/-- _law_bit -/
def b__law_bit_1 : MSs := (.cons (.ret (.tup (.cons (.cst (.str "not")) (.cons (.call g__law_bit (.cons (.var 0) (.cons (.bin .sub false (.var 1) (.cst (.int 1))) (.cons (.var 2) (.cons (.var 3) (.cons (.var 4) .nil)))))) .nil))))
 .nil)
def b__law_bit_2 : MSs := (.cons (.ret (.tup (.cons (.ix (.tup (.cons (.cst (.str "less")) (.cons (.cst (.str "same")) .nil))) (.call g__law_next (.cons (.var 0) (.cons (.cst (.int 2)) .nil)))) (.cons (.call g__law_word (.cons (.var 0) (.cons (.bin .sub false (.var 1) (.cst (.int 1))) (.cons (.var 2) (.cons (.var 3) (.cons (.var 4) .nil)))))) (.cons (.call g__law_word (.cons (.var 0) (.cons (.bin .sub false (.var 1) (.cst (.int 1))) (.cons (.var 2) (.cons (.var 3) (.cons (.var 4) .nil)))))) .nil)))))
 .nil)
def b__law_bit_3 : MSs := (.cons (.ret (.tup (.cons (.ix (.tup (.cons (.cst (.str "true")) (.cons (.cst (.str "false")) .nil))) (.call g__law_next (.cons (.var 0) (.cons (.cst (.int 2)) .nil)))) .nil)))
 .nil)
def b__law_bit_4 : MSs := (.cons (.ret (.tup (.cons (.cst (.str "var")) (.cons (.ix (.var 3) (.call g__law_next (.cons (.var 0) (.cons (.bi .len false (.cons (.var 3) .nil)) .nil)))) .nil))))
 .nil)
def b__law_bit : MSs := (.cons (.asg (.nm 5) (.ife (.cmp .gt (.var 1) (.cst (.int 0))) (.call g__law_next (.cons (.var 0) (.cons (.cst (.int 8)) .nil))) (.call g__law_next (.cons (.var 0) (.cons (.cst (.int 2)) .nil)))))
 (.cons (.ife (.bop true (.cons (.cmp .eq (.var 5) (.cst (.int 0))) (.cons (.cmp .ne (.var 3) (.lst false .nil)) .nil))) b__law_bit_4 .nil)
 (.cons (.ife (.cmp .lt (.var 5) (.cst (.int 2))) b__law_bit_3 .nil)
 (.cons (.ife (.cmp .lt (.var 5) (.cst (.int 5))) b__law_bit_2 .nil)
 (.cons (.ife (.cmp .eq (.var 5) (.cst (.int 5))) b__law_bit_1 .nil)
 (.cons (.ret (.tup (.cons (.ix (.tup (.cons (.cst (.str "both")) (.cons (.cst (.str "either")) .nil))) (.call g__law_next (.cons (.var 0) (.cons (.cst (.int 2)) .nil)))) (.cons (.call g__law_bit (.cons (.var 0) (.cons (.bin .sub false (.var 1) (.cst (.int 1))) (.cons (.var 2) (.cons (.var 3) (.cons (.var 4) .nil)))))) (.cons (.call g__law_bit (.cons (.var 0) (.cons (.bin .sub false (.var 1) (.cst (.int 1))) (.cons (.var 2) (.cons (.var 3) (.cons (.var 4) .nil)))))) .nil)))))
 .nil))))))
def n__law_bit : List Str := ["tape", "deep", "words", "bits", "rows", "kind"]
def f__law_bit : Fn := ⟨5, n__law_bit, [], b__law_bit⟩
/-- _law_block -/
def b__law_block_1 : MSs := (.cons (.expr (.bm .append (.var 8) (.cons (.tup (.cons (.cst (.str "set")) (.cons (.ix (.var 5) (.call g__law_next (.cons (.var 0) (.cons (.bi .len false (.cons (.var 5) .nil)) .nil)))) (.cons (.call g__law_word (.cons (.var 0) (.cons (.cst (.int 2)) (.cons (.var 5) (.cons (.var 6) (.cons (.var 7) .nil)))))) .nil)))) .nil)))
 .nil)
def b__law_block_2 : MSs := (.cons (.expr (.bm .append (.var 8) (.cons (.tup (.cons (.cst (.str "set")) (.cons (.ix (.var 6) (.call g__law_next (.cons (.var 0) (.cons (.bi .len false (.cons (.var 6) .nil)) .nil)))) (.cons (.call g__law_bit (.cons (.var 0) (.cons (.cst (.int 2)) (.cons (.var 5) (.cons (.var 6) (.cons (.var 7) .nil)))))) .nil)))) .nil)))
 .nil)
def b__law_block_3 : MSs := (.cons (.asg (.tp (.cons (.nm 11) (.cons (.nm 12) .nil))) (.ix (.var 7) (.call g__law_next (.cons (.var 0) (.cons (.bi .len false (.cons (.var 7) .nil)) .nil)))))
 (.cons (.asg (.nm 13) (.ife (.cmp .gt (.call g__law_next (.cons (.var 0) (.cons (.cst (.int 4)) .nil))) (.cst (.int 0))) (.tup (.cons (.cst (.str "num")) (.cons (.call g__law_next (.cons (.var 0) (.cons (.var 12) .nil))) .nil))) (.call g__law_word (.cons (.var 0) (.cons (.cst (.int 1)) (.cons (.var 5) (.cons (.var 6) (.cons (.var 7) .nil))))))))
 (.cons (.expr (.bm .append (.var 8) (.cons (.tup (.cons (.cst (.str "put")) (.cons (.var 11) (.cons (.var 13) (.cons (.call g__law_word (.cons (.var 0) (.cons (.cst (.int 1)) (.cons (.var 5) (.cons (.var 6) (.cons (.var 7) .nil)))))) .nil))))) .nil)))
 .nil)))
def b__law_block_4 : MSs := (.cons (.expr (.bm .append (.var 8) (.cons (.tup (.cons (.cst (.str "if")) (.cons (.call g__law_bit (.cons (.var 0) (.cons (.cst (.int 2)) (.cons (.var 5) (.cons (.var 6) (.cons (.var 7) .nil)))))) (.cons (.call g__law_block (.cons (.var 0) (.cons (.cst (.int 2)) (.cons (.bin .sub false (.var 2) (.cst (.int 1))) (.cons (.var 3) (.cons (.var 4) .nil)))))) (.cons (.call g__law_block (.cons (.var 0) (.cons (.cst (.int 1)) (.cons (.bin .sub false (.var 2) (.cst (.int 1))) (.cons (.var 3) (.cons (.var 4) .nil)))))) .nil))))) .nil)))
 .nil)
def b__law_block_5 : MSs := (.cons (.expr (.bm .append (.var 8) (.cons (.tup (.cons (.cst (.str "while")) (.cons (.call g__law_bit (.cons (.var 0) (.cons (.cst (.int 2)) (.cons (.var 5) (.cons (.var 6) (.cons (.var 7) .nil)))))) (.cons (.call g__law_block (.cons (.var 0) (.cons (.cst (.int 2)) (.cons (.bin .sub false (.var 2) (.cst (.int 1))) (.cons (.var 3) (.cons (.var 4) .nil)))))) .nil)))) .nil)))
 .nil)
def b__law_block_6 : MSs := (.cons (.expr (.bm .append (.var 8) (.cons (.tup (.cons (.cst (.str "call")) (.cons (.ix (.var 4) (.call g__law_next (.cons (.var 0) (.cons (.bi .len false (.cons (.var 4) .nil)) .nil)))) .nil))) .nil)))
 .nil)
def b__law_block_7 : MSs := (.cons (.expr (.bm .append (.var 8) (.cons (.tup (.cons (.cst (.str "stop")) .nil)) .nil)))
 .nil)
def b__law_block_8 : MSs := (.cons (.expr (.bm .append (.var 8) (.cons (.tup (.cons (.cst (.str "show")) (.cons (.call g__law_word (.cons (.var 0) (.cons (.cst (.int 2)) (.cons (.var 5) (.cons (.var 6) (.cons (.var 7) .nil)))))) .nil))) .nil)))
 .nil)
def b__law_block_9 : MSs := (.cons (.ife (.bop true (.cons (.cmp .eq (.var 10) (.cst (.int 8))) (.cons (.cmp .eq (.call g__law_next (.cons (.var 0) (.cons (.cst (.int 4)) .nil))) (.cst (.int 0))) .nil))) b__law_block_7 b__law_block_8)
 .nil)
def b__law_block_10 : MSs := (.cons (.ife (.bop true (.cons (.cmp .eq (.var 10) (.cst (.int 7))) (.cons (.cmp .ne (.var 4) (.lst false .nil)) .nil))) b__law_block_6 b__law_block_9)
 .nil)
def b__law_block_11 : MSs := (.cons (.ife (.bop true (.cons (.cmp .eq (.var 10) (.cst (.int 6))) (.cons (.cmp .gt (.var 2) (.cst (.int 0))) .nil))) b__law_block_5 b__law_block_10)
 .nil)
def b__law_block_12 : MSs := (.cons (.ife (.bop true (.cons (.cmp .eq (.var 10) (.cst (.int 5))) (.cons (.cmp .gt (.var 2) (.cst (.int 0))) .nil))) b__law_block_4 b__law_block_11)
 .nil)
def b__law_block_13 : MSs := (.cons (.ife (.bop true (.cons (.cmp .eq (.var 10) (.cst (.int 4))) (.cons (.cmp .ne (.var 7) (.lst false .nil)) .nil))) b__law_block_3 b__law_block_12)
 .nil)
def b__law_block_14 : MSs := (.cons (.ife (.bop true (.cons (.cmp .eq (.var 10) (.cst (.int 3))) (.cons (.cmp .ne (.var 6) (.lst false .nil)) .nil))) b__law_block_2 b__law_block_13)
 .nil)
def b__law_block_15 : MSs := (.cons (.asg (.nm 10) (.call g__law_next (.cons (.var 0) (.cons (.cst (.int 11)) .nil))))
 (.cons (.ife (.bop true (.cons (.cmp .lt (.var 10) (.cst (.int 3))) (.cons (.cmp .ne (.var 5) (.lst false .nil)) .nil))) b__law_block_1 b__law_block_14)
 .nil))
def b__law_block : MSs := (.cons (.asg (.tp (.cons (.nm 5) (.cons (.nm 6) (.cons (.nm 7) .nil)))) (.var 3))
 (.cons (.asg (.nm 8) (.lst true .nil))
 (.cons (.fr (.nm 9) (.rng1 (.call g__law_next (.cons (.var 0) (.cons (.bin .add false (.var 1) (.cst (.int 1))) .nil)))) b__law_block_15)
 (.cons (.ret (.bi .tuple false (.cons (.var 8) .nil)))
 .nil))))
def n__law_block : List Str := ["tape", "many", "deep", "names", "procs", "words", "bits", "rows", "found", "turn", "kind", "name", "size", "place"]
def f__law_block : Fn := ⟨5, n__law_block, [], b__law_block⟩
/-- _law_program -/
def b__law_program_1 : MSs := (.cons (.asg (.nm 13) (.ife (.cmp .gt (.call g__law_many (.cons (.var 13) .nil)) (.var 14)) (.sl false (.var 13) .no (.some (.un .neg (.cst (.int 1))))) (.var 13)))
 .nil)
def b__law_program_2 : MSs := (.cons (.asg (.nm 11) (.bin .add false (.var 11) (.tup (.cons (.tup (.cons (.var 7) (.cons (.call g__law_block (.cons (.var 0) (.cons (.cst (.int 2)) (.cons (.cst (.int 1)) (.cons (.var 10) (.cons (.lc false (.var 12) (.tp (.cons (.nm 12) (.cons (.nm 13) .nil))) (.val (.var 11)) .nil [12, 13]) .nil)))))) .nil))) .nil))))
 .nil)
def b__law_program : MSs := (.cons (.par [3, 4] (.cons (.sl false (.lst false (.cons (.cst (.str "a")) (.cons (.cst (.str "b")) .nil))) .no (.some (.call g__law_next (.cons (.var 0) (.cons (.cst (.int 3)) .nil))))) (.cons (.sl false (.lst false (.cons (.cst (.str "c")) .nil)) .no (.some (.call g__law_next (.cons (.var 0) (.cons (.cst (.int 2)) .nil))))) .nil)))
 (.cons (.asg (.nm 5) (.ife (.cmp .eq (.call g__law_next (.cons (.var 0) (.cons (.cst (.int 2)) .nil))) (.cst (.int 0))) (.lst false (.cons (.tup (.cons (.cst (.str "r")) (.cons (.bin .add false (.cst (.int 1)) (.call g__law_next (.cons (.var 0) (.cons (.cst (.int 4)) .nil)))) .nil))) .nil)) (.lst false .nil)))
 (.cons (.asg (.nm 6) (.bin .add false (.lc false (.tup (.cons (.cst (.str "word")) (.cons (.var 7) (.cons (.call g__law_next (.cons (.var 0) (.cons (.cst (.int 6)) .nil))) .nil)))) (.nm 7) (.val (.var 3)) .nil [7]) (.lc false (.tup (.cons (.cst (.str "bit")) (.cons (.var 7) (.cons (.call g__law_next (.cons (.var 0) (.cons (.cst (.int 2)) .nil))) .nil)))) (.nm 7) (.val (.var 4)) .nil [7])))
 (.cons (.asg (.nm 6) (.bi .tuple false (.cons (.bin .add false (.var 6) (.lc false (.tup (.cons (.cst (.str "row")) (.cons (.var 7) (.cons (.bi .tuple false (.cons (.lc false (.call g__law_next (.cons (.var 0) (.cons (.cst (.int 9)) .nil))) (.nm 8) (.rng1 (.var 9)) .nil [8]) .nil)) .nil)))) (.tp (.cons (.nm 7) (.cons (.nm 9) .nil))) (.val (.var 5)) .nil [7, 9])) .nil)))
 (.cons (.par [10, 11] (.cons (.tup (.cons (.var 3) (.cons (.var 4) (.cons (.var 5) .nil)))) (.cons (.tup .nil) .nil)))
 (.cons (.fr (.nm 7) (.val (.sl false (.tup (.cons (.cst (.str "p")) (.cons (.cst (.str "q")) .nil))) .no (.some (.call g__law_next (.cons (.var 0) (.cons (.cst (.int 3)) .nil)))))) b__law_program_2)
 (.cons (.par [13, 14] (.cons (.call g__law_block (.cons (.var 0) (.cons (.var 1) (.cons (.var 2) (.cons (.var 10) (.cons (.lc false (.var 7) (.tp (.cons (.nm 7) (.cons (.nm 12) .nil))) (.val (.var 11)) .nil [7, 12]) .nil)))))) (.cons (.bin .sub false (.cst (.int 56)) (.bi .sum false (.cons (.lc false (.call g__law_many (.cons (.var 12) .nil)) (.tp (.cons (.nm 7) (.cons (.nm 12) .nil))) (.val (.var 11)) .nil [7, 12]) .nil))) .nil)))
 (.cons (.fr (.nm 15) (.rng1 (.bi .len false (.cons (.var 13) .nil))) b__law_program_1)
 (.cons (.ret (.tup (.cons (.cst (.str "prog")) (.cons (.var 6) (.cons (.var 11) (.cons (.var 13) .nil))))))
 .nil)))))))))
def n__law_program : List Str := ["tape", "many", "deep", "words", "bits", "rows", "variables", "name", "k", "size", "names", "procs", "one", "body", "left", "turn"]
def f__law_program : Fn := ⟨3, n__law_program, [], b__law_program⟩
/-- _law_many -/
def b__law_many : MSs := (.cons (.ret (.bi .sum false (.cons (.lc false (.bin .add false (.cst (.int 1)) (.bi .sum false (.cons (.lc false (.call g__law_many (.cons (.var 1) .nil)) (.nm 1) (.val (.ife (.cmp .isin (.ix (.var 2) (.cst (.int 0))) (.tup (.cons (.cst (.str "if")) (.cons (.cst (.str "while")) .nil)))) (.sl false (.var 2) (.some (.cst (.int 2))) .no) (.tup .nil))) .nil [1]) .nil))) (.nm 2) (.val (.var 0)) .nil [2]) .nil)))
 .nil)
def n__law_many : List Str := ["block", "part", "one"]
def f__law_many : Fn := ⟨1, n__law_many, [], b__law_many⟩
/-- _law_asked -/
def b__law_asked_1 : MSs := (.cons (.ret (.tup (.cons (.cst (.str "yes")) (.cons (.callv 0 .nil) .nil))))
 .nil)
def b__law_asked : MSs := (.cons (.tr b__law_asked_1 (.cons 1 (some 1) (.tup (.cons (.cst (.str "no")) (.cons (.exp 1) .nil))) (.cons 0 (some 1) (.tup (.cons (.cst (.str "other")) (.cons (.exp 1) .nil))) .nil)))
 .nil)
def n__law_asked : List Str := ["ask", "e"]
def f__law_asked : Fn := ⟨1, n__law_asked, [], b__law_asked⟩
/-- _law_type -/
def b__law_type_1 : MSs := (.cons (.ret (.tup (.cons (.cst (.str "no")) (.cons (.var 2) .nil))))
 .nil)
def b__law_type_2 : MSs := (.cons (.ret (.ife (.bop true (.cons (.cmp .isin (.ix (.var 1) (.cst (.int 1))) (.var 0)) (.cons (.cmp .eq (.ix (.var 0) (.ix (.var 1) (.cst (.int 1)))) (.cst (.str "row"))) (.cons (.cmp .eq (.var 5) (.lst false (.cons (.cst (.str "word")) .nil))) .nil)))) (.tup (.cons (.cst (.str "yes")) (.cons (.cst (.str "word")) .nil))) (.tup (.cons (.cst (.str "no")) (.cons (.var 2) .nil)))))
 .nil)
def b__law_type_3 : MSs := (.cons (.ret (.ife (.bop true (.cons (.cmp .isin (.ix (.var 1) (.cst (.int 1))) (.var 0)) (.cons (.cmp .ne (.ix (.var 0) (.ix (.var 1) (.cst (.int 1)))) (.cst (.str "row"))) .nil))) (.tup (.cons (.cst (.str "yes")) (.cons (.ix (.var 0) (.ix (.var 1) (.cst (.int 1)))) .nil))) (.tup (.cons (.cst (.str "no")) (.cons (.var 2) .nil)))))
 .nil)
def b__law_type_4 : MSs := (.cons (.ret (.tup (.cons (.cst (.str "yes")) (.cons (.ife (.cmp .eq (.var 3) (.cst (.str "num"))) (.cst (.str "word")) (.cst (.str "bit"))) .nil))))
 .nil)
def b__law_type_5 : MSs := (.cons (.ret (.var 7))
 .nil)
def b__law_type_6 : MSs := (.cons (.asg (.nm 7) (.call g__law_type (.cons (.var 0) (.cons (.ix (.var 4) (.var 6)) (.cons (.bin .add false (.var 2) (.tup (.cons (.var 6) .nil))) .nil)))))
 (.cons (.ife (.cmp .eq (.ix (.var 7) (.cst (.int 0))) (.cst (.str "no"))) b__law_type_5 .nil)
 (.cons (.expr (.bm .append (.var 5) (.cons (.ix (.var 7) (.cst (.int 1))) .nil)))
 .nil)))
def b__law_type : MSs := (.cons (.asg (.nm 3) (.ix (.var 1) (.cst (.int 0))))
 (.cons (.asg (.nm 4) (.ife (.cmp .isin (.var 3) (.tup (.cons (.cst (.str "true")) (.cons (.cst (.str "false")) (.cons (.cst (.str "num")) (.cons (.cst (.str "var")) .nil)))))) (.tup .nil) (.ife (.cmp .eq (.var 3) (.cst (.str "at"))) (.sl false (.var 1) (.some (.cst (.int 2))) .no) (.sl false (.var 1) (.some (.cst (.int 1))) .no))))
 (.cons (.asg (.nm 5) (.lst true .nil))
 (.cons (.fr (.nm 6) (.rng1 (.bi .len false (.cons (.var 4) .nil))) b__law_type_6)
 (.cons (.ife (.cmp .isin (.var 3) (.tup (.cons (.cst (.str "true")) (.cons (.cst (.str "false")) (.cons (.cst (.str "num")) .nil))))) b__law_type_4 .nil)
 (.cons (.ife (.cmp .eq (.var 3) (.cst (.str "var"))) b__law_type_3 .nil)
 (.cons (.ife (.cmp .eq (.var 3) (.cst (.str "at"))) b__law_type_2 .nil)
 (.cons (.asg (.nm 8) (.ife (.cmp .isin (.var 3) (.tup (.cons (.cst (.str "not")) (.cons (.cst (.str "both")) (.cons (.cst (.str "either")) .nil))))) (.cst (.str "bit")) (.cst (.str "word"))))
 (.cons (.ife (.cmp .ne (.lc false (.var 7) (.nm 7) (.val (.var 5)) (.cons (.cmp .ne (.var 7) (.var 8)) .nil) [7]) (.lst false .nil)) b__law_type_1 .nil)
 (.cons (.ret (.tup (.cons (.cst (.str "yes")) (.cons (.ife (.cmp .isin (.var 3) (.tup (.cons (.cst (.str "add")) (.cons (.cst (.str "sub")) (.cons (.cst (.str "and")) (.cons (.cst (.str "or")) (.cons (.cst (.str "xor")) .nil))))))) (.cst (.str "word")) (.cst (.str "bit"))) .nil))))
 .nil))))))))))
def n__law_type : List Str := ["kinds", "expression", "path", "kind", "parts", "told", "k", "one", "due"]
def f__law_type : Fn := ⟨3, n__law_type, [], b__law_type⟩
/-- _law_wrong -/
def b__law_wrong_1 : MSs := (.cons (.ret (.tup (.cons (.cst (.str "type")) (.cons (.var 6) .nil))))
 .nil)
def b__law_wrong_2 : MSs := (.cons (.ret (.tup (.cons (.cst (.str "part")) (.cons (.var 6) (.cons (.ix (.var 7) (.cst (.int 1))) .nil)))))
 .nil)
def b__law_wrong_3 : MSs := (.cons (.asg (.nm 7) (.call g__law_type (.cons (.var 0) (.cons (.ix (.var 4) (.var 6)) (.cons (.tup .nil) .nil)))))
 (.cons (.ife (.cmp .eq (.ix (.var 7) (.cst (.int 0))) (.cst (.str "no"))) b__law_wrong_2 .nil)
 (.cons (.ife (.cmp .ne (.ix (.var 7) (.cst (.int 1))) (.ix (.var 5) (.var 6))) b__law_wrong_1 .nil)
 .nil)))
def b__law_wrong_4 : MSs := (.cons (.asg (.nm 5) (.lst false (.cons (.cst (.str "word")) .nil)))
 .nil)
def b__law_wrong_5 : MSs := (.cons (.ret (.tup (.cons (.cst (.str "name")) (.cons (.ix (.var 1) (.cst (.int 1))) .nil))))
 .nil)
def b__law_wrong_6 : MSs := (.cons (.ife (.bop false (.cons (.cmp .notin (.ix (.var 1) (.cst (.int 1))) (.var 0)) (.cons (.cmp .ne (.cmp .eq (.ix (.var 0) (.ix (.var 1) (.cst (.int 1)))) (.cst (.str "row"))) (.cmp .eq (.var 3) (.cst (.str "put")))) .nil))) b__law_wrong_5 .nil)
 (.cons (.par [4, 5] (.cons (.sl false (.var 1) (.some (.cst (.int 2))) .no) (.cons (.ife (.cmp .eq (.var 3) (.cst (.str "put"))) (.lst false (.cons (.cst (.str "word")) (.cons (.cst (.str "word")) .nil))) (.lst false (.cons (.ix (.var 0) (.ix (.var 1) (.cst (.int 1)))) .nil))) .nil)))
 .nil))
def b__law_wrong_7 : MSs := (.cons (.ret (.ife (.cmp .isin (.ix (.var 1) (.cst (.int 1))) (.var 2)) (.cst (.non)) (.tup (.cons (.cst (.str "call")) (.cons (.ix (.var 1) (.cst (.int 1))) .nil)))))
 .nil)
def b__law_wrong_8 : MSs := (.cons (.ret (.cst (.non)))
 .nil)
def b__law_wrong : MSs := (.cons (.par [3, 4, 5] (.cons (.ix (.var 1) (.cst (.int 0))) (.cons (.sl false (.var 1) (.some (.cst (.int 1))) (.some (.cst (.int 2)))) (.cons (.lst false (.cons (.cst (.str "bit")) .nil)) .nil))))
 (.cons (.ife (.cmp .eq (.var 3) (.cst (.str "stop"))) b__law_wrong_8 .nil)
 (.cons (.ife (.cmp .eq (.var 3) (.cst (.str "call"))) b__law_wrong_7 .nil)
 (.cons (.ife (.cmp .isin (.var 3) (.tup (.cons (.cst (.str "set")) (.cons (.cst (.str "put")) .nil)))) b__law_wrong_6 .nil)
 (.cons (.ife (.cmp .eq (.var 3) (.cst (.str "show"))) b__law_wrong_4 .nil)
 (.cons (.fr (.nm 6) (.rng1 (.bi .len false (.cons (.var 4) .nil))) b__law_wrong_3)
 (.cons (.ret (.cst (.non)))
 .nil)))))))
def n__law_wrong : List Str := ["kinds", "statement", "before", "kind", "parts", "dues", "k", "told"]
def f__law_wrong : Fn := ⟨3, n__law_wrong, [], b__law_wrong⟩
/-- _law_fault -/
def b__law_fault_1 : MSs := (.cons (.ret (.var 8))
 .nil)
def b__law_fault_2 : MSs := (.cons (.asg (.nm 8) (.call g__law_fault (.cons (.var 0) (.cons (.ix (.var 6) (.var 7)) (.cons (.var 2) (.cons (.bin .add false (.var 3) (.tup (.cons (.var 4) (.cons (.var 7) .nil)))) .nil))))))
 (.cons (.ife (.cmp .isnot (.var 8) (.cst (.non))) b__law_fault_1 .nil)
 .nil))
def b__law_fault_3 : MSs := (.cons (.ret (.tup (.cons (.bin .add false (.var 3) (.tup (.cons (.var 4) .nil))) (.cons (.var 5) .nil))))
 .nil)
def b__law_fault_4 : MSs := (.cons (.asg (.nm 5) (.call g__law_wrong (.cons (.var 0) (.cons (.ix (.var 1) (.var 4)) (.cons (.var 2) .nil)))))
 (.cons (.ife (.cmp .isnot (.var 5) (.cst (.non))) b__law_fault_3 .nil)
 (.cons (.asg (.nm 6) (.ife (.cmp .isin (.ix (.ix (.var 1) (.var 4)) (.cst (.int 0))) (.tup (.cons (.cst (.str "if")) (.cons (.cst (.str "while")) .nil)))) (.sl false (.ix (.var 1) (.var 4)) (.some (.cst (.int 2))) .no) (.tup .nil)))
 (.cons (.fr (.nm 7) (.rng1 (.bi .len false (.cons (.var 6) .nil))) b__law_fault_2)
 .nil))))
def b__law_fault : MSs := (.cons (.fr (.nm 4) (.rng1 (.bi .len false (.cons (.var 1) .nil))) b__law_fault_4)
 (.cons (.ret (.cst (.non)))
 .nil))
def n__law_fault : List Str := ["kinds", "block", "before", "path", "k", "wrong", "inner", "j", "found"]
def f__law_fault : Fn := ⟨4, n__law_fault, [], b__law_fault⟩
/-- _law_first -/
def b__law_first_1 : MSs := (.cons (.ret (.bin .add false (.tup (.cons (.var 4) .nil)) (.var 6)))
 .nil)
def b__law_first_2 : MSs := (.cons (.asg (.nm 6) (.call g__law_fault (.cons (.var 1) (.cons (.var 5) (.cons (.var 2) (.cons (.tup .nil) .nil))))))
 (.cons (.ife (.cmp .isnot (.var 6) (.cst (.non))) b__law_first_1 .nil)
 (.cons (.expr (.bm .append (.var 2) (.cons (.var 4) .nil)))
 .nil)))
def b__law_first : MSs := (.cons (.par [1, 2] (.cons (.bi .dict false (.cons (.lc false (.tup (.cons (.ix (.var 3) (.cst (.int 1))) (.cons (.ix (.var 3) (.cst (.int 0))) .nil))) (.nm 3) (.val (.ix (.var 0) (.cst (.int 1)))) .nil [3]) .nil)) (.cons (.lst true .nil) .nil)))
 (.cons (.fr (.tp (.cons (.nm 4) (.cons (.nm 5) .nil))) (.val (.bin .add false (.ix (.var 0) (.cst (.int 2))) (.tup (.cons (.tup (.cons (.cst (.non)) (.cons (.ix (.var 0) (.cst (.int 3))) .nil))) .nil)))) b__law_first_2)
 (.cons (.ret (.cst (.non)))
 .nil)))
def n__law_first : List Str := ["parts", "kinds", "before", "row", "name", "body", "found"]
def f__law_first : Fn := ⟨1, n__law_first, [], b__law_first⟩
/-- _law_odd -/
def b__law_odd : MSs := (.cons (.asg (.nm 1) (.ix (.tup (.cons (.tup (.cons (.cst (.str "var")) (.cons (.cst (.str "zz")) .nil))) (.cons (.tup (.cons (.cst (.str "var")) (.cons (.cst (.str "r")) .nil))) (.cons (.tup (.cons (.cst (.str "true")) .nil)) (.cons (.tup (.cons (.cst (.str "num")) (.cons (.cst (.int 3)) .nil))) (.cons (.tup (.cons (.cst (.str "at")) (.cons (.cst (.str "a")) (.cons (.tup (.cons (.cst (.str "num")) (.cons (.cst (.int 0)) .nil))) .nil)))) (.cons (.tup (.cons (.cst (.str "at")) (.cons (.cst (.str "r")) (.cons (.tup (.cons (.cst (.str "false")) .nil)) .nil)))) (.cons (.tup (.cons (.cst (.str "var")) (.cons (.cst (.str "c")) .nil))) (.cons (.tup (.cons (.cst (.str "at")) (.cons (.cst (.str "r")) (.cons (.tup (.cons (.cst (.str "num")) (.cons (.cst (.int 0)) .nil))) .nil)))) .nil))))))))) (.call g__law_next (.cons (.var 0) (.cons (.cst (.int 8)) .nil)))))
 (.cons (.ret (.ix (.tup (.cons (.var 1) (.cons (.tup (.cons (.cst (.str "add")) (.cons (.tup (.cons (.cst (.str "num")) (.cons (.cst (.int 1)) .nil))) (.cons (.var 1) .nil)))) (.cons (.tup (.cons (.cst (.str "not")) (.cons (.var 1) .nil))) (.cons (.tup (.cons (.cst (.str "both")) (.cons (.var 1) (.cons (.tup (.cons (.cst (.str "less")) (.cons (.tup (.cons (.cst (.str "num")) (.cons (.cst (.int 1)) .nil))) (.cons (.var 1) .nil)))) .nil)))) .nil))))) (.call g__law_next (.cons (.var 0) (.cons (.cst (.int 4)) .nil)))))
 .nil))
def n__law_odd : List Str := ["tape", "one"]
def f__law_odd : Fn := ⟨1, n__law_odd, [], b__law_odd⟩
/-- _law_bent -/
def b__law_bent : MSs := (.cons (.asg (.nm 2) (.call g__law_next (.cons (.var 0) (.cons (.bin .add false (.bi .len false (.cons (.var 1) .nil)) (.cst (.int 1))) .nil))))
 (.cons (.asg (.nm 3) (.call g__law_odd (.cons (.var 0) .nil)))
 (.cons (.par [4, 5, 6] (.cons (.ix (.tup (.cons (.cst (.str "a")) (.cons (.cst (.str "c")) (.cons (.cst (.str "r")) (.cons (.cst (.str "zz")) .nil))))) (.call g__law_next (.cons (.var 0) (.cons (.cst (.int 4)) .nil)))) (.cons (.ix (.tup (.cons (.cst (.str "r")) (.cons (.cst (.str "a")) .nil))) (.call g__law_next (.cons (.var 0) (.cons (.cst (.int 2)) .nil)))) (.cons (.ix (.tup (.cons (.cst (.str "p")) (.cons (.cst (.str "q")) (.cons (.cst (.str "zz")) .nil)))) (.call g__law_next (.cons (.var 0) (.cons (.cst (.int 3)) .nil)))) .nil))))
 (.cons (.asg (.nm 7) (.lst false (.cons (.tup (.cons (.cst (.str "show")) (.cons (.var 3) .nil))) (.cons (.tup (.cons (.cst (.str "set")) (.cons (.var 4) (.cons (.var 3) .nil)))) (.cons (.tup (.cons (.cst (.str "put")) (.cons (.var 5) (.cons (.var 3) (.cons (.tup (.cons (.cst (.str "num")) (.cons (.cst (.int 1)) .nil))) .nil))))) (.cons (.tup (.cons (.cst (.str "put")) (.cons (.cst (.str "r")) (.cons (.tup (.cons (.cst (.str "num")) (.cons (.cst (.int 0)) .nil))) (.cons (.var 3) .nil))))) (.cons (.tup (.cons (.cst (.str "if")) (.cons (.var 3) (.cons (.tup .nil) (.cons (.tup (.cons (.tup (.cons (.cst (.str "show")) (.cons (.var 3) .nil))) .nil)) .nil))))) .nil)))))))
 (.cons (.asg (.nm 7) (.ix (.bin .add false (.var 7) (.lst false (.cons (.tup (.cons (.cst (.str "while")) (.cons (.var 3) (.cons (.tup (.cons (.tup (.cons (.cst (.str "call")) (.cons (.cst (.str "zz")) .nil))) .nil)) .nil)))) (.cons (.tup (.cons (.cst (.str "call")) (.cons (.var 6) .nil))) (.cons (.tup (.cons (.cst (.str "while")) (.cons (.tup (.cons (.cst (.str "true")) .nil)) (.cons (.tup (.cons (.tup (.cons (.cst (.str "show")) (.cons (.var 3) .nil))) .nil)) .nil)))) .nil))))) (.call g__law_next (.cons (.var 0) (.cons (.cst (.int 8)) .nil)))))
 (.cons (.ret (.bin .add false (.bin .add false (.sl false (.var 1) .no (.some (.var 2))) (.tup (.cons (.var 7) .nil))) (.sl false (.var 1) (.some (.var 2)) .no)))
 .nil))))))
def n__law_bent : List Str := ["tape", "block", "at", "odd", "name", "row", "called", "new"]
def f__law_bent : Fn := ⟨2, n__law_bent, [], b__law_bent⟩
/-- law -/
def b_law_1 : MSs := (.cons (.ret (.cst (.bl false)))
 .nil)
def b_law_2 : MSs := (.cons (.asg (.nm 5) (.call g__law_bent (.cons (.var 1) (.cons (.var 5) .nil))))
 .nil)
def b_law_3 : MSs := (.cons (.asg (.nm 6) (.call g__law_next (.cons (.var 1) (.cons (.bi .len false (.cons (.var 4) .nil)) .nil))))
 (.cons (.asg (.nm 4) (.bin .add false (.bin .add false (.sl false (.var 4) .no (.some (.var 6))) (.tup (.cons (.tup (.cons (.ix (.ix (.var 4) (.var 6)) (.cst (.int 0))) (.cons (.call g__law_bent (.cons (.var 1) (.cons (.ix (.ix (.var 4) (.var 6)) (.cst (.int 1))) .nil))) .nil))) .nil))) (.sl false (.var 4) (.some (.bin .add false (.var 6) (.cst (.int 1)))) .no)))
 .nil))
def b_law_4 : MSs := (.cons (.asg (.nm 5) (.call g__law_bent (.cons (.var 1) (.cons (.var 5) .nil))))
 .nil)
def b_law_5 : MSs := (.cons (.par [4, 5] (.cons (.ix (.var 2) (.cst (.int 2))) (.cons (.ix (.var 2) (.cst (.int 3))) .nil)))
 (.cons (.ife (.bop true (.cons (.cmp .ne (.var 4) (.tup .nil)) (.cons (.cmp .eq (.call g__law_next (.cons (.var 1) (.cons (.cst (.int 3)) .nil))) (.cst (.int 0))) .nil))) b_law_3 b_law_4)
 (.cons (.ife (.cmp .eq (.call g__law_next (.cons (.var 1) (.cons (.cst (.int 2)) .nil))) (.cst (.int 0))) b_law_2 .nil)
 (.cons (.asg (.nm 7) (.tup (.cons (.ix (.var 2) (.cst (.int 0))) (.cons (.ix (.var 2) (.cst (.int 1))) (.cons (.var 4) (.cons (.var 5) .nil))))))
 (.cons (.asg (.tp (.cons (.nm 8) (.cons (.nm 9) .nil))) (.tup (.cons (.make 0 (.cons (.ix (.var 2) (.cst (.int 0))) (.cons (.ix (.var 2) (.cst (.int 1))) (.cons (.var 4) (.cons (.var 5) .nil))))) (.cons (.call g__law_first (.cons (.var 7) .nil)) .nil))))
 (.cons (.ife (.not (.val (.call g__law_same (.cons (.lst false (.cons (.call g_program_fault (.cons (.var 8) .nil)) (.cons (.call g__law_asked (.cons (.lam 0 [8] ["program"] (.call g_check_program (.cons (.var 0) .nil))) .nil)) .nil))) (.cons (.lst false (.cons (.var 9) (.cons (.ife (.cmp .is (.var 9) (.cst (.non))) (.tup (.cons (.cst (.str "yes")) (.cons (.cst (.non)) .nil))) (.tup (.cons (.cst (.str "no")) (.cons (.var 9) .nil)))) .nil))) .nil))))) b_law_1 .nil)
 .nil))))))
def b_law_6 : MSs := (.cons (.ret (.cst (.bl false)))
 .nil)
def b_law : MSs := (.cons (.asg (.nm 1) (.lst true (.cons (.bi .list false (.cons (.var 0) .nil)) (.cons (.cst (.int 0)) (.cons (.cst (.int 0)) (.cons (.cst (.int 5)) .nil))))))
 (.cons (.asg (.nm 2) (.call g__law_program (.cons (.var 1) (.cons (.cst (.int 4)) (.cons (.cst (.int 2)) .nil)))))
 (.cons (.ife (.cmp .isnot (.call g_program_fault (.cons (.make 0 (.cons (.ix (.var 2) (.cst (.int 0))) (.cons (.ix (.var 2) (.cst (.int 1))) (.cons (.ix (.var 2) (.cst (.int 2))) (.cons (.ix (.var 2) (.cst (.int 3))) .nil))))) .nil)) (.cst (.non))) b_law_6 .nil)
 (.cons (.fr (.nm 3) (.rng1 (.cst (.int 4))) b_law_5)
 (.cons (.asg (.nm 8) (.make 0 (.cons (.ix (.var 2) (.cst (.int 0))) (.cons (.ix (.var 2) (.cst (.int 1))) (.cons (.ix (.var 2) (.cst (.int 2))) (.cons (.ix (.var 2) (.cst (.int 3))) .nil))))))
 (.cons (.asg (.tp (.cons (.nm 10) (.cons (.nm 11) .nil))) (.tup (.cons (.bi .dict false (.cons (.lc false (.tup (.cons (.ix (.var 12) (.cst (.int 1))) (.cons (.ix (.var 12) (.cst (.int 0))) .nil))) (.nm 12) (.val (.ix (.var 2) (.cst (.int 1)))) .nil [12]) .nil)) (.cons (.call g__law_odd (.cons (.var 1) .nil)) .nil))))
 (.cons (.ret (.call g__law_same (.cons (.call g__law_asked (.cons (.lam 0 [11, 8] ["odd", "program"] (.call g_type_of (.cons (.var 1) (.cons (.var 0) .nil)))) .nil)) (.cons (.call g__law_type (.cons (.var 10) (.cons (.var 11) (.cons (.tup .nil) .nil)))) .nil))))
 .nil)))))))
def n_law : List Str := ["script", "tape", "parts", "turn", "procs", "body", "k", "bent", "program", "due", "kinds", "odd", "row"]
def f_law : Fn := ⟨1, n_law, [], b_law⟩
/-- Program.__init__ -/
def b_Program___init___1 : MSs := (.cons (.rse 1 (.tup (.cons (.cst (.str "size")) (.cons (.cst (.non)) .nil))))
 .nil)
def b_Program___init___2 : MSs := (.cons (.rse 1 (.tup (.cons (.cst (.str "body")) (.cons (.cst (.non)) .nil))))
 .nil)
def b_Program___init___3 : MSs := (.cons (.rse 1 (.tup (.cons (.cst (.str "var")) (.cons (.ix (.var 5) (.glc "MOST_ROWS" (.int 2))) .nil))))
 .nil)
def b_Program___init___4 : MSs := (.cons (.rse 1 (.tup (.cons (.cst (.str "name")) (.cons (.cst (.non)) .nil))))
 .nil)
def b_Program___init__ : MSs := (.cons (.ife (.not (.val (.call g_is_name (.cons (.var 1) .nil)))) b_Program___init___4 .nil)
 (.cons (.expr (.call g_check_program_rows (.cons (.cst (.str "var")) (.cons (.var 2) (.cons (.fnv g_is_variable) (.cons (.lam 1 [] ["row"] (.ix (.var 0) (.cst (.int 1)))) (.cons (.glc "MOST_VARS" (.int 10)) .nil)))))))
 (.cons (.expr (.call g_check_program_rows (.cons (.cst (.str "proc")) (.cons (.var 3) (.cons (.fnv g_is_procedure) (.cons (.lam 1 [] ["row"] (.ix (.var 0) (.cst (.int 0)))) (.cons (.glc "MOST_PROCS" (.int 4)) .nil)))))))
 (.cons (.asg (.nm 5) (.lc false (.var 6) (.nm 6) (.rng1 (.bi .len false (.cons (.var 2) .nil))) (.cons (.cmp .eq (.ix (.ix (.var 2) (.var 6)) (.cst (.int 0))) (.cst (.str "row"))) .nil) [6]))
 (.cons (.ife (.cmp .gt (.bi .len false (.cons (.var 5) .nil)) (.glc "MOST_ROWS" (.int 2))) b_Program___init___3 .nil)
 (.cons (.ife (.not (.val (.call g_is_block (.cons (.var 4) .nil)))) b_Program___init___2 .nil)
 (.cons (.ife (.cmp .gt (.bin .add false (.call g_statement_count (.cons (.var 4) .nil)) (.bi .sum false (.cons (.lc false (.call g_statement_count (.cons (.var 7) .nil)) (.tp (.cons (.nm 1) (.cons (.nm 7) .nil))) (.val (.var 3)) .nil [1, 7]) .nil))) (.glc "MOST_STATEMENTS" (.int 60))) b_Program___init___1 .nil)
 (.cons (.asg (.at "name" (.var 0)) (.var 1))
 (.cons (.asg (.at "variables" (.var 0)) (.var 2))
 (.cons (.asg (.at "procs" (.var 0)) (.var 3))
 (.cons (.asg (.at "body" (.var 0)) (.var 4))
 .nil)))))))))))
def n_Program___init__ : List Str := ["self", "name", "variables", "procs", "body", "rows", "k", "one"]
def f_Program___init__ : Fn := ⟨5, n_Program___init__, [], b_Program___init__⟩
/-- Program.parts -/
def b_Program_parts : MSs := (.cons (.ret (.tup (.cons (.fld "name" (.var 0)) (.cons (.fld "variables" (.var 0)) (.cons (.fld "procs" (.var 0)) (.cons (.fld "body" (.var 0)) .nil))))))
 .nil)
def n_Program_parts : List Str := ["self"]
def f_Program_parts : Fn := ⟨1, n_Program_parts, [], b_Program_parts⟩
def fns : List Fn := [f_is_count, f_is_word, f_is_byte, f_are_bytes, f_is_name, f_is_expression, f_is_expression_head, f_expression_parts, f_is_statement, f_is_block, f_is_variable, f_is_procedure, f_blocks_of, f_statement_count, f_check_program_rows, f_variable_of, f_bodies_of, f_type_of, f_type_at, f_type_made, f_statement_fault, f_parts_fault, f_body_fault, f_program_fault, f_check_program, f__law_next, f__law_same, f__law_word, f__law_bit, f__law_block, f__law_program, f__law_many, f__law_asked, f__law_type, f__law_wrong, f__law_fault, f__law_first, f__law_odd, f__law_bent, f_law, f_Program___init__, f_Program_parts]
def clss : List Cls := [⟨some 40, [(("parts" : Str), 41)], ["name", "variables", "procs", "body"]⟩]
def csts : List (Str × D) := [(("BYTE" : Str), .int 256),
 (("SUMS" : Str), .tup [.str "add", .str "sub", .str "and", .str "or", .str "xor"]),
 (("TESTS" : Str), .tup [.str "less", .str "same"]),
 (("BOTHS" : Str), .tup [.str "both", .str "either"]),
 (("KEPT" : Str), .tup [.str "program", .str "word", .str "bit", .str "row", .str "proc", .str "show", .str "if", .str "else", .str "while", .str "call", .str "stop", .str "true", .str "false"]),
 (("MOST_VARS" : Str), .int 10),
 (("MOST_ROWS" : Str), .int 2),
 (("MOST_PROCS" : Str), .int 4),
 (("MOST_BLOCK" : Str), .int 12),
 (("MOST_STATEMENTS" : Str), .int 60),
 (("MOST_NESTED" : Str), .int 6),
 (("MOST_PARTS" : Str), .int 24)]
def below (c h : Nat) : Bool := (c == 0 && h == 0) || (c == 1 && h == 1) || (c == 1 && h == 0)
def prg : Prg := ⟨fns, clss, csts, below, 2, 1000⟩
theorem call_is_count_1 (n : Nat) (x0 : D) (M : Hm) : (rt prg (n + 1)).call g_is_count [some x0] [] M = (execs prg (rt prg n) [] b_is_count [some x0] M).res := rfl
theorem call_is_word_2 (n : Nat) (x0 : D) (x1 : D) (M : Hm) : (rt prg (n + 1)).call g_is_word [some x0, some x1] [] M = (execs prg (rt prg n) [] b_is_word [some x0, some x1] M).res := rfl
theorem call_is_byte_1 (n : Nat) (x0 : D) (M : Hm) : (rt prg (n + 1)).call g_is_byte [some x0] [] M = (execs prg (rt prg n) [] b_is_byte [some x0] M).res := rfl
theorem call_are_bytes_1 (n : Nat) (x0 : D) (M : Hm) : (rt prg (n + 1)).call g_are_bytes [some x0] [] M = (execs prg (rt prg n) [] b_are_bytes [some x0, none] M).res := rfl
theorem call_is_name_1 (n : Nat) (x0 : D) (M : Hm) : (rt prg (n + 1)).call g_is_name [some x0] [] M = (execs prg (rt prg n) [] b_is_name [some x0, none] M).res := rfl
theorem call_is_expression_1 (n : Nat) (x0 : D) (M : Hm) : (rt prg (n + 1)).call g_is_expression [some x0] [] M = (execs prg (rt prg n) [] b_is_expression [some x0, none, none, none, none, none] M).res := rfl
theorem call_is_expression_head_1 (n : Nat) (x0 : D) (M : Hm) : (rt prg (n + 1)).call g_is_expression_head [some x0] [] M = (execs prg (rt prg n) [] b_is_expression_head [some x0, none, none] M).res := rfl
theorem call_expression_parts_1 (n : Nat) (x0 : D) (M : Hm) : (rt prg (n + 1)).call g_expression_parts [some x0] [] M = (execs prg (rt prg n) [] b_expression_parts [some x0] M).res := rfl
theorem call_is_statement_1 (n : Nat) (x0 : D) (M : Hm) : (rt prg (n + 1)).call g_is_statement [some x0] [] M = (execs prg (rt prg n) [] b_is_statement [some x0, some (.int 1), none, none] M).res := rfl
theorem call_is_statement_2 (n : Nat) (x0 : D) (x1 : D) (M : Hm) : (rt prg (n + 1)).call g_is_statement [some x0, some x1] [] M = (execs prg (rt prg n) [] b_is_statement [some x0, some x1, none, none] M).res := rfl
theorem call_is_block_1 (n : Nat) (x0 : D) (M : Hm) : (rt prg (n + 1)).call g_is_block [some x0] [] M = (execs prg (rt prg n) [] b_is_block [some x0, some (.int 1), none] M).res := rfl
theorem call_is_block_2 (n : Nat) (x0 : D) (x1 : D) (M : Hm) : (rt prg (n + 1)).call g_is_block [some x0, some x1] [] M = (execs prg (rt prg n) [] b_is_block [some x0, some x1, none] M).res := rfl
theorem call_is_variable_1 (n : Nat) (x0 : D) (M : Hm) : (rt prg (n + 1)).call g_is_variable [some x0] [] M = (execs prg (rt prg n) [] b_is_variable [some x0] M).res := rfl
theorem call_is_procedure_1 (n : Nat) (x0 : D) (M : Hm) : (rt prg (n + 1)).call g_is_procedure [some x0] [] M = (execs prg (rt prg n) [] b_is_procedure [some x0] M).res := rfl
theorem call_blocks_of_1 (n : Nat) (x0 : D) (M : Hm) : (rt prg (n + 1)).call g_blocks_of [some x0] [] M = (execs prg (rt prg n) [] b_blocks_of [some x0] M).res := rfl
theorem call_statement_count_1 (n : Nat) (x0 : D) (M : Hm) : (rt prg (n + 1)).call g_statement_count [some x0] [] M = (execs prg (rt prg n) [] b_statement_count [some x0, none, none] M).res := rfl
theorem call_variable_of_2 (n : Nat) (x0 : D) (x1 : D) (M : Hm) : (rt prg (n + 1)).call g_variable_of [some x0, some x1] [] M = (execs prg (rt prg n) [] b_variable_of [some x0, some x1, none] M).res := rfl
theorem call_bodies_of_1 (n : Nat) (x0 : D) (M : Hm) : (rt prg (n + 1)).call g_bodies_of [some x0] [] M = (execs prg (rt prg n) [] b_bodies_of [some x0] M).res := rfl
theorem call_type_of_2 (n : Nat) (x0 : D) (x1 : D) (M : Hm) : (rt prg (n + 1)).call g_type_of [some x0, some x1] [] M = (execs prg (rt prg n) [] b_type_of [some x0, some x1] M).res := rfl
theorem call_type_at_3 (n : Nat) (x0 : D) (x1 : D) (x2 : D) (M : Hm) : (rt prg (n + 1)).call g_type_at [some x0, some x1, some x2] [] M = (execs prg (rt prg n) [] b_type_at [some x0, some x1, some x2, none, none, none, none] M).res := rfl
theorem call_type_made_3 (n : Nat) (x0 : D) (x1 : D) (x2 : D) (M : Hm) : (rt prg (n + 1)).call g_type_made [some x0, some x1, some x2] [] M = (execs prg (rt prg n) [] b_type_made [some x0, some x1, some x2, none, none, none, none] M).res := rfl
theorem call_statement_fault_3 (n : Nat) (x0 : D) (x1 : D) (x2 : D) (M : Hm) : (rt prg (n + 1)).call g_statement_fault [some x0, some x1, some x2] [] M = (execs prg (rt prg n) [] b_statement_fault [some x0, some x1, some x2, none, none, none] M).res := rfl
theorem call_parts_fault_3 (n : Nat) (x0 : D) (x1 : D) (x2 : D) (M : Hm) : (rt prg (n + 1)).call g_parts_fault [some x0, some x1, some x2] [] M = (execs prg (rt prg n) [] b_parts_fault [some x0, some x1, some x2, none, none, none] M).res := rfl
theorem call_body_fault_4 (n : Nat) (x0 : D) (x1 : D) (x2 : D) (x3 : D) (M : Hm) : (rt prg (n + 1)).call g_body_fault [some x0, some x1, some x2, some x3] [] M = (execs prg (rt prg n) [] b_body_fault [some x0, some x1, some x2, some x3, none, none, none] M).res := rfl
theorem call_program_fault_1 (n : Nat) (x0 : D) (M : Hm) : (rt prg (n + 1)).call g_program_fault [some x0] [] M = (execs prg (rt prg n) [] b_program_fault [some x0, none, none, none, none] M).res := rfl
theorem call_check_program_1 (n : Nat) (x0 : D) (M : Hm) : (rt prg (n + 1)).call g_check_program [some x0] [] M = (execs prg (rt prg n) [] b_check_program [some x0, none] M).res := rfl
theorem call__law_next_2 (n : Nat) (x0 : D) (x1 : D) (M : Hm) : (rt prg (n + 1)).call g__law_next [some x0, some x1] [] M = (execs prg (rt prg n) [] b__law_next [some x0, some x1, none, none] M).res := rfl
theorem call__law_same_2 (n : Nat) (x0 : D) (x1 : D) (M : Hm) : (rt prg (n + 1)).call g__law_same [some x0, some x1] [] M = (execs prg (rt prg n) [] b__law_same [some x0, some x1, none] M).res := rfl
theorem call__law_word_5 (n : Nat) (x0 : D) (x1 : D) (x2 : D) (x3 : D) (x4 : D) (M : Hm) : (rt prg (n + 1)).call g__law_word [some x0, some x1, some x2, some x3, some x4] [] M = (execs prg (rt prg n) [] b__law_word [some x0, some x1, some x2, some x3, some x4, none, none, none, none, none] M).res := rfl
theorem call__law_bit_5 (n : Nat) (x0 : D) (x1 : D) (x2 : D) (x3 : D) (x4 : D) (M : Hm) : (rt prg (n + 1)).call g__law_bit [some x0, some x1, some x2, some x3, some x4] [] M = (execs prg (rt prg n) [] b__law_bit [some x0, some x1, some x2, some x3, some x4, none] M).res := rfl
theorem call__law_block_5 (n : Nat) (x0 : D) (x1 : D) (x2 : D) (x3 : D) (x4 : D) (M : Hm) : (rt prg (n + 1)).call g__law_block [some x0, some x1, some x2, some x3, some x4] [] M = (execs prg (rt prg n) [] b__law_block [some x0, some x1, some x2, some x3, some x4, none, none, none, none, none, none, none, none, none] M).res := rfl
theorem call__law_program_3 (n : Nat) (x0 : D) (x1 : D) (x2 : D) (M : Hm) : (rt prg (n + 1)).call g__law_program [some x0, some x1, some x2] [] M = (execs prg (rt prg n) [] b__law_program [some x0, some x1, some x2, none, none, none, none, none, none, none, none, none, none, none, none, none] M).res := rfl
theorem call__law_many_1 (n : Nat) (x0 : D) (M : Hm) : (rt prg (n + 1)).call g__law_many [some x0] [] M = (execs prg (rt prg n) [] b__law_many [some x0, none, none] M).res := rfl
theorem call__law_type_3 (n : Nat) (x0 : D) (x1 : D) (x2 : D) (M : Hm) : (rt prg (n + 1)).call g__law_type [some x0, some x1, some x2] [] M = (execs prg (rt prg n) [] b__law_type [some x0, some x1, some x2, none, none, none, none, none, none] M).res := rfl
theorem call__law_wrong_3 (n : Nat) (x0 : D) (x1 : D) (x2 : D) (M : Hm) : (rt prg (n + 1)).call g__law_wrong [some x0, some x1, some x2] [] M = (execs prg (rt prg n) [] b__law_wrong [some x0, some x1, some x2, none, none, none, none, none] M).res := rfl
theorem call__law_fault_4 (n : Nat) (x0 : D) (x1 : D) (x2 : D) (x3 : D) (M : Hm) : (rt prg (n + 1)).call g__law_fault [some x0, some x1, some x2, some x3] [] M = (execs prg (rt prg n) [] b__law_fault [some x0, some x1, some x2, some x3, none, none, none, none, none] M).res := rfl
theorem call__law_first_1 (n : Nat) (x0 : D) (M : Hm) : (rt prg (n + 1)).call g__law_first [some x0] [] M = (execs prg (rt prg n) [] b__law_first [some x0, none, none, none, none, none, none] M).res := rfl
theorem call__law_odd_1 (n : Nat) (x0 : D) (M : Hm) : (rt prg (n + 1)).call g__law_odd [some x0] [] M = (execs prg (rt prg n) [] b__law_odd [some x0, none] M).res := rfl
theorem call__law_bent_2 (n : Nat) (x0 : D) (x1 : D) (M : Hm) : (rt prg (n + 1)).call g__law_bent [some x0, some x1] [] M = (execs prg (rt prg n) [] b__law_bent [some x0, some x1, none, none, none, none, none, none] M).res := rfl
theorem call_law_1 (n : Nat) (x0 : D) (M : Hm) : (rt prg (n + 1)).call g_law [some x0] [] M = (execs prg (rt prg n) [] b_law [some x0, none, none, none, none, none, none, none, none, none, none, none, none] M).res := rfl
theorem call_Program___init___5 (n : Nat) (x0 : D) (x1 : D) (x2 : D) (x3 : D) (x4 : D) (M : Hm) : (rt prg (n + 1)).call g_Program___init__ [some x0, some x1, some x2, some x3, some x4] [] M = (execs prg (rt prg n) [] b_Program___init__ [some x0, some x1, some x2, some x3, some x4, none, none, none] M).res := rfl
theorem call_Program_parts_1 (n : Nat) (x0 : D) (M : Hm) : (rt prg (n + 1)).call g_Program_parts [some x0] [] M = (execs prg (rt prg n) [] b_Program_parts [some x0] M).res := rfl
end Mi.K05

end
section
/-! M37: reckoning with Mini's results. -/
namespace Mi
def wp {α : Type} (r : Res α) (Q : α → Hm → Prop) (E : Nat → D → Hm → Prop) : Prop := match r with
  | .ok a M => Q a M
  | .exc c v M => E c v M
  | .bad => False
def wps (r : SR) (N : Env → Hm → Prop) (R : D → Hm → Prop) (B C : Env → Hm → Prop) (E : Nat → D → Env → Hm → Prop) : Prop := match r with
  | .nxt σ M => N σ M
  | .ret d M => R d M
  | .brk σ M => B σ M
  | .cnt σ M => C σ M
  | .exc c v σ M => E c v σ M
  | .bad => False
section
variable {α β : Type} {Q : α → Hm → Prop} {E : Nat → D → Hm → Prop}
theorem wp_ok {a : α} {M : Hm} : wp (.ok a M) Q E = Q a M := rfl
theorem wp_exc {c : Nat} {v : D} {M : Hm} : wp (.exc c v M : Res α) Q E = E c v M := rfl
theorem wp_bad : wp (.bad : Res α) Q E = False := rfl
theorem wp_bind {r : Res β} {f : β → Hm → Res α} : wp (r.bind f) Q E = wp r (fun a M => wp (f a M) Q E) E := by cases r <;> rfl
theorem wp_lift {o : Option α} {M : Hm} {a : α} (h : o = some a) : wp (lift o M) Q E = Q a M := by rw [h]; rfl
theorem wp_mono {Q' : α → Hm → Prop} {E' : Nat → D → Hm → Prop} {r : Res α} (h : wp r Q E) (hq : ∀ a M, Q a M → Q' a M) (he : ∀ c v M, E c v M → E' c v M) : wp r Q' E' := by
  cases r with
  | ok a M => exact hq _ _ h
  | exc c v M => exact he _ _ _ h
  | bad => exact h
theorem wp_of {r : Res α} {a : α} {M : Hm} (h : r = .ok a M) (q : Q a M) : wp r Q E := by rw [h]; exact q
/-- no exception -/
abbrev wpo (r : Res α) (Q : α → Hm → Prop) : Prop := wp r Q fun _ _ _ => False
theorem wpo_ok {r : Res α} {Q : α → Hm → Prop} (h : wpo r Q) : ∃ a M, r = .ok a M ∧ Q a M := by
  cases r with
  | ok a M => exact ⟨a, M, rfl, h⟩
  | exc c v M => exact False.elim h
  | bad => exact False.elim h
end
section
variable {α : Type} {N : Env → Hm → Prop} {R : D → Hm → Prop} {B C : Env → Hm → Prop} {E : Nat → D → Env → Hm → Prop}
theorem wps_nxt {σ : Env} {M : Hm} : wps (.nxt σ M) N R B C E = N σ M := rfl
theorem wps_ret {d : D} {M : Hm} : wps (.ret d M) N R B C E = R d M := rfl
theorem wps_brk {σ : Env} {M : Hm} : wps (.brk σ M) N R B C E = B σ M := rfl
theorem wps_cnt {σ : Env} {M : Hm} : wps (.cnt σ M) N R B C E = C σ M := rfl
theorem wps_exc {c : Nat} {v : D} {σ : Env} {M : Hm} : wps (.exc c v σ M) N R B C E = E c v σ M := rfl
theorem wps_bad : wps .bad N R B C E = False := rfl
theorem wps_st {r : Res α} {σ : Env} {f : α → Hm → SR} : wps (r.st σ f) N R B C E = wp r (fun a M => wps (f a M) N R B C E) (fun c v M => E c v σ M) := by cases r <;> rfl
theorem wps_then {r : SR} {f : Env → Hm → SR} : wps (r.andThen f) N R B C E = wps r (fun σ M => wps (f σ M) N R B C E) R B C E := by cases r <;> rfl
theorem wps_put {σ : Env} {M : Hm} {f : Env → Hm → SR} : wps ((Res.ok σ M).put f) N R B C E = wps (f σ M) N R B C E := rfl
theorem wp_res {r : SR} {Q : D → Hm → Prop} {E : Nat → D → Hm → Prop} : wp r.res Q E = wps r (fun _ M => Q .non M) Q (fun _ _ => False) (fun _ _ => False) (fun c v _ M => E c v M) := by cases r <;> rfl
theorem wps_if {c : Prop} [Decidable c] {a b : SR} : wps (if c then a else b) N R B C E = if c then wps a N R B C E else wps b N R B C E := by by_cases h : c <;> simp [h]
end
theorem wp_if {α : Type} {Q : α → Hm → Prop} {E : Nat → D → Hm → Prop} {c : Prop} [Decidable c] {a b : Res α} : wp (if c then a else b) Q E = if c then wp a Q E else wp b Q E := by by_cases h : c <;> simp [h]
def _root_.Mi.MSs.drop : Nat → MSs → MSs
  | 0, b => b
  | _ + 1, .nil => .nil
  | k + 1, .cons _ b => b.drop k
/-! ### loops over what is known -/
def forL (turn : D → Env → Hm → SR) : List D → Env → Hm → SR
  | [], σ, M => .nxt σ M
  | d :: ds, σ, M => match turn d σ M with
    | .nxt σ M => forL turn ds σ M
    | .cnt σ M => forL turn ds σ M
    | .brk σ M => .nxt σ M
    | r => r
theorem forGo_at {turn : D → Env → Hm → SR} {ds : List D} : ∀ (k i : Nat) (σ : Env) (M : Hm), i + k = ds.length → forGo (.items ds) turn k i σ M = forL turn (ds.drop i) σ M
  | 0, i, σ, M, h => by
    have : ds.drop i = [] := List.drop_eq_nil_of_le (by omega)
    rw [this]
    show (if (some ds.length = some i) then SR.nxt σ M else .bad) = _
    rw [if_pos (by rw [← h]; rfl)]
    rfl
  | k + 1, i, σ, M, h => by
    have hi : i < ds.length := by omega
    rw [List.drop_eq_getElem_cons hi]
    have e : (Src.items ds).at i M = some ds[i] := List.getElem?_eq_getElem hi
    show (match (Src.items ds).at i M with
      | none => SR.bad
      | some d => match turn d σ M with
        | .nxt σ M => forGo (.items ds) turn k (i + 1) σ M
        | .cnt σ M => forGo (.items ds) turn k (i + 1) σ M
        | .brk σ M => .nxt σ M
        | r => r) = _
    rw [e]
    show (match turn ds[i] σ M with
        | .nxt σ M => forGo (.items ds) turn k (i + 1) σ M
        | .cnt σ M => forGo (.items ds) turn k (i + 1) σ M
        | .brk σ M => .nxt σ M
        | r => r) = (match turn ds[i] σ M with
        | .nxt σ M => forL turn (ds.drop (i + 1)) σ M
        | .cnt σ M => forL turn (ds.drop (i + 1)) σ M
        | .brk σ M => .nxt σ M
        | r => r)
    cases turn ds[i] σ M with
    | nxt σ' M' => exact forGo_at k (i + 1) σ' M' (by omega)
    | cnt σ' M' => exact forGo_at k (i + 1) σ' M' (by omega)
    | _ => rfl
def compL (turn : D → Hm → Res (Option D)) : List D → Hm → Res (List D)
  | [], M => .ok [] M
  | d :: ds, M => (turn d M).bind fun o M => (compL turn ds M).bind fun r M => .ok (o.toList ++ r) M
theorem compGo_at {turn : D → Hm → Res (Option D)} {ds : List D} : ∀ (k i : Nat) (M : Hm), i + k = ds.length → compGo (.items ds) turn k i M = compL turn (ds.drop i) M
  | 0, i, M, h => by
    have : ds.drop i = [] := List.drop_eq_nil_of_le (by omega)
    rw [this]
    show (if (some ds.length = some i) then Res.ok [] M else .bad) = _
    rw [if_pos (by rw [← h]; rfl)]
    rfl
  | k + 1, i, M, h => by
    have hi : i < ds.length := by omega
    rw [List.drop_eq_getElem_cons hi]
    have e : (Src.items ds).at i M = some ds[i] := List.getElem?_eq_getElem hi
    show (lift ((Src.items ds).at i M) M).bind (fun d M => (turn d M).bind fun o M => (compGo (.items ds) turn k (i + 1) M).bind fun r M => .ok (o.toList ++ r) M) = _
    rw [e]
    show ((turn ds[i] M).bind fun o M => (compGo (.items ds) turn k (i + 1) M).bind fun r M => .ok (o.toList ++ r) M) = ((turn ds[i] M).bind fun o M => (compL turn (ds.drop (i + 1)) M).bind fun r M => .ok (o.toList ++ r) M)
    congr 1
    funext o M'
    rw [compGo_at k (i + 1) M' (by omega)]
/-- over an object that stays as it is -/
def compS (f : D → Option D) : List D → List D
  | [] => []
  | d :: ds => (f d).toList ++ compS f ds
theorem compGo_obj {turn : D → Hm → Res (Option D)} {f : D → Option D} {M : Hm} {t : Nat} {xs : List D} (ht : M[t]? = some (.lst xs)) (hf : ∀ d ∈ xs, turn d M = .ok (f d) M) : ∀ (k i : Nat), i + k = xs.length → compGo (.obj t) turn k i M = .ok (compS f (xs.drop i)) M
  | 0, i, h => by
    have e : xs.drop i = [] := List.drop_eq_nil_of_le (by omega)
    rw [e]
    show (if (Src.obj t).len M = some i then Res.ok [] M else .bad) = _
    have l : (Src.obj t).len M = some xs.length := by
      unfold Src.len
      simp only [ht]
    rw [l, if_pos (by rw [← h]; rfl)]
    rfl
  | k + 1, i, h => by
    have hi : i < xs.length := by omega
    rw [List.drop_eq_getElem_cons hi]
    have e : (Src.obj t).at i M = some xs[i] := by
      unfold Src.at
      simp only [ht]
      exact List.getElem?_eq_getElem hi
    show (lift ((Src.obj t).at i M) M).bind (fun d M => (turn d M).bind fun o M => (compGo (.obj t) turn k (i + 1) M).bind fun r M => .ok (o.toList ++ r) M) = _
    rw [e]
    show ((turn xs[i] M).bind fun o M => (compGo (.obj t) turn k (i + 1) M).bind fun r M => .ok (o.toList ++ r) M) = _
    rw [hf _ (List.getElem_mem hi), Res.bind_ok, compGo_obj ht hf k (i + 1) (by omega)]
    rfl
section
variable {P : Prg} {R : Rt} {κ : List (Nat × CloD)} {σ : Env} {M M' : Hm}
/-- for, over what is known -/
theorem x_for {t : MT} {it : MI} {b : MSs} {ds : List D} (h : evI P R κ it σ M = .ok (.items ds) M') : exec P R κ (.fr t it b) σ M = forL (fun d σ M => (asg P R κ t d σ M).put fun σ M => execs P R κ b σ M) ds σ M' := by
  show (evI P R κ it σ M).st σ _ = _
  rw [h]
  exact forGo_at ds.length 0 σ M' (by omega)
/-- a comprehension, over what is known -/
theorem x_lc {h : Bool} {elt : ME} {t : MT} {it : MI} {ifs : MQs} {own : List Nat} {ds : List D} (e : evI P R κ it σ M = .ok (.items ds) M') (hs : szOk ds.length = true) (ho : own.all (free κ) = true) :
    ev P R κ (.lc h elt t it ifs own) σ M = (compL (fun d M => (asg P R κ t d (wipeE σ own) M).use fun σ' M => (evTB P R κ true ifs σ' M).bind fun b M => if b then (ev P R κ elt σ' M).bind fun y M => .ok (some y) M else .ok none M) ds M').bind fun ds M => mkl h ds M := by
  show (evI P R κ it σ M).bind _ = _
  rw [e]
  show (if (szOk ds.length && own.all (free κ)) = true then (compGo (.items ds) _ ds.length 0 M').bind _ else Res.bad) = _
  rw [hs, ho, if_pos (show (true && true) = true from rfl), compGo_at ds.length 0 M' (by omega)]
  rfl
theorem x_seq {s : MS} {ss : MSs} {σ' : Env} (h : exec P R κ s σ M = .nxt σ' M') : execs P R κ (.cons s ss) σ M = execs P R κ ss σ' M' := by
  show (exec P R κ s σ M).andThen _ = _
  rw [h]
  rfl
theorem x_ret {s : MS} {ss : MSs} {d : D} (h : exec P R κ s σ M = .ret d M') : execs P R κ (.cons s ss) σ M = .ret d M' := by
  show (exec P R κ s σ M).andThen _ = _
  rw [h]
  rfl
theorem x_exc {s : MS} {ss : MSs} {c : Nat} {d : D} {σ' : Env} (h : exec P R κ s σ M = .exc c d σ' M') : execs P R κ (.cons s ss) σ M = .exc c d σ' M' := by
  show (exec P R κ s σ M).andThen _ = _
  rw [h]
  rfl
theorem x_if {t : MQ} {a b : MSs} {k : Bool} (h : evT P R κ t σ M = .ok k M') : exec P R κ (.ife t a b) σ M = if k then execs P R κ a σ M' else execs P R κ b σ M' := by
  show (evT P R κ t σ M).st σ _ = _
  rw [h]
  rfl
theorem x_rete {e : ME} {d : D} (h : ev P R κ e σ M = .ok d M') : exec P R κ (.ret e) σ M = .ret d M' := by
  show (ev P R κ e σ M).st σ _ = _
  rw [h]
  rfl
/-- an if among others -/
theorem x_ifs {t : MQ} {a b ss : MSs} {k : Bool} (h : evT P R κ t σ M = .ok k M') : execs P R κ (.cons (.ife t a b) ss) σ M = if k = true then (execs P R κ a σ M').andThen fun σ M => execs P R κ ss σ M else (execs P R κ b σ M').andThen fun σ M => execs P R κ ss σ M := by
  show (exec P R κ (.ife t a b) σ M).andThen _ = _
  rw [x_if h]
  cases k <;> rfl
/-- an if that returns -/
theorem x_ifr {t : MQ} {a ss : MSs} {k : Bool} {d : D} {M2 : Hm} (h : evT P R κ t σ M = .ok k M') (he : execs P R κ a σ M' = .ret d M2) : execs P R κ (.cons (.ife t a .nil) ss) σ M = if k = true then .ret d M2 else execs P R κ ss σ M' := by
  rw [x_ifs h]
  by_cases hk : k = true
  · rw [if_pos hk, if_pos hk, he]
    rfl
  · rw [if_neg hk, if_neg hk]
    rfl
def contL (turn : D → Env → Hm → SR) (ds : List D) : SR → SR
  | .nxt σ M => forL turn ds σ M
  | .cnt σ M => forL turn ds σ M
  | .brk σ M => .nxt σ M
  | r => r
theorem forL_cons {turn : D → Env → Hm → SR} {d : D} {ds : List D} {r : SR} (h : turn d σ M = r) : forL turn (d :: ds) σ M = contL turn ds r := by
  subst h
  show (match turn d σ M with
    | .nxt σ M => forL turn ds σ M
    | .cnt σ M => forL turn ds σ M
    | .brk σ M => .nxt σ M
    | r => r) = _
  cases turn d σ M <;> rfl
theorem x_nm {i : Nat} {e : ME} {d : D} (h : ev P R κ e σ M = .ok d M') (hf : free κ i = true) : exec P R κ (.asg (.nm i) e) σ M = .nxt (σ.set i (some d)) M' := by
  show (ev P R κ e σ M).st σ _ = _
  rw [h]
  show ((if free κ i = true then (Res.ok (σ.set i (some d)) M' : Res Env) else .bad).put fun σ M => SR.nxt σ M) = _
  rw [if_pos hf]
  rfl
theorem x_asg_exc {t : MT} {e : ME} {c : Nat} {d : D} (h : ev P R κ e σ M = .exc c d M') : exec P R κ (.asg t e) σ M = .exc c d σ M' := by
  show (ev P R κ e σ M).st σ _ = _
  rw [h]
  rfl
theorem x_rse {c : Nat} {e : ME} {d : D} (h : ev P R κ e σ M = .ok d M') : exec P R κ (.rse c e) σ M = .exc c d σ M' := by
  show (ev P R κ e σ M).st σ _ = _
  rw [h]
  rfl
def nolam : ME → Bool
  | .lam _ _ _ _ => false
  | _ => true
theorem evA_ok {e : ME} {es : MEs} {j : Nat} {d : D} {a : List (Option D) × List (Nat × CloD)} {M1 M2 : Hm} (hl : nolam e = true) (h1 : ev P R κ e σ M = .ok d M1) (h2 : evA P R κ es (j + 1) σ M1 = .ok a M2) : evA P R κ (.cons e es) j σ M = .ok (some d :: a.1, a.2) M2 := by
  have q : evA P R κ (.cons e es) j σ M = (ev P R κ e σ M).bind fun d M => (evA P R κ es (j + 1) σ M).bind fun a M => .ok (some d :: a.1, a.2) M := by cases e <;> first | rfl | cases hl
  rw [q, h1, Res.bind_ok, h2]
  rfl
theorem ev_bin {o : BOp} {h : Bool} {a b : ME} {x y : D} {M1 M2 : Hm} {r : Res D} (h1 : ev P R κ a σ M = .ok x M1) (h2 : ev P R κ b σ M1 = .ok y M2) (h3 : opBin o h x y M2 = r) : ev P R κ (.bin o h a b) σ M = r := by
  show (ev P R κ a σ M).bind _ = _
  rw [h1, Res.bind_ok, h2]
  exact h3
theorem obj_at {b : Nat} {xs : List D} (hb : M[b]? = some (.lst xs)) : obj? M (.ref b) = some (b, xs) := by
  unfold obj?
  simp only [hb]
/-- o.append(e) -/
theorem x_append {o e : ME} {b : Nat} {xs : List D} {d : D} {M1 : Hm} (h1 : ev P R κ o σ M = .ok (.ref b) M) (h2 : ev P R κ e σ M = .ok d M1) (h0 : obj? M (.ref b) ≠ none) (hb : M1[b]? = some (.lst xs)) (hl : xs.length < 16777216) : exec P R κ (.expr (.bm .append o (.cons e .nil))) σ M = .nxt σ (M1.set b (.lst (xs ++ [d]))) := by
  have hk : bmOk .append (.ref b) M = true := by
    show (obj? M (.ref b)).isSome = true
    cases q : obj? M (.ref b) with
    | none => exact absurd q h0
    | some x => rfl
  have he : ev P R κ (.bm .append o (.cons e .nil)) σ M = .ok .non (M1.set b (.lst (xs ++ [d]))) := by
    show (ev P R κ o σ M).bind _ = _
    rw [h1]
    show (if bmOk .append (.ref b) M = true then (evs P R κ (.cons e .nil) σ M).bind fun ds M => bmSem .append (.ref b) ds M else .bad) = _
    rw [if_pos hk]
    show ((ev P R κ e σ M).bind _).bind _ = _
    rw [h2]
    show bmAppend M1 (.ref b) d = _
    unfold bmAppend
    rw [obj_at hb]
    show (if szOk (xs.length + 1) = true then _ else _) = _
    rw [if_pos (decide_eq_true (by omega))]
  show (ev P R κ (.bm .append o (.cons e .nil)) σ M).st σ _ = _
  rw [he]
  rfl
theorem evs_ok {e : ME} {es : MEs} {d : D} {ds : List D} {M1 M2 : Hm} (h1 : ev P R κ e σ M = .ok d M1) (h2 : evs P R κ es σ M1 = .ok ds M2) : evs P R κ (.cons e es) σ M = .ok (d :: ds) M2 := by
  show (ev P R κ e σ M).bind _ = _
  rw [h1, Res.bind_ok, h2]
  rfl
theorem ev_bi {b : Bi} {h : Bool} {es : MEs} {ds : List D} {r : Res D} (h1 : evs P R κ es σ M = .ok ds M') (h2 : biSem b h ds M' = r) : ev P R κ (.bi b h es) σ M = r := by
  show (evs P R κ es σ M).bind _ = _
  rw [h1]
  exact h2
theorem ev_tup {es : MEs} {ds : List D} (h1 : evs P R κ es σ M = .ok ds M') : ev P R κ (.tup es) σ M = .ok (.tup ds) M' := by
  show (evs P R κ es σ M).bind _ = _
  rw [h1]
  rfl
theorem evI_rng2 {a b : ME} {x y : D} {M1 M2 : Hm} {s : Src} (h1 : ev P R κ a σ M = .ok x M1) (h2 : ev P R κ b σ M1 = .ok y M2) (h3 : rng2D x y M2 = .ok s M2) : evI P R κ (.rng2 a b) σ M = .ok s M2 := by
  show (ev P R κ a σ M).bind _ = _
  rw [h1, Res.bind_ok, h2]
  exact h3
theorem evI_rng1 {a : ME} {i : Int} {M1 : Hm} (h1 : ev P R κ a σ M = .ok (.int i) M1) (h2 : rngOk i = true) : evI P R κ (.rng1 a) σ M = .ok (.items (rngD 0 i.toNat)) M1 := by
  show (ev P R κ a σ M).bind _ = _
  rw [h1, Res.bind_ok]
  show (if rngOk i = true then Res.ok (Src.items (rngD 0 i.toNat)) M1 else .bad) = _
  rw [if_pos h2]
theorem ev_ix {a b : ME} {x y d : D} {M1 M2 : Hm} (h1 : ev P R κ a σ M = .ok x M1) (h2 : ev P R κ b σ M1 = .ok y M2) (h3 : opIx x y M2 = some d) : ev P R κ (.ix a b) σ M = .ok d M2 := by
  show (ev P R κ a σ M).bind _ = _
  rw [h1, Res.bind_ok, h2]
  show lift (opIx x y M2) M2 = _
  rw [h3]
  rfl
theorem ev_cmpT {o : COp} {a b : ME} {x y : D} {k : Bool} {M1 M2 : Hm} (h1 : ev P R κ a σ M = .ok x M1) (h2 : ev P R κ b σ M1 = .ok y M2) (h3 : opCmp o x y M2 = some k) : evT P R κ (.cmp o a b) σ M = .ok k M2 := by
  show (ev P R κ a σ M).bind _ = _
  rw [h1, Res.bind_ok, h2]
  show lift (opCmp o x y M2) M2 = _
  rw [h3]
  rfl
/-- and, or among tests -/
theorem evTB_step {isAnd b : Bool} {t : MQ} {ts : MQs} {r : Res Bool} (h1 : evT P R κ t σ M = .ok b M') (h2 : (if b = isAnd then evTB P R κ isAnd ts σ M' else .ok b M') = r) : evTB P R κ isAnd (.cons t ts) σ M = r := by
  show (evT P R κ t σ M).bind _ = _
  rw [h1]
  exact h2
theorem ev_ife {t : MQ} {a b : ME} {k : Bool} {r : Res D} (h1 : evT P R κ t σ M = .ok k M') (h2 : (if k = true then ev P R κ a σ M' else ev P R κ b σ M') = r) : ev P R κ (.ife t a b) σ M = r := by
  show (evT P R κ t σ M).bind _ = _
  rw [h1]
  exact h2
def trR (P : Prg) (hs : MHs) : SR → SR
  | .exc c v σ M => caught P c v σ M hs
  | r => r
theorem x_try {b : MSs} {hs : MHs} {r : SR} (h : execs P R κ b σ M = r) : exec P R κ (.tr b hs) σ M = trR P hs r := by
  subst h
  show (match execs P R κ b σ M with
    | .exc c v σ M => caught P c v σ M hs
    | r => r) = _
  cases execs P R κ b σ M <;> rfl
theorem tup_add {xs ys : List D} {h : Bool} (hs : xs.length + ys.length ≤ 16777216) : opBin .add h (.tup xs) (.tup ys) M = .ok (.tup (xs ++ ys)) M := by
  show (if szOk (xs.length + ys.length) = true then Res.ok (D.tup (xs ++ ys)) M else .bad) = _
  rw [if_pos (decide_eq_true hs)]
theorem x_call {g : Nat} {es : MEs} {a : List (Option D) × List (Nat × CloD)} {r : Res D} (h : evA P R κ es 0 σ M = .ok a M') (hr : R.call g a.1 a.2 M' = r) : ev P R κ (.call g es) σ M = r := by
  show (evA P R κ es 0 σ M).bind _ = _
  rw [h]
  exact hr
end
end Mi

end
section
/-! K05m1: types, expressions, what the program's own defs answer. -/
namespace Mi.K05
open PySem L2
inductive Ki | word | bit | row
  deriving DecidableEq
def Ki.s : Ki → Str
  | .word => "word"
  | .bit => "bit"
  | .row => "row"
/-- a variable: kind, name, start -/
structure Va where
  k : Ki
  x : Str
  v : D
def Va.d (r : Va) : D := .tup [.str r.k.s, .str r.x, r.v]
def optVa : Option Va → D
  | some r => r.d
  | none => .non
/-- a program lies there -/
structure PrgAt (M : Hm) (p : Nat) (nm : Str) (vs : List Va) (procs : D) (body : D) : Prop where
  ins : M[p]? = some (.ins 0 [("name", .str nm), ("variables", .tup (vs.map Va.d)), ("procs", procs), ("body", body)])
theorem PrgAt.vars {M : Hm} {p : Nat} {nm : Str} {vs : List Va} {procs body : D} (h : PrgAt M p nm vs procs body) : getFld prg "variables" (.ref p) M = some (.tup (vs.map Va.d)) := by
  unfold getFld
  simp only [h.ins]
  rfl
def findV (vs : List Va) (x : Str) : Option Va := vs.find? fun r => decide (r.x = x)
theorem variable_of_eq {M : Hm} {p : Nat} {nm : Str} {vs : List Va} {procs body : D} (h : PrgAt M p nm vs procs body) (n : Nat) (x : Str) : (rt prg (n + 1)).call g_variable_of [some (.ref p), some (.str x)] [] M = .ok (optVa (findV vs x)) M := by
  rw [call_variable_of_2]
  unfold b_variable_of
  have ei : evI prg (rt prg n) [] (.val (.fld "variables" (.var 0))) [some (.ref p), some (.str x), none] M = .ok (.items (vs.map Va.d)) M := by
    show (lift (getFld prg "variables" (.ref p) M) M).bind _ = _
    rw [h.vars]
    rfl
  have loop : ∀ (us : List Va) (o : Option D), ∃ o', forL (fun d σ M => (asg prg (rt prg n) [] (.nm 2) d σ M).put fun σ M => execs prg (rt prg n) [] b_variable_of_2 σ M) (us.map Va.d) [some (.ref p), some (.str x), o] M =
      (match findV us x with | some r => .ret r.d M | none => .nxt [some (.ref p), some (.str x), o'] M) := by
    intro us
    induction us with
    | nil => exact fun o => ⟨o, rfl⟩
    | cons u us ih =>
      intro o
      have turn : ((asg prg (rt prg n) [] (.nm 2) u.d [some (.ref p), some (.str x), o] M).put fun σ M => execs prg (rt prg n) [] b_variable_of_2 σ M) = if decide (u.x = x) = true then .ret u.d M else .nxt [some (.ref p), some (.str x), some u.d] M :=
        x_ifr (σ := [some (.ref p), some (.str x), some u.d]) (k := decide (u.x = x)) rfl rfl
      by_cases hx : u.x = x
      · refine ⟨o, ?_⟩
        have e : findV (u :: us) x = some u := by unfold findV; rw [List.find?_cons_of_pos (by simpa using hx)]
        rw [e, List.map_cons, forL_cons turn, if_pos (decide_eq_true hx)]
        rfl
      · obtain ⟨o', h'⟩ := ih (some u.d)
        refine ⟨o', ?_⟩
        have e : findV (u :: us) x = findV us x := by unfold findV; rw [List.find?_cons_of_neg (by simpa using hx)]
        rw [e, List.map_cons, forL_cons turn, if_neg (by simpa using hx)]
        exact h'
  obtain ⟨o', hl⟩ := loop vs none
  show ((exec prg (rt prg n) [] (.fr _ _ _) _ M).andThen _).res = _
  rw [x_for ei, hl]
  cases findV vs x <;> rfl
inductive Op | add | sub | and | or | xor | less | same | both | either
  deriving DecidableEq
def Op.s : Op → Str
  | .add => "add" | .sub => "sub" | .and => "and" | .or => "or" | .xor => "xor" | .less => "less" | .same => "same" | .both => "both" | .either => "either"
def Op.due : Op → Ki
  | .both => .bit | .either => .bit | _ => .word
def Op.res : Op → Ki
  | .less => .bit | .same => .bit | .both => .bit | .either => .bit | _ => .word
inductive Ex
  | tf (b : Bool)
  | num (i : Int)
  | var (x : Str)
  | at (x : Str) (e : Ex)
  | no (e : Ex)
  | op (o : Op) (a b : Ex)
def tfS : Bool → Str
  | true => "true"
  | false => "false"
def Ex.d : Ex → D
  | .tf b => .tup [.str (tfS b)]
  | .num i => .tup [.str "num", .int i]
  | .var x => .tup [.str "var", .str x]
  | .at x e => .tup [.str "at", .str x, e.d]
  | .no e => .tup [.str "not", e.d]
  | .op o a b => .tup [.str o.s, a.d, b.d]
def Ex.parts : Ex → List Ex
  | .tf _ => []
  | .num _ => []
  | .var _ => []
  | .at _ e => [e]
  | .no e => [e]
  | .op _ a b => [a, b]
theorem parts_eq (n : Nat) (e : Ex) (M : Hm) : (rt prg (n + 1)).call g_expression_parts [some e.d] [] M = .ok (.tup (e.parts.map Ex.d)) M := by
  cases e with
  | tf b => cases b <;> rfl
  | num i => rfl
  | var x => rfl
  | «at» x e => rfl
  | no e => rfl
  | op o a b => cases o <;> rfl
def made (vs : List Va) : Ex → List Ki → Option Ki
  | .tf _, _ => some .bit
  | .num _, _ => some .word
  | .var x, _ => match findV vs x with
    | some r => if r.k = .row then none else some r.k
    | none => none
  | .at x _, ts => match findV vs x with
    | some r => if r.k = .row then (if ts = [.word] then some .word else none) else none
    | none => none
  | .no _, ts => if ts.all (fun t => decide (t = .bit)) then some .bit else none
  | .op o _ _, ts => if ts.all (fun t => decide (t = o.due)) then some o.res else none
def optK : Option Ki → D
  | some k => .str k.s
  | none => .non
def toldD (ts : List Ki) : D := .lst (ts.map fun t => .str t.s)
theorem made_eq {M : Hm} {p : Nat} {nm : Str} {vs : List Va} {procs body : D} (h : PrgAt M p nm vs procs body) (n : Nat) (e : Ex) (ts : List Ki) (hl : ts.length = e.parts.length) : (rt prg (n + 2)).call g_type_made [some (.ref p), some e.d, some (toldD ts)] [] M = .ok (optK (made vs e ts)) M := by
  cases e with
  | tf b => cases b <;> rfl
  | num i => rfl
  | no e =>
    match ts, hl with
    | [t], _ => cases t <;> rfl
  | op o a b =>
    match ts, hl with
    | [t, u], _ => cases o <;> cases t <;> cases u <;> kernel_rfl
  | var x =>
    match ts, hl with
    | [], _ =>
    have hv := variable_of_eq h n x
    have e0 : execs prg (rt prg (n + 1)) [] b_type_made [some (.ref p), some (Ex.var x).d, some (toldD []), none, none, none, none] M = (execs prg (rt prg (n + 1)) [] b_type_made_3 [some (.ref p), some (Ex.var x).d, some (toldD []), some (.str "var"), none, none, none] M).andThen (fun σ M => execs prg (rt prg (n + 1)) [] (b_type_made.drop 4) σ M) := by kernel_rfl
    rw [call_type_made_3, e0]
    unfold b_type_made_3
    rw [x_seq (x_nm (x_call (a := ([some (.ref p), some (.str x)], [])) rfl hv) rfl)]
    rw [show made vs (.var x) [] = (match findV vs x with | some r => if r.k = .row then none else some r.k | none => none) from rfl]
    generalize findV vs x = o
    cases o with
    | none => kernel_rfl
    | some r =>
      obtain ⟨rk, rx, rv⟩ := r
      cases rk <;> kernel_rfl
  | «at» x e =>
    match ts, hl with
    | [t], _ =>
    have hv := variable_of_eq h n x
    have e0 : execs prg (rt prg (n + 1)) [] b_type_made [some (.ref p), some (Ex.at x e).d, some (toldD [t]), none, none, none, none] M = (execs prg (rt prg (n + 1)) [] b_type_made_3 [some (.ref p), some (Ex.at x e).d, some (toldD [t]), some (.str "at"), none, none, none] M).andThen (fun σ M => execs prg (rt prg (n + 1)) [] (b_type_made.drop 4) σ M) := by kernel_rfl
    rw [call_type_made_3, e0]
    unfold b_type_made_3
    rw [x_seq (x_nm (x_call (a := ([some (.ref p), some (.str x)], [])) rfl hv) rfl)]
    rw [show made vs (.at x e) [t] = (match findV vs x with | some r => if r.k = .row then (if [t] = [.word] then some .word else none) else none | none => none) from rfl]
    generalize findV vs x = o
    cases o with
    | none => kernel_rfl
    | some r =>
      obtain ⟨rk, rx, rv⟩ := r
      cases rk <;> cases t <;> kernel_rfl
/-! ### type_at -/
def pathD (q : List Nat) : D := .tup (q.map fun k => .int ((k : Nat) : Int))
def tyL (f : Nat → Ex → Except (List Nat) Ki) : Nat → List Ex → Except (List Nat) (List Ki)
  | _, [] => .ok []
  | k, e :: es => match f k e with
    | .error q => .error q
    | .ok t => match tyL f (k + 1) es with
      | .error q => .error q
      | .ok ts => .ok (t :: ts)
/-- the type, or the path of the first part without one -/
def ty (vs : List Va) : Ex → List Nat → Except (List Nat) Ki
  | .tf b, q => match made vs (.tf b) [] with | some t => .ok t | none => .error q
  | .num i, q => match made vs (.num i) [] with | some t => .ok t | none => .error q
  | .var x, q => match made vs (.var x) [] with | some t => .ok t | none => .error q
  | .at x e, q => match ty vs e (q ++ [0]) with
    | .error r => .error r
    | .ok t => match made vs (.at x e) [t] with | some t => .ok t | none => .error q
  | .no e, q => match ty vs e (q ++ [0]) with
    | .error r => .error r
    | .ok t => match made vs (.no e) [t] with | some t => .ok t | none => .error q
  | .op o a b, q => match ty vs a (q ++ [0]) with
    | .error r => .error r
    | .ok t => match ty vs b (q ++ [1]) with
      | .error r => .error r
      | .ok u => match made vs (.op o a b) [t, u] with | some t => .ok t | none => .error q
def Ex.deep : Ex → Nat
  | .tf _ => 1
  | .num _ => 1
  | .var _ => 1
  | .at _ e => e.deep + 1
  | .no e => e.deep + 1
  | .op _ a b => max a.deep b.deep + 1
/-- what the program's type_at answers -/
def tyR (r : Except (List Nat) Ki) (M : Hm) : Res D := match r with
  | .ok k => .ok (.str k.s) M
  | .error q => .exc 1 (pathD q) M
theorem path_add {q : List Nat} {k : Nat} {M : Hm} (hq : q.length ≤ 1000) : opBin .add false (pathD q) (.tup [.int ((k : Nat) : Int)]) M = .ok (pathD (q ++ [k])) M := by
  unfold pathD
  rw [tup_add (by rw [List.length_map]; simp; omega), List.map_append]
  rfl
abbrev taTurn (R : Rt) (σ : Env) : D → Hm → Res (Option D) := fun d M => (asg prg R [] (.nm 5) d (wipeE σ [5]) M).use fun σ' M => (evTB prg R [] true .nil σ' M).bind fun b M =>
  if b then (ev prg R [] (.call g_type_at (.cons (.var 0) (.cons (.ix (.var 3) (.var 5)) (.cons (.bin .add false (.var 2) (.tup (.cons (.var 5) .nil))) .nil)))) σ' M).bind fun y M => .ok (some y) M else .ok none M
theorem ta_turn {R : Rt} {p : Nat} {e : D} {es : List D} {q : List Nat} {M : Hm} {k : Nat} {r : Res D} {x : D} (hq : q.length ≤ 1000) (hk : opIx (.tup es) (.int ((k : Nat) : Int)) M = some x) (hr : R.call g_type_at [some (.ref p), some x, some (pathD (q ++ [k]))] [] M = r) :
    taTurn R [some (.ref p), some e, some (pathD q), some (.tup es), none, none, none] (.int ((k : Nat) : Int)) M = r.bind fun y M => .ok (some y) M := by
  show (ev prg R [] (.call g_type_at _) [some (.ref p), some e, some (pathD q), some (.tup es), none, some (.int ((k : Nat) : Int)), none] M).bind _ = _
  rw [x_call (a := ([some (.ref p), some x, some (pathD (q ++ [k]))], [])) (evA_ok (a := ([some x, some (pathD (q ++ [k]))], [])) (M1 := M) rfl rfl (evA_ok (d := x) (M1 := M) (a := ([some (pathD (q ++ [k]))], [])) rfl ?_ (evA_ok (a := ([], [])) (M1 := M) rfl (ev_bin rfl rfl (path_add hq)) rfl))) hr]
  show lift (opIx (.tup es) (.int ((k : Nat) : Int)) M) M = _
  rw [hk]
  rfl
theorem type_at_eq {M : Hm} {p : Nat} {nm : Str} {vs : List Va} {procs body : D} (h : PrgAt M p nm vs procs body) : ∀ (e : Ex) (n : Nat) (q : List Nat), e.deep + 2 ≤ n → q.length + e.deep ≤ 1000 → (rt prg n).call g_type_at [some (.ref p), some e.d, some (pathD q)] [] M = tyR (ty vs e q) M := by
  -- the parts are told, then the whole
  have whole : ∀ (e : Ex) (m : Nat) (q : List Nat) (r : Except (List Nat) (List Ki)), 2 ≤ m → (match r with | .ok ts => ts.length = e.parts.length | .error _ => True) →
      (compL (taTurn (rt prg m) [some (.ref p), some e.d, some (pathD q), some (.tup (e.parts.map Ex.d)), none, none, none]) (rngD 0 e.parts.length) M = match r with | .ok ts => .ok (ts.map fun t => .str t.s) M | .error z => .exc 1 (pathD z) M) →
      (rt prg (m + 1)).call g_type_at [some (.ref p), some e.d, some (pathD q)] [] M = tyR (match r with | .ok ts => (match made vs e ts with | some t => .ok t | none => .error q) | .error z => .error z) M := by
    intro e m q r hm hl hc
    obtain ⟨m, rfl⟩ : ∃ j, m = j + 2 := ⟨m - 2, by omega⟩
    have hp := parts_eq (m + 1) e M
    rw [call_type_at_3]
    unfold b_type_at
    have hpl : e.parts.length ≤ 2 := by cases e <;> simp [Ex.parts]
    have ei : evI prg (rt prg (m + 2)) [] (.rng1 (.bi .len false (.cons (.var 3) .nil))) [some (.ref p), some e.d, some (pathD q), some (.tup (e.parts.map Ex.d)), none, none, none] M = .ok (.items (rngD 0 e.parts.length)) M := by
      cases e <;> kernel_rfl
    rw [x_seq (x_nm (x_call (a := ([some e.d], [])) rfl hp) rfl)]
    have el := x_lc (R := rt prg (m + 2)) (P := prg) (κ := []) (h := false) (elt := .call g_type_at (.cons (.var 0) (.cons (.ix (.var 3) (.var 5)) (.cons (.bin .add false (.var 2) (.tup (.cons (.var 5) .nil))) .nil)))) (t := .nm 5) (ifs := .nil) (own := [5]) ei (by unfold rngD; rw [List.length_map, List.length_range]; exact decide_eq_true (by omega)) rfl
    rw [hc] at el
    cases r with
    | error z =>
      rw [show ([some (.ref p), some e.d, some (pathD q), none, none, none, none] : Env).set 3 (some (D.tup (e.parts.map Ex.d))) = [some (.ref p), some e.d, some (pathD q), some (.tup (e.parts.map Ex.d)), none, none, none] from rfl]
      rw [x_exc (x_asg_exc el)]
      rfl
    | ok ts =>
      have hmd := made_eq h m e ts hl
      rw [show ([some (.ref p), some e.d, some (pathD q), none, none, none, none] : Env).set 3 (some (D.tup (e.parts.map Ex.d))) = [some (.ref p), some e.d, some (pathD q), some (.tup (e.parts.map Ex.d)), none, none, none] from rfl]
      rw [x_seq (x_nm el rfl)]
      rw [x_seq (x_nm (x_call (a := ([some (.ref p), some e.d, some (toldD ts)], [])) rfl hmd) rfl)]
      show _ = tyR (match made vs e ts with | some t => .ok t | none => .error q) M
      generalize made vs e ts = o
      cases o with
      | none => rfl
      | some t => cases t <;> rfl
  intro e
  induction e with
  | tf b =>
      intro n q hn hq
      obtain ⟨m, rfl⟩ : ∃ j, n = j + 1 := ⟨n - 1, by omega⟩
      exact whole (.tf b) m q (.ok []) (by simp [Ex.deep] at hn; omega) rfl rfl
  | num i =>
      intro n q hn hq
      obtain ⟨m, rfl⟩ : ∃ j, n = j + 1 := ⟨n - 1, by omega⟩
      exact whole (.num i) m q (.ok []) (by simp [Ex.deep] at hn; omega) rfl rfl
  | var x =>
      intro n q hn hq
      obtain ⟨m, rfl⟩ : ∃ j, n = j + 1 := ⟨n - 1, by omega⟩
      exact whole (.var x) m q (.ok []) (by simp [Ex.deep] at hn; omega) rfl rfl
  | «at» x e ih =>
      intro n q hn hq
      obtain ⟨m, rfl⟩ : ∃ j, n = j + 1 := ⟨n - 1, by omega⟩
      simp only [Ex.deep] at hn hq
      have i1 := ih m (q ++ [0]) (by omega) (by simp; omega)
      have t1 := ta_turn (R := rt prg m) (e := (Ex.at x e).d) (es := [e.d]) (q := q) (k := 0) (x := e.d) (p := p) (M := M) (by omega) rfl i1
      have w := whole (.at x e) m q (match ty vs e (q ++ [0]) with | .ok t => .ok [t] | .error z => .error z) (by omega)
      show _ = tyR (match ty vs e (q ++ [0]) with | .error r => .error r | .ok t => match made vs (.at x e) [t] with | some t => .ok t | none => .error q) M
      have c1 : compL (taTurn (rt prg m) [some (.ref p), some (Ex.at x e).d, some (pathD q), some (.tup ((Ex.at x e).parts.map Ex.d)), none, none, none]) (rngD 0 (Ex.at x e).parts.length) M = ((tyR (ty vs e (q ++ [0])) M).bind fun y M => .ok (some y) M).bind fun o M => (Res.ok ([] : List D) M).bind fun r M => .ok (o.toList ++ r) M := by
        rw [← t1]
        rfl
      generalize ty vs e (q ++ [0]) = o at w c1
      cases o with
      | error z => exact w trivial c1
      | ok t => exact w rfl c1
  | no e ih =>
      intro n q hn hq
      obtain ⟨m, rfl⟩ : ∃ j, n = j + 1 := ⟨n - 1, by omega⟩
      simp only [Ex.deep] at hn hq
      have i1 := ih m (q ++ [0]) (by omega) (by simp; omega)
      have t1 := ta_turn (R := rt prg m) (e := (Ex.no e).d) (es := [e.d]) (q := q) (k := 0) (x := e.d) (p := p) (M := M) (by omega) rfl i1
      have w := whole (.no e) m q (match ty vs e (q ++ [0]) with | .ok t => .ok [t] | .error z => .error z) (by omega)
      show _ = tyR (match ty vs e (q ++ [0]) with | .error r => .error r | .ok t => match made vs (.no e) [t] with | some t => .ok t | none => .error q) M
      have c1 : compL (taTurn (rt prg m) [some (.ref p), some (Ex.no e).d, some (pathD q), some (.tup ((Ex.no e).parts.map Ex.d)), none, none, none]) (rngD 0 (Ex.no e).parts.length) M = ((tyR (ty vs e (q ++ [0])) M).bind fun y M => .ok (some y) M).bind fun o M => (Res.ok ([] : List D) M).bind fun r M => .ok (o.toList ++ r) M := by
        rw [← t1]
        rfl
      generalize ty vs e (q ++ [0]) = o at w c1
      cases o with
      | error z => exact w trivial c1
      | ok t => exact w rfl c1
  | op o a b iha ihb =>
      intro n q hn hq
      obtain ⟨m, rfl⟩ : ∃ j, n = j + 1 := ⟨n - 1, by omega⟩
      simp only [Ex.deep] at hn hq
      have i1 := iha m (q ++ [0]) (by omega) (by simp; omega)
      have i2 := ihb m (q ++ [1]) (by omega) (by simp; omega)
      have t1 := ta_turn (R := rt prg m) (e := (Ex.op o a b).d) (es := [a.d, b.d]) (q := q) (k := 0) (x := a.d) (p := p) (M := M) (by omega) rfl i1
      have t2 := ta_turn (R := rt prg m) (e := (Ex.op o a b).d) (es := [a.d, b.d]) (q := q) (k := 1) (x := b.d) (p := p) (M := M) (by omega) rfl i2
      have w := whole (.op o a b) m q (match ty vs a (q ++ [0]) with | .ok t => (match ty vs b (q ++ [1]) with | .ok u => .ok [t, u] | .error z => .error z) | .error z => .error z) (by omega)
      show _ = tyR (match ty vs a (q ++ [0]) with | .error r => .error r | .ok t => match ty vs b (q ++ [1]) with | .error r => .error r | .ok u => match made vs (.op o a b) [t, u] with | some t => .ok t | none => .error q) M
      have c1 : compL (taTurn (rt prg m) [some (.ref p), some (Ex.op o a b).d, some (pathD q), some (.tup ((Ex.op o a b).parts.map Ex.d)), none, none, none]) (rngD 0 (Ex.op o a b).parts.length) M = ((tyR (ty vs a (q ++ [0])) M).bind fun y M => .ok (some y) M).bind fun o1 M' =>
          (((taTurn (rt prg m) [some (.ref p), some (Ex.op o a b).d, some (pathD q), some (.tup [a.d, b.d]), none, none, none] (.int ((1 : Nat) : Int)) M').bind fun o M => (Res.ok ([] : List D) M).bind fun r M => .ok (o.toList ++ r) M)).bind fun r M => .ok (o1.toList ++ r) M := by
        rw [← t1]
        rfl
      generalize ty vs a (q ++ [0]) = u at w c1
      cases u with
      | error z => exact w trivial c1
      | ok t =>
        have c2 : compL (taTurn (rt prg m) [some (.ref p), some (Ex.op o a b).d, some (pathD q), some (.tup ((Ex.op o a b).parts.map Ex.d)), none, none, none]) (rngD 0 (Ex.op o a b).parts.length) M = ((taTurn (rt prg m) [some (.ref p), some (Ex.op o a b).d, some (pathD q), some (.tup [a.d, b.d]), none, none, none] (.int ((1 : Nat) : Int)) M).bind fun o M => (Res.ok ([] : List D) M).bind fun r M => .ok (o.toList ++ r) M).bind fun r M => .ok ([D.str t.s] ++ r) M := c1
        rw [t2] at c2
        generalize ty vs b (q ++ [1]) = u at w c2
        cases u with
        | error z => exact w trivial c2
        | ok u => exact w rfl c2
end Mi.K05

end
section
/-! K05m2: statements. -/
namespace Mi.K05
open PySem L2
variable {M : Hm} {p : Nat} {nm : Str} {vs : List Va} {procs body : D}
theorem type_of_eq (h : PrgAt M p nm vs procs body) (e : Ex) (n : Nat) (hn : e.deep + 3 ≤ n) (hd : e.deep ≤ 1000) : (rt prg n).call g_type_of [some (.ref p), some e.d] [] M = tyR (ty vs e []) M := by
  obtain ⟨m, rfl⟩ : ∃ j, n = j + 1 := ⟨n - 1, by omega⟩
  have hc := type_at_eq h e m [] (by omega) (by simpa using hd)
  rw [call_type_of_2]
  unfold b_type_of
  cases hr : ty vs e [] with
  | ok t =>
    rw [hr] at hc
    rw [x_ret (x_rete (x_call (a := ([some (.ref p), some e.d, some (pathD [])], [])) rfl hc))]
    rfl
  | error z =>
    rw [hr] at hc
    have e1 : exec prg (rt prg m) [] (.ret (.call g_type_at (.cons (.var 0) (.cons (.var 1) (.cons (.tup .nil) .nil))))) [some (.ref p), some e.d] M = .exc 1 (pathD z) [some (.ref p), some e.d] M := by
      show (ev _ _ _ _ _ _).st _ _ = _
      rw [x_call (a := ([some (.ref p), some e.d, some (pathD [])], [])) rfl hc]
      rfl
    rw [x_exc e1]
    rfl
def optD : Option D → D
  | some d => d
  | none => .non
def partsF (vs : List Va) : Nat → List Ex → List Ki → Option D
  | k, e :: es, d :: ds => match ty vs e [] with
    | .error z => some (.tup [.str "part", .int ((k : Nat) : Int), pathD z])
    | .ok t => if t = d then partsF vs (k + 1) es ds else some (.tup [.str "type", .int ((k : Nat) : Int)])
  | _, _, _ => none
abbrev pfTurn (R : Rt) : D → Env → Hm → SR := fun d σ M => (asg prg R [] (.nm 3) d σ M).put fun σ M => execs prg R [] b_parts_fault_3 σ M
theorem pf_turn {n : Nat} (h : PrgAt M p nm vs procs body) {es ds : List D} {k : Nat} {e : Ex} {d : Ki} (hn : e.deep + 3 ≤ n) (hd : e.deep ≤ 1000) (h1 : opIx (.tup es) (.int ((k : Nat) : Int)) M = some e.d) (h2 : opIx (.tup ds) (.int ((k : Nat) : Int)) M = some (.str d.s)) (o1 o2 o3 : Option D) :
    pfTurn (rt prg n) (.int ((k : Nat) : Int)) [some (.ref p), some (.tup es), some (.tup ds), o1, o2, o3] M = match ty vs e [] with
    | .error z => .ret (.tup [.str "part", .int ((k : Nat) : Int), pathD z]) M
    | .ok t => if t = d then .nxt [some (.ref p), some (.tup es), some (.tup ds), some (.int ((k : Nat) : Int)), some (.str t.s), o3] M else .ret (.tup [.str "type", .int ((k : Nat) : Int)]) M := by
  have hc := type_of_eq h e n hn hd
  have ha : evA prg (rt prg n) [] (.cons (.var 0) (.cons (.ix (.var 1) (.var 3)) .nil)) 0 [some (.ref p), some (.tup es), some (.tup ds), some (.int ((k : Nat) : Int)), o2, o3] M = .ok ([some (.ref p), some e.d], []) M := by
    refine evA_ok (a := ([some e.d], [])) (M1 := M) rfl rfl (evA_ok (d := e.d) (M1 := M) (a := ([], [])) rfl ?_ rfl)
    show lift (opIx (.tup es) (.int ((k : Nat) : Int)) M) M = _
    rw [h1]
    rfl
  show execs prg (rt prg n) [] b_parts_fault_3 [some (.ref p), some (.tup es), some (.tup ds), some (.int ((k : Nat) : Int)), o2, o3] M = _
  unfold b_parts_fault_3
  cases hr : ty vs e [] with
  | error z =>
    rw [hr] at hc
    have e2 : execs prg (rt prg n) [] b_parts_fault_2 [some (.ref p), some (.tup es), some (.tup ds), some (.int ((k : Nat) : Int)), o2, o3] M = .exc 1 (pathD z) [some (.ref p), some (.tup es), some (.tup ds), some (.int ((k : Nat) : Int)), o2, o3] M := x_exc (x_asg_exc (x_call ha hc))
    exact x_ret ((x_try e2).trans rfl)
  | ok t =>
    rw [hr] at hc
    have e2 : execs prg (rt prg n) [] b_parts_fault_2 [some (.ref p), some (.tup es), some (.tup ds), some (.int ((k : Nat) : Int)), o2, o3] M = .nxt [some (.ref p), some (.tup es), some (.tup ds), some (.int ((k : Nat) : Int)), some (.str t.s), o3] M := (x_seq (x_nm (x_call ha hc) rfl)).trans rfl
    rw [x_seq ((x_try e2).trans rfl)]
    have hk : evT prg (rt prg n) [] (.cmp .ne (.var 4) (.ix (.var 2) (.var 3))) [some (.ref p), some (.tup es), some (.tup ds), some (.int ((k : Nat) : Int)), some (.str t.s), o3] M = .ok (!decide (t = d)) M :=
      ev_cmpT (x := .str t.s) (y := .str d.s) (M1 := M) rfl (ev_ix (x := .tup ds) (y := .int ((k : Nat) : Int)) (M1 := M) rfl rfl h2) (by cases t <;> cases d <;> rfl)
    have hb : execs prg (rt prg n) [] b_parts_fault_1 [some (.ref p), some (.tup es), some (.tup ds), some (.int ((k : Nat) : Int)), some (.str t.s), o3] M = .ret (.tup [.str "type", .int ((k : Nat) : Int)]) M := rfl
    rw [x_ifr hk hb]
    by_cases htd : t = d
    · subst htd
      simp
      rfl
    · simp [htd]
theorem fsome {α : Type} {a b : α} (h : a = b) : some a = some b := by rw [h]
/-- what parts_fault answers -/
theorem parts_fault_eq (h : PrgAt M p nm vs procs body) (n : Nat) (es : List Ex) (ds : List Ki) (hl : es.length = ds.length) (h2 : es.length ≤ 2) (hn : ∀ e ∈ es, e.deep + 4 ≤ n ∧ e.deep ≤ 1000) (hn1 : 1 ≤ n) :
    (rt prg n).call g_parts_fault [some (.ref p), some (.tup (es.map Ex.d)), some (.tup (ds.map fun t => .str t.s))] [] M = .ok (optD (partsF vs 0 es ds)) M := by
  obtain ⟨m, rfl⟩ : ∃ j, n = j + 1 := ⟨n - 1, by omega⟩
  rw [call_parts_fault_3]
  unfold b_parts_fault
  match es, ds, hl, h2 with
  | [], [], _, _ => kernel_rfl
  | [e], [d], _, _ =>
    have t0 := pf_turn (n := m) h (es := [e.d]) (ds := [.str d.s]) (k := 0) (e := e) (d := d) (by have := (hn e (by simp)).1; omega) (hn e (by simp)).2 rfl rfl none none none
    show ((exec prg (rt prg m) [] (.fr (.nm 3) _ _) [some (.ref p), some (.tup [e.d]), some (.tup [.str d.s]), none, none, none] M).andThen _).res = _
    have ei : evI prg (rt prg m) [] (.rng1 (.bi .len false (.cons (.var 1) .nil))) [some (.ref p), some (.tup [e.d]), some (.tup [.str d.s]), none, none, none] M = .ok (.items [.int ((0 : Nat) : Int)]) M := by kernel_rfl
    rw [x_for ei, forL_cons t0]
    unfold partsF
    cases ty vs e [] with
    | error z => rfl
    | ok t =>
      by_cases htd : t = d
      · simp only [htd, if_true]
        rfl
      · simp only [htd, if_false]
        rfl
  | [e, e'], [d, d'], _, _ =>
    have t0 := pf_turn (n := m) h (es := [e.d, e'.d]) (ds := [.str d.s, .str d'.s]) (k := 0) (e := e) (d := d) (by have := (hn e (by simp)).1; omega) (hn e (by simp)).2 rfl rfl none none none
    have t1 := fun o1 o2 o3 => pf_turn (n := m) h (es := [e.d, e'.d]) (ds := [.str d.s, .str d'.s]) (k := 1) (e := e') (d := d') (by have := (hn e' (by simp)).1; omega) (hn e' (by simp)).2 rfl rfl o1 o2 o3
    show ((exec prg (rt prg m) [] (.fr (.nm 3) _ _) [some (.ref p), some (.tup [e.d, e'.d]), some (.tup [.str d.s, .str d'.s]), none, none, none] M).andThen _).res = _
    have ei : evI prg (rt prg m) [] (.rng1 (.bi .len false (.cons (.var 1) .nil))) [some (.ref p), some (.tup [e.d, e'.d]), some (.tup [.str d.s, .str d'.s]), none, none, none] M = .ok (.items [.int ((0 : Nat) : Int), .int ((1 : Nat) : Int)]) M := by kernel_rfl
    rw [x_for ei, forL_cons t0]
    unfold partsF
    cases ty vs e [] with
    | error z => rfl
    | ok t =>
      by_cases htd : t = d
      · simp only [htd, if_true]
        show ((forL (pfTurn (rt prg m)) [.int ((1 : Nat) : Int)] _ M).andThen _).res = _
        rw [forL_cons (t1 _ _ _)]
        unfold partsF
        cases ty vs e' [] with
        | error z => rfl
        | ok t' =>
          by_cases htd' : t' = d'
          · simp only [htd', if_true]
            rfl
          · simp only [htd', if_false]
            rfl
      · simp only [htd, if_false]
        rfl
end Mi.K05

end
section
/-! K05m3: a statement's own fault. -/
namespace Mi.K05
open PySem L2
mutual
inductive St
  | set (x : Str) (e : Ex)
  | put (x : Str) (a e : Ex)
  | iff (c : Ex) (a b : Sts)
  | whl (c : Ex) (a : Sts)
  | call (x : Str)
  | stop
  | shw (e : Ex)
inductive Sts
  | nil
  | cons (s : St) (r : Sts)
end
mutual
def St.d : St → D
  | .set x e => .tup [.str "set", .str x, e.d]
  | .put x a e => .tup [.str "put", .str x, a.d, e.d]
  | .iff c a b => .tup [.str "if", c.d, .tup a.ds, .tup b.ds]
  | .whl c a => .tup [.str "while", c.d, .tup a.ds]
  | .call x => .tup [.str "call", .str x]
  | .stop => .tup [.str "stop"]
  | .shw e => .tup [.str "show", e.d]
def Sts.ds : Sts → List D
  | .nil => []
  | .cons s r => s.d :: r.ds
end
/-- a proc's name; none: the body -/
def nmD : Option Str → D
  | some x => .str x
  | none => .non
def callF (bs : List (Option Str)) (x : Str) : Option D := if some x ∈ bs then none else some (.tup [.str "call", .str x])
/-- a statement's own fault -/
def stF (vs : List Va) (bs : List (Option Str)) : St → Option D
  | .call x => callF bs x
  | .set x e => match findV vs x with
    | some r => if r.k = .row then some (.tup [.str "name", .str x]) else partsF vs 0 [e] [r.k]
    | none => some (.tup [.str "name", .str x])
  | .put x a e => match findV vs x with
    | some r => if r.k = .row then partsF vs 0 [a, e] [.word, .word] else some (.tup [.str "name", .str x])
    | none => some (.tup [.str "name", .str x])
  | .stop => none
  | .shw e => partsF vs 0 [e] [.word]
  | .iff c _ _ => partsF vs 0 [c] [.bit]
  | .whl c _ => partsF vs 0 [c] [.bit]
/-- the expressions of a statement itself -/
def St.exs : St → List Ex
  | .set _ e => [e]
  | .put _ a e => [a, e]
  | .shw e => [e]
  | .iff c _ _ => [c]
  | .whl c _ => [c]
  | _ => []
variable {M : Hm} {p b : Nat} {nm : Str} {vs : List Va} {procs body : D} {bs : List (Option Str)}
theorem in_before (hb : M[b]? = some (.lst (bs.map nmD))) (x : Str) : opCmp .isin (.str x) (.ref b) M = some (decide (some x ∈ bs)) := by
  show inD (.str x) (.ref b) M = _
  unfold inD items?
  simp only [hb]
  have e1 : (bs.map nmD).all flatD = true := by
    rw [List.all_eq_true]
    intro d hd
    obtain ⟨o, _, rfl⟩ := List.mem_map.mp hd
    cases o <;> rfl
  have e2 : ((bs.map nmD).any fun z => eqF z (.str x)) = decide (some x ∈ bs) := by
    induction bs with
    | nil => rfl
    | cons o bs ih =>
      rw [List.map_cons, List.any_cons]
      have q : eqF (nmD o) (.str x) = decide (some x = o) := by
        cases o with
        | none => simp [nmD, eqF]
        | some y =>
          show (y == x) = _
          by_cases hy : y = x
          · simp [hy]
          · have : ¬ (some x = some y) := fun z => hy (Option.some.inj z).symm
            simp [hy, this]
      have a2 : (bs.map nmD).all flatD = true := by rw [List.map_cons, List.all_cons, Bool.and_eq_true] at e1; exact e1.2
      have ih2 : ((bs.map nmD).any fun z => eqF z (.str x)) = decide (some x ∈ bs) := by
        clear ih e1 hb a2 q
        induction bs with
        | nil => rfl
        | cons o bs ih =>
          rw [List.map_cons, List.any_cons, ih]
          have q : eqF (nmD o) (.str x) = decide (some x = o) := by
            cases o with
            | none => simp [nmD, eqF]
            | some y =>
              show (y == x) = _
              by_cases hy : y = x
              · simp [hy]
              · have : ¬ (some x = some y) := fun z => hy (Option.some.inj z).symm
                simp [hy, this]
          rw [q]
          simp [List.mem_cons]
      rw [q, ih2]
      simp [List.mem_cons]
  rw [e1, e2]
  rfl
theorem statement_fault_eq (h : PrgAt M p nm vs procs body) (hb : M[b]? = some (.lst (bs.map nmD))) (s : St) (n : Nat) (hn : ∀ e ∈ s.exs, e.deep + 5 ≤ n ∧ e.deep ≤ 1000) (h2 : 3 ≤ n) :
    (rt prg n).call g_statement_fault [some (.ref p), some s.d, some (.ref b)] [] M = .ok (optD (stF vs bs s)) M := by
  obtain ⟨m, rfl⟩ : ∃ j, n = j + 2 := ⟨n - 2, by omega⟩
  rw [call_statement_fault_3]
  cases s with
  | stop => kernel_rfl
  | call x =>
    have ei := in_before hb x
    have e0 : execs prg (rt prg (m + 1)) [] b_statement_fault [some (.ref p), some (St.call x).d, some (.ref b), none, none, none] M = (execs prg (rt prg (m + 1)) [] b_statement_fault_4 [some (.ref p), some (St.call x).d, some (.ref b), some (.str "call"), none, none] M).andThen (fun σ M => execs prg (rt prg (m + 1)) [] (b_statement_fault.drop 2) σ M) := by kernel_rfl
    rw [e0]
    have hx : ev prg (rt prg (m + 1)) [] (.ife (.cmp .isin (.ix (.var 1) (.cst (.int 1))) (.var 2)) (.cst (.non)) (.tup (.cons (.cst (.str "call")) (.cons (.ix (.var 1) (.cst (.int 1))) .nil)))) [some (.ref p), some (St.call x).d, some (.ref b), some (.str "call"), none, none] M = .ok (optD (callF bs x)) M := by
      have et : evT prg (rt prg (m + 1)) [] (.cmp .isin (.ix (.var 1) (.cst (.int 1))) (.var 2)) [some (.ref p), some (St.call x).d, some (.ref b), some (.str "call"), none, none] M = .ok (decide (some x ∈ bs)) M := ev_cmpT (x := .str x) (y := .ref b) (M1 := M) rfl rfl ei
      show (evT _ _ _ _ _ _).bind _ = _
      rw [et]
      unfold callF
      by_cases hm : some x ∈ bs
      · simp only [hm, decide_true, if_true]
        rfl
      · simp only [hm, decide_false, if_false]
        rfl
    unfold b_statement_fault_4
    rw [x_ret (x_rete hx)]
    rfl
  | shw e =>
    have hp := parts_fault_eq h (m + 1) [e] [.word] rfl (by simp) (fun e' he => by simp at he; subst he; have := hn e' (by simp [St.exs]); omega) (by omega)
    have e0 : execs prg (rt prg (m + 1)) [] b_statement_fault [some (.ref p), some (St.shw e).d, some (.ref b), none, none, none] M = execs prg (rt prg (m + 1)) [] (b_statement_fault.drop 4) [some (.ref p), some (St.shw e).d, some (.ref b), some (.str "show"), none, none] M := by kernel_rfl
    rw [e0]
    show (execs prg (rt prg (m + 1)) [] (.cons (.ret (.call g_parts_fault _)) .nil) _ M).res = _
    rw [x_ret (x_rete (x_call (a := ([some (.ref p), some (.tup [e.d]), some (.tup [.str "word"])], [])) (by kernel_rfl) hp))]
    rfl
  | iff e a b' =>
    have hp := parts_fault_eq h (m + 1) [e] [.bit] rfl (by simp) (fun e' he => by simp at he; subst he; have := hn e' (by simp [St.exs]); omega) (by omega)
    have e0 : execs prg (rt prg (m + 1)) [] b_statement_fault [some (.ref p), some (St.iff e a b').d, some (.ref b), none, none, none] M = execs prg (rt prg (m + 1)) [] (b_statement_fault.drop 4) [some (.ref p), some (St.iff e a b').d, some (.ref b), some (.str "if"), none, none] M := by kernel_rfl
    rw [e0]
    show (execs prg (rt prg (m + 1)) [] (.cons (.ret (.call g_parts_fault _)) .nil) _ M).res = _
    rw [x_ret (x_rete (x_call (a := ([some (.ref p), some (.tup [e.d]), some (.tup [.str "bit"])], [])) (by kernel_rfl) hp))]
    rfl
  | whl e a =>
    have hp := parts_fault_eq h (m + 1) [e] [.bit] rfl (by simp) (fun e' he => by simp at he; subst he; have := hn e' (by simp [St.exs]); omega) (by omega)
    have e0 : execs prg (rt prg (m + 1)) [] b_statement_fault [some (.ref p), some (St.whl e a).d, some (.ref b), none, none, none] M = execs prg (rt prg (m + 1)) [] (b_statement_fault.drop 4) [some (.ref p), some (St.whl e a).d, some (.ref b), some (.str "while"), none, none] M := by kernel_rfl
    rw [e0]
    show (execs prg (rt prg (m + 1)) [] (.cons (.ret (.call g_parts_fault _)) .nil) _ M).res = _
    rw [x_ret (x_rete (x_call (a := ([some (.ref p), some (.tup [e.d]), some (.tup [.str "bit"])], [])) (by kernel_rfl) hp))]
    rfl
  | set x e =>
    have hv := variable_of_eq h m x
    have e0 : execs prg (rt prg (m + 1)) [] b_statement_fault [some (.ref p), some (St.set x e).d, some (.ref b), none, none, none] M = (execs prg (rt prg (m + 1)) [] b_statement_fault_3 [some (.ref p), some (St.set x e).d, some (.ref b), some (.str "set"), none, none] M).andThen (fun σ M => execs prg (rt prg (m + 1)) [] (b_statement_fault.drop 3) σ M) := by kernel_rfl
    rw [e0]
    unfold b_statement_fault_3
    rw [x_seq (x_nm (x_call (a := ([some (.ref p), some (.str x)], [])) rfl hv) rfl)]
    show _ = Res.ok (optD (match findV vs x with | some r => if r.k = .row then some (.tup [.str "name", .str x]) else partsF vs 0 [e] [r.k] | none => some (.tup [.str "name", .str x]))) M
    generalize findV vs x = o
    cases o with
    | none => kernel_rfl
    | some r =>
      obtain ⟨rk, rx, rv⟩ := r
      show _ = Res.ok (optD (if rk = .row then some (.tup [.str "name", .str x]) else partsF vs 0 [e] [rk])) M
      have hp := parts_fault_eq h (m + 1) [e] [rk] rfl (by simp) (fun e' he => by simp at he; subst he; have := hn e' (by simp [St.exs]); omega) (by omega)
      have go : rk ≠ .row → execs prg (rt prg (m + 1)) [] (.cons (.ife (.bop false (.cons (.cmp .is (.var 4) (.cst (.non))) (.cons (.cmp .ne (.cmp .eq (.ix (.var 4) (.cst (.int 0))) (.cst (.str "row"))) (.cmp .eq (.var 3) (.cst (.str "put")))) .nil))) b_statement_fault_2 .nil) (b_statement_fault_3.drop 2)) [some (.ref p), some (St.set x e).d, some (.ref b), some (.str "set"), some (optVa (some ⟨rk, rx, rv⟩)), none] M = execs prg (rt prg (m + 1)) [] (b_statement_fault_3.drop 3) [some (.ref p), some (St.set x e).d, some (.ref b), some (.str "set"), some (optVa (some ⟨rk, rx, rv⟩)), some (.tup [.str rk.s])] M := by
        intro hk
        cases rk <;> first | exact absurd rfl hk | kernel_rfl
      by_cases hk : rk = .row
      · subst hk
        kernel_rfl
      · rw [if_neg hk]
        refine Eq.trans (congrArg SR.res (congrArg (fun r : SR => r.andThen fun σ M => execs prg (rt prg (m + 1)) [] (b_statement_fault.drop 3) σ M) (go hk))) ?_
        have er : execs prg (rt prg (m + 1)) [] (b_statement_fault_3.drop 3) [some (.ref p), some (St.set x e).d, some (.ref b), some (.str "set"), some (optVa (some ⟨rk, rx, rv⟩)), some (.tup [.str rk.s])] M = .ret (optD (partsF vs 0 [e] [rk])) M :=
          x_ret (x_rete (x_call (a := ([some (.ref p), some (.tup [e.d]), some (.tup [.str rk.s])], [])) (by kernel_rfl) hp))
        rw [er]
        rfl
  | put x a e =>
    have hv := variable_of_eq h m x
    have e0 : execs prg (rt prg (m + 1)) [] b_statement_fault [some (.ref p), some (St.put x a e).d, some (.ref b), none, none, none] M = (execs prg (rt prg (m + 1)) [] b_statement_fault_3 [some (.ref p), some (St.put x a e).d, some (.ref b), some (.str "put"), none, none] M).andThen (fun σ M => execs prg (rt prg (m + 1)) [] (b_statement_fault.drop 3) σ M) := by kernel_rfl
    rw [e0]
    unfold b_statement_fault_3
    rw [x_seq (x_nm (x_call (a := ([some (.ref p), some (.str x)], [])) rfl hv) rfl)]
    show _ = Res.ok (optD (match findV vs x with | some r => if r.k = .row then partsF vs 0 [a, e] [.word, .word] else some (.tup [.str "name", .str x]) | none => some (.tup [.str "name", .str x]))) M
    generalize findV vs x = o
    cases o with
    | none => kernel_rfl
    | some r =>
      obtain ⟨rk, rx, rv⟩ := r
      show _ = Res.ok (optD (if rk = .row then partsF vs 0 [a, e] [.word, .word] else some (.tup [.str "name", .str x]))) M
      have hp := parts_fault_eq h (m + 1) [a, e] [.word, .word] rfl (by simp) (fun e' he => by simp at he; have := hn e' (by simpa [St.exs] using he); omega) (by omega)
      have go : rk = .row → execs prg (rt prg (m + 1)) [] (.cons (.ife (.bop false (.cons (.cmp .is (.var 4) (.cst (.non))) (.cons (.cmp .ne (.cmp .eq (.ix (.var 4) (.cst (.int 0))) (.cst (.str "row"))) (.cmp .eq (.var 3) (.cst (.str "put")))) .nil))) b_statement_fault_2 .nil) (b_statement_fault_3.drop 2)) [some (.ref p), some (St.put x a e).d, some (.ref b), some (.str "put"), some (optVa (some ⟨rk, rx, rv⟩)), none] M = execs prg (rt prg (m + 1)) [] (b_statement_fault_3.drop 3) [some (.ref p), some (St.put x a e).d, some (.ref b), some (.str "put"), some (optVa (some ⟨rk, rx, rv⟩)), some (.tup [.str "word", .str "word"])] M := by
        intro hk
        subst hk
        kernel_rfl
      by_cases hk : rk = .row
      · rw [if_pos hk]
        refine Eq.trans (congrArg SR.res (congrArg (fun r : SR => r.andThen fun σ M => execs prg (rt prg (m + 1)) [] (b_statement_fault.drop 3) σ M) (go hk))) ?_
        have er : execs prg (rt prg (m + 1)) [] (b_statement_fault_3.drop 3) [some (.ref p), some (St.put x a e).d, some (.ref b), some (.str "put"), some (optVa (some ⟨rk, rx, rv⟩)), some (.tup [.str "word", .str "word"])] M = .ret (optD (partsF vs 0 [a, e] [.word, .word])) M :=
          x_ret (x_rete (x_call (a := ([some (.ref p), some (.tup [a.d, e.d]), some (.tup [.str "word", .str "word"])], [])) (by kernel_rfl) hp))
        rw [er]
        rfl
      · rw [if_neg hk]
        cases rk <;> first | exact absurd rfl hk | kernel_rfl
end Mi.K05

end
section
/-! K05m4: the first fault of a body, of a program. -/
namespace Mi.K05
open PySem L2
mutual
/-- the first fault of a block -/
def blF (vs : List Va) (bs : List (Option Str)) (q : List Nat) : Nat → Sts → Option D
  | _, .nil => none
  | k, .cons s r => match stF vs bs s with
    | some f => some (.tup [pathD (q ++ [k]), f])
    | none => match inF vs bs q k s with
      | some f => some f
      | none => blF vs bs q (k + 1) r
/-- of the blocks within a statement -/
def inF (vs : List Va) (bs : List (Option Str)) (q : List Nat) (k : Nat) : St → Option D
  | .iff _ a b => match blF vs bs (q ++ [k, 0]) 0 a with
    | some f => some f
    | none => blF vs bs (q ++ [k, 1]) 0 b
  | .whl _ a => blF vs bs (q ++ [k, 0]) 0 a
  | _ => none
end
def exMax : List Ex → Nat
  | [] => 0
  | e :: es => max e.deep (exMax es)
theorem exMax_le {es : List Ex} {e : Ex} (h : e ∈ es) : e.deep ≤ exMax es := by
  induction es with
  | nil => cases h
  | cons a es ih =>
    rcases List.mem_cons.mp h with rfl | h
    · exact Nat.le_max_left _ _
    · exact Nat.le_trans (ih h) (Nat.le_max_right _ _)
def Sts.len : Sts → Nat
  | .nil => 0
  | .cons _ r => r.len + 1
mutual
/-- the level that is needed -/
def St.need : St → Nat
  | .set _ e => e.deep + 5
  | .put _ a e => max a.deep e.deep + 5
  | .iff c a b => max (c.deep + 5) (max a.need b.need)
  | .whl c a => max (c.deep + 5) a.need
  | .call _ => 3
  | .stop => 3
  | .shw e => e.deep + 5
def Sts.need : Sts → Nat
  | .nil => 1
  | .cons s r => max (max (s.need + 1) r.need) (r.len + 1)
end
theorem len_need (b : Sts) : b.len ≤ b.need := by
  cases b with
  | nil => exact Nat.zero_le _
  | cons s r => exact Nat.le_max_right _ _
theorem deep_pos (e : Ex) : 1 ≤ e.deep := by cases e <;> simp [Ex.deep] <;> omega
theorem need_exs (s : St) : (∀ e ∈ s.exs, e.deep + 5 ≤ s.need) ∧ 3 ≤ s.need := by
  cases s with
  | set x e => simp [St.exs, St.need]
  | put x a e => simp [St.exs, St.need]; omega
  | iff c a b => simp [St.exs, St.need]; omega
  | whl c a => simp [St.exs, St.need]; omega
  | call x => simp [St.exs, St.need]
  | stop => simp [St.exs, St.need]
  | shw e => simp [St.exs, St.need]
theorem ds_len : ∀ b : Sts, b.ds.length = b.len
  | .nil => rfl
  | .cons s r => by show r.ds.length + 1 = _; rw [ds_len r]; rfl
theorem rngD_cons (k n : Nat) : rngD ((k : Nat) : Int) (n + 1) = .int ((k : Nat) : Int) :: rngD (((k + 1 : Nat) : Nat) : Int) n := by
  unfold rngD
  rw [List.range_succ_eq_map, List.map_cons, List.map_map]
  refine congr (congrArg List.cons ?_) (List.map_congr_left fun j _ => ?_)
  · show D.int (((k : Nat) : Int) + ((0 : Nat) : Int)) = _
    simp
  · show D.int (((k : Nat) : Int) + ((j + 1 : Nat) : Int)) = D.int (((k + 1 : Nat) : Int) + ((j : Nat) : Int))
    congr 1
    omega
variable {M : Hm} {p b : Nat} {nm : Str} {vs : List Va} {procs body : D} {bs : List (Option Str)}
theorem tup_at {ds : List D} {k : Nat} {d : D} (h : ds[k]? = some d) : opIx (.tup ds) (.int ((k : Nat) : Int)) M = some d := by
  show L2.atI ds ((k : Nat) : Int) = some d
  exact atI_nat h
theorem partsF_tup {k : Nat} {es : List Ex} {ds : List Ki} {f : D} : partsF vs k es ds = some f → ∃ xs, f = .tup xs := by
  induction es generalizing k ds with
  | nil => intro h; cases ds <;> cases h
  | cons e es ih =>
    intro h
    cases ds with
    | nil => cases h
    | cons d ds =>
      have h : (match ty vs e [] with
        | .error z => some (D.tup [.str "part", .int ((k : Nat) : Int), pathD z])
        | .ok t => if t = d then partsF vs (k + 1) es ds else some (.tup [.str "type", .int ((k : Nat) : Int)])) = some f := h
      split at h
      · cases h; exact ⟨_, rfl⟩
      · split at h
        · exact ih h
        · cases h; exact ⟨_, rfl⟩
theorem stF_tup {s : St} {f : D} (h : stF vs bs s = some f) : ∃ xs, f = .tup xs := by
  cases s with
  | call x =>
    have h : (if some x ∈ bs then none else some (D.tup [.str "call", .str x])) = some f := h
    split at h
    · cases h
    · cases h; exact ⟨_, rfl⟩
  | stop => cases h
  | shw e => exact partsF_tup h
  | iff c a b => exact partsF_tup h
  | whl c a => exact partsF_tup h
  | set x e =>
    have h : (match findV vs x with | some r => if r.k = .row then some (D.tup [.str "name", .str x]) else partsF vs 0 [e] [r.k] | none => some (.tup [.str "name", .str x])) = some f := h
    split at h
    · split at h
      · cases h; exact ⟨_, rfl⟩
      · exact partsF_tup h
    · cases h; exact ⟨_, rfl⟩
  | put x a e =>
    have h : (match findV vs x with | some r => if r.k = .row then partsF vs 0 [a, e] [.word, .word] else some (D.tup [.str "name", .str x]) | none => some (.tup [.str "name", .str x])) = some f := h
    split at h
    · split at h
      · exact partsF_tup h
      · cases h; exact ⟨_, rfl⟩
    · cases h; exact ⟨_, rfl⟩
mutual
theorem blF_tup (vs : List Va) (bs : List (Option Str)) : ∀ (b : Sts) (q : List Nat) (k : Nat) (f : D), blF vs bs q k b = some f → ∃ xs, f = .tup xs
  | .nil, q, k, f, h => by cases h
  | .cons s r, q, k, f, h => by
    unfold blF at h
    split at h
    · cases h; exact ⟨_, rfl⟩
    · split at h
      · rename_i g hg
        cases h
        exact inF_tup vs bs s q k _ hg
      · exact blF_tup vs bs r q (k + 1) f h
theorem inF_tup (vs : List Va) (bs : List (Option Str)) : ∀ (s : St) (q : List Nat) (k : Nat) (f : D), inF vs bs q k s = some f → ∃ xs, f = .tup xs
  | .iff c a b, q, k, f, h => by
    unfold inF at h
    split at h
    · rename_i g hg
      cases h
      exact blF_tup vs bs a _ _ _ hg
    · exact blF_tup vs bs b _ _ _ h
  | .whl c a, q, k, f, h => blF_tup vs bs a _ _ _ h
  | .set _ _, q, k, f, h => by cases h
  | .put _ _ _, q, k, f, h => by cases h
  | .call _, q, k, f, h => by cases h
  | .stop, q, k, f, h => by cases h
  | .shw _, q, k, f, h => by cases h
end
mutual
theorem blF_two (vs : List Va) (bs : List (Option Str)) : ∀ (b : Sts) (q : List Nat) (k : Nat) (f : D), blF vs bs q k b = some f → ∃ a c, f = .tup [a, c]
  | .nil, q, k, f, h => by cases h
  | .cons s r, q, k, f, h => by
    unfold blF at h
    split at h
    · cases h; exact ⟨_, _, rfl⟩
    · split at h
      · rename_i g hg
        cases h
        exact inF_two vs bs s q k _ hg
      · exact blF_two vs bs r q (k + 1) f h
theorem inF_two (vs : List Va) (bs : List (Option Str)) : ∀ (s : St) (q : List Nat) (k : Nat) (f : D), inF vs bs q k s = some f → ∃ a c, f = .tup [a, c]
  | .iff c a b, q, k, f, h => by
    unfold inF at h
    split at h
    · rename_i g hg
      cases h
      exact blF_two vs bs a _ _ _ hg
    · exact blF_two vs bs b _ _ _ h
  | .whl c a, q, k, f, h => blF_two vs bs a _ _ _ h
  | .set _ _, q, k, f, h => by cases h
  | .put _ _ _, q, k, f, h => by cases h
  | .call _, q, k, f, h => by cases h
  | .stop, q, k, f, h => by cases h
  | .shw _, q, k, f, h => by cases h
end
abbrev bfIn (R : Rt) : D → Env → Hm → SR := fun d σ M => (asg prg R [] (.nm 6) d σ M).put fun σ M => execs prg R [] b_body_fault_3 σ M
abbrev bfT (R : Rt) : D → Env → Hm → SR := fun d σ M => (asg prg R [] (.nm 4) d σ M).put fun σ M => execs prg R [] b_body_fault_5 σ M
/-- the frame of body_fault -/
abbrev bfS (p : Nat) (bd : D) (b : Nat) (q : List Nat) (k : Nat) (o1 o2 : Option D) : Env := [some (.ref p), some bd, some (.ref b), some (pathD q), some (.int ((k : Nat) : Int)), o1, o2]
/-- a turn over the parts of an if, a while -/
theorem bf_in {m : Nat} {ds xs : List D} {q : List Nat} {k j : Nat} {kd : Str} {rest : List D} {a : Sts} (hk : ds[k]? = some (.tup xs)) (hkd : xs = .str kd :: rest) (hif : kd = "if" ∨ kd = "while") (hj : xs[j + 2]? = some (.tup a.ds)) (hq : q.length ≤ 1000)
    (hr : (rt prg m).call g_body_fault [some (.ref p), some (.tup a.ds), some (.ref b), some (pathD (q ++ [k, j]))] [] M = .ok (optD (blF vs bs (q ++ [k, j]) 0 a)) M) (o1 o2 : Option D) :
    bfIn (rt prg m) (.int (((j + 2 : Nat) : Nat) : Int)) (bfS p (.tup ds) b q k o1 o2) M = match blF vs bs (q ++ [k, j]) 0 a with
      | some f => .ret f M
      | none => .nxt (bfS p (.tup ds) b q k (some .non) (some (.int (((j + 2 : Nat) : Nat) : Int)))) M := by
  show execs prg (rt prg m) [] b_body_fault_3 (bfS p (.tup ds) b q k o1 (some (.int (((j + 2 : Nat) : Nat) : Int)))) M = _
  have h0 : ev prg (rt prg m) [] (.ix (.var 1) (.var 4)) (bfS p (.tup ds) b q k o1 (some (.int (((j + 2 : Nat) : Nat) : Int)))) M = .ok (.tup xs) M := ev_ix (x := .tup ds) (y := .int ((k : Nat) : Int)) (M1 := M) rfl rfl (atI_nat hk)
  have h1 : ev prg (rt prg m) [] (.ix (.ix (.var 1) (.var 4)) (.cst (.int 0))) (bfS p (.tup ds) b q k o1 (some (.int (((j + 2 : Nat) : Nat) : Int)))) M = .ok (.str kd) M := ev_ix (x := .tup xs) (y := .int 0) (M1 := M) h0 rfl (by subst hkd; exact tup_at (k := 0) (ds := .str kd :: rest) rfl)
  have ht : evT prg (rt prg m) [] (.cmp .isin (.ix (.ix (.var 1) (.var 4)) (.cst (.int 0))) (.tup (.cons (.cst (.str "if")) (.cons (.cst (.str "while")) .nil)))) (bfS p (.tup ds) b q k o1 (some (.int (((j + 2 : Nat) : Nat) : Int)))) M = .ok true M :=
    ev_cmpT (x := .str kd) (y := .tup [.str "if", .str "while"]) (M1 := M) h1 rfl (by rcases hif with e | e <;> subst e <;> rfl)
  have hp : ev prg (rt prg m) [] (.bin .add false (.var 3) (.tup (.cons (.var 4) (.cons (.bin .sub false (.var 6) (.cst (.int 2))) .nil)))) (bfS p (.tup ds) b q k o1 (some (.int (((j + 2 : Nat) : Nat) : Int)))) M = .ok (pathD (q ++ [k, j])) M := by
    refine ev_bin (x := pathD q) (y := .tup [.int ((k : Nat) : Int), .int ((((j + 2 : Nat) : Nat) : Int) - 2)]) (M1 := M) (M2 := M) rfl rfl ?_
    unfold pathD
    rw [tup_add (by rw [List.length_map]; simp; omega), List.map_append]
    show Res.ok (D.tup (_ ++ [D.int ((k : Nat) : Int), D.int ((((j + 2 : Nat) : Nat) : Int) - 2)])) M = Res.ok (D.tup (_ ++ [D.int ((k : Nat) : Int), D.int ((j : Nat) : Int)])) M
    rw [show (((j + 2 : Nat) : Nat) : Int) - 2 = ((j : Nat) : Int) from by omega]
  have h2 : ev prg (rt prg m) [] (.ix (.ix (.var 1) (.var 4)) (.var 6)) (bfS p (.tup ds) b q k o1 (some (.int (((j + 2 : Nat) : Nat) : Int)))) M = .ok (.tup a.ds) M := ev_ix (x := .tup xs) (y := .int (((j + 2 : Nat) : Nat) : Int)) (M1 := M) h0 rfl (atI_nat hj)
  unfold b_body_fault_3
  rw [x_ifs ht, if_pos rfl]
  unfold b_body_fault_2
  rw [x_seq (x_nm (x_call (a := ([some (.ref p), some (.tup a.ds), some (.ref b), some (pathD (q ++ [k, j]))], [])) (evA_ok (a := ([some (.tup a.ds), some (.ref b), some (pathD (q ++ [k, j]))], [])) (M1 := M) rfl rfl (evA_ok (a := ([some (.ref b), some (pathD (q ++ [k, j]))], [])) (M1 := M) rfl h2 (evA_ok (a := ([some (pathD (q ++ [k, j]))], [])) (M1 := M) rfl rfl (evA_ok (a := ([], [])) (M1 := M) rfl hp rfl)))) hr) rfl)]
  cases ho : blF vs bs (q ++ [k, j]) 0 a with
  | none => rfl
  | some f =>
    obtain ⟨ys, rfl⟩ := blF_tup vs bs a _ _ _ ho
    rfl
theorem forL_nil {turn : D → Env → Hm → SR} {σ : Env} : forL turn [] σ M = .nxt σ M := rfl
/-- what a turn leaves: the fault's and j's slots are free to change -/
def bfRes (p : Nat) (bd : D) (b : Nat) (q : List Nat) (k : Nat) (M : Hm) (r : SR) (f : Option D) : Prop := match f with
  | some f => r = .ret f M
  | none => ∃ o1 o2, r = .nxt (bfS p bd b q k o1 o2) M
theorem bf_noloop {m : Nat} {ds xs : List D} {q : List Nat} {k : Nat} {kd : Str} {rest : List D} (hk : ds[k]? = some (.tup xs)) (hkd : xs = .str kd :: rest) (hif : ¬ (kd = "if" ∨ kd = "while")) (l : List D) (o1 o2 : Option D) :
    ∃ o2', forL (bfIn (rt prg m)) l (bfS p (.tup ds) b q k o1 o2) M = .nxt (bfS p (.tup ds) b q k o1 o2') M := by
  induction l generalizing o2 with
  | nil => exact ⟨o2, rfl⟩
  | cons d l ih =>
    have h0 : ev prg (rt prg m) [] (.ix (.var 1) (.var 4)) (bfS p (.tup ds) b q k o1 (some d)) M = .ok (.tup xs) M := ev_ix (x := .tup ds) (y := .int ((k : Nat) : Int)) (M1 := M) rfl rfl (atI_nat hk)
    have h1 : ev prg (rt prg m) [] (.ix (.ix (.var 1) (.var 4)) (.cst (.int 0))) (bfS p (.tup ds) b q k o1 (some d)) M = .ok (.str kd) M := ev_ix (x := .tup xs) (y := .int 0) (M1 := M) h0 rfl (by subst hkd; exact tup_at (k := 0) (ds := .str kd :: rest) rfl)
    have e : inD (.str kd) (.tup [.str "if", .str "while"]) M = some false := by
      show some (([D.str "if", D.str "while"]).any fun z => eqF z (.str kd)) = some false
      have n1 : (("if" : Str) == kd) = false := by
        have : ("if" : Str) ≠ kd := fun z => hif (.inl z.symm)
        simpa using this
      have n2 : (("while" : Str) == kd) = false := by
        have : ("while" : Str) ≠ kd := fun z => hif (.inr z.symm)
        simpa using this
      show some ((("if" : Str) == kd) || ((("while" : Str) == kd) || false)) = some false
      rw [n1, n2]
      rfl
    have ht : evT prg (rt prg m) [] (.cmp .isin (.ix (.ix (.var 1) (.var 4)) (.cst (.int 0))) (.tup (.cons (.cst (.str "if")) (.cons (.cst (.str "while")) .nil)))) (bfS p (.tup ds) b q k o1 (some d)) M = .ok false M :=
      ev_cmpT (x := .str kd) (y := .tup [.str "if", .str "while"]) (M1 := M) h1 rfl e
    have t : bfIn (rt prg m) d (bfS p (.tup ds) b q k o1 o2) M = .nxt (bfS p (.tup ds) b q k o1 (some d)) M := by
      show execs prg (rt prg m) [] b_body_fault_3 (bfS p (.tup ds) b q k o1 (some d)) M = _
      unfold b_body_fault_3
      rw [x_ifs ht, if_neg Bool.false_ne_true]
      rfl
    rw [forL_cons t]
    exact ih (some d)
theorem bf_turn {m : Nat} (h : PrgAt M p nm vs procs body) (hb : M[b]? = some (.lst (bs.map nmD))) {ds : List D} {q : List Nat} {k : Nat} {s : St} (hk : ds[k]? = some s.d) (hs : s.need ≤ m) (hq : q.length + 2 * m + 2 ≤ 1000)
    (IH : ∀ (a : Sts) (q' : List Nat), a.need ≤ m → q'.length + 2 * m ≤ 1000 → (rt prg m).call g_body_fault [some (.ref p), some (.tup a.ds), some (.ref b), some (pathD q')] [] M = .ok (optD (blF vs bs q' 0 a)) M) (o0 o1 o2 : Option D) :
    bfRes p (.tup ds) b q k M (bfT (rt prg m) (.int ((k : Nat) : Int)) [some (.ref p), some (.tup ds), some (.ref b), some (pathD q), o0, o1, o2] M) (match stF vs bs s with
      | some f => some (.tup [pathD (q ++ [k]), f])
      | none => inF vs bs q k s) := by
  obtain ⟨n1, n2⟩ := need_exs s
  have hst := statement_fault_eq h hb s m (fun e he => ⟨by have := n1 e he; omega, by have := n1 e he; omega⟩) (by omega)
  show bfRes p (.tup ds) b q k M (execs prg (rt prg m) [] b_body_fault_5 (bfS p (.tup ds) b q k o1 o2) M) _
  have h0 : ∀ o1 o2, ev prg (rt prg m) [] (.ix (.var 1) (.var 4)) (bfS p (.tup ds) b q k o1 o2) M = .ok s.d M := fun o1 o2 => ev_ix (x := .tup ds) (y := .int ((k : Nat) : Int)) (M1 := M) rfl rfl (atI_nat hk)
  unfold b_body_fault_5
  rw [x_seq (x_nm (x_call (a := ([some (.ref p), some s.d, some (.ref b)], [])) (evA_ok (a := ([some s.d, some (.ref b)], [])) (M1 := M) rfl rfl (evA_ok (a := ([some (.ref b)], [])) (M1 := M) rfl (h0 _ _) rfl)) hst) rfl)]
  cases ho : stF vs bs s with
  | some f =>
    obtain ⟨ys, rfl⟩ := stF_tup ho
    have hp : ev prg (rt prg m) [] (.bin .add false (.var 3) (.tup (.cons (.var 4) .nil))) (bfS p (.tup ds) b q k (some (.tup ys)) o2) M = .ok (pathD (q ++ [k])) M := ev_bin (x := pathD q) (y := .tup [.int ((k : Nat) : Int)]) (M1 := M) (M2 := M) rfl rfl (path_add (by omega))
    have hr : execs prg (rt prg m) [] b_body_fault_4 (bfS p (.tup ds) b q k (some (.tup ys)) o2) M = .ret (.tup [pathD (q ++ [k]), .tup ys]) M := x_ret (x_rete (ev_tup (evs_ok hp rfl)))
    have ht : evT prg (rt prg m) [] (.cmp .isnot (.var 5) (.cst (.non))) (bfS p (.tup ds) b q k (some (.tup ys)) o2) M = .ok true M := rfl
    show execs prg (rt prg m) [] (.cons (.ife _ b_body_fault_4 .nil) _) (bfS p (.tup ds) b q k (some (.tup ys)) o2) M = _
    rw [x_ifr ht hr, if_pos rfl]
  | none =>
    have ht : evT prg (rt prg m) [] (.cmp .isnot (.var 5) (.cst (.non))) (bfS p (.tup ds) b q k (some .non) o2) M = .ok false M := rfl
    have fin : ∀ {l : List D} {r : SR} {f : Option D}, evI prg (rt prg m) [] (.rng2 (.cst (.int 2)) (.bi .len false (.cons (.ix (.var 1) (.var 4)) .nil))) (bfS p (.tup ds) b q k (some .non) o2) M = .ok (.items l) M → forL (bfIn (rt prg m)) l (bfS p (.tup ds) b q k (some .non) o2) M = r → bfRes p (.tup ds) b q k M r f →
        bfRes p (.tup ds) b q k M (execs prg (rt prg m) [] (.cons (.ife (.cmp .isnot (.var 5) (.cst (.non))) b_body_fault_4 .nil) (.cons (.fr (.nm 6) (.rng2 (.cst (.int 2)) (.bi .len false (.cons (.ix (.var 1) (.var 4)) .nil))) b_body_fault_3) .nil)) (bfS p (.tup ds) b q k (some .non) o2) M) f := by
      intro l r f hI hl hr
      rw [x_ifs ht, if_neg Bool.false_ne_true]
      show bfRes p (.tup ds) b q k M ((exec prg (rt prg m) [] (.fr (.nm 6) _ b_body_fault_3) (bfS p (.tup ds) b q k (some .non) o2) M).andThen fun σ M => .nxt σ M) f
      rw [x_for hI]
      have hl' : forL (fun d σ M => (asg prg (rt prg m) [] (.nm 6) d σ M).put fun σ M => execs prg (rt prg m) [] b_body_fault_3 σ M) l (bfS p (.tup ds) b q k (some .non) o2) M = r := hl
      rw [hl']
      cases f with
      | some f =>
        have hr : r = .ret f M := hr
        rw [hr]
        rfl
      | none =>
        obtain ⟨a1, a2, hr⟩ := hr
        rw [hr]
        exact ⟨_, _, rfl⟩
    have len : ∀ {n : Nat}, biSem .len false [s.d] M = .ok (.int ((n : Nat) : Int)) M → n ≤ 10 → evI prg (rt prg m) [] (.rng2 (.cst (.int 2)) (.bi .len false (.cons (.ix (.var 1) (.var 4)) .nil))) (bfS p (.tup ds) b q k (some .non) o2) M = .ok (.items (rngD 2 (((n : Nat) : Int) - 2).toNat)) M := by
      intro n hn h10
      refine evI_rng2 (x := .int 2) (y := .int ((n : Nat) : Int)) (M1 := M) rfl (ev_bi (evs_ok (h0 _ _) rfl) hn) ?_
      show (if (rngOk 2 && rngOk ((n : Nat) : Int)) = true then Res.ok (Src.items (rngD 2 (((n : Nat) : Int) - 2).toNat)) M else .bad) = _
      rw [if_pos]
      unfold rngOk
      simp
      omega
    cases s with
    | set x e =>
      obtain ⟨o', hn⟩ := bf_noloop (m := m) (b := b) (p := p) (q := q) (M := M) hk rfl (by decide) (rngD 2 1) (some .non) o2
      exact fin (len (n := 3) rfl (by omega)) hn ⟨_, _, rfl⟩
    | put x a e =>
      obtain ⟨o', hn⟩ := bf_noloop (m := m) (b := b) (p := p) (q := q) (M := M) hk rfl (by decide) (rngD 2 2) (some .non) o2
      exact fin (len (n := 4) rfl (by omega)) hn ⟨_, _, rfl⟩
    | call x => exact fin (l := []) (len (n := 2) rfl (by omega)) rfl ⟨_, _, rfl⟩
    | stop => exact fin (l := []) (len (n := 1) rfl (by omega)) rfl ⟨_, _, rfl⟩
    | shw e => exact fin (l := []) (len (n := 2) rfl (by omega)) rfl ⟨_, _, rfl⟩
    | whl c a =>
      simp only [St.need] at hs
      have t := bf_in (m := m) (M := M) (b := b) (p := p) (vs := vs) (bs := bs) (j := 0) (a := a) (kd := "while") hk rfl (.inr rfl) rfl (by omega) (IH a (q ++ [k, 0]) (by omega) (by simp; omega)) (some .non) o2
      refine fin (len (n := 3) rfl (by omega)) (forL_cons t) ?_
      show bfRes p (.tup ds) b q k M _ (blF vs bs (q ++ [k, 0]) 0 a)
      cases blF vs bs (q ++ [k, 0]) 0 a with
      | some f => rfl
      | none => exact ⟨_, _, rfl⟩
    | iff c a a' =>
      simp only [St.need] at hs
      have t := bf_in (m := m) (M := M) (b := b) (p := p) (vs := vs) (bs := bs) (j := 0) (a := a) (kd := "if") hk rfl (.inl rfl) rfl (by omega) (IH a (q ++ [k, 0]) (by omega) (by simp; omega)) (some .non) o2
      have t' := fun o1 o2 => bf_in (m := m) (M := M) (b := b) (p := p) (vs := vs) (bs := bs) (j := 1) (a := a') (kd := "if") hk rfl (.inl rfl) rfl (by omega) (IH a' (q ++ [k, 1]) (by omega) (by simp; omega)) o1 o2
      refine fin (len (n := 4) rfl (by omega)) (forL_cons t) ?_
      show bfRes p (.tup ds) b q k M _ (match blF vs bs (q ++ [k, 0]) 0 a with | some f => some f | none => blF vs bs (q ++ [k, 1]) 0 a')
      cases blF vs bs (q ++ [k, 0]) 0 a with
      | some f => rfl
      | none =>
        show bfRes p (.tup ds) b q k M (forL (bfIn (rt prg m)) [.int (((1 + 2 : Nat) : Nat) : Int)] _ M) (blF vs bs (q ++ [k, 1]) 0 a')
        rw [forL_cons (t' _ _)]
        cases blF vs bs (q ++ [k, 1]) 0 a' with
        | some f => rfl
        | none => exact ⟨_, _, rfl⟩
theorem ds_at : ∀ {blk : Sts} {s : St} {r : Sts}, blk = .cons s r → blk.ds = s.d :: r.ds := fun h => by subst h; rfl
def blRes (p : Nat) (bd : D) (b : Nat) (q : List Nat) (M : Hm) (r : SR) (f : Option D) : Prop := match f with
  | some f => r = .ret f M
  | none => ∃ o0 o1 o2, r = .nxt [some (.ref p), some bd, some (.ref b), some (pathD q), o0, o1, o2] M
/-- first this, else that -/
def orF (x : Option D) (y : Option D) : Option D := match x with
  | some f => some f
  | none => y
def turnF (vs : List Va) (bs : List (Option Str)) (q : List Nat) (k : Nat) (s : St) : Option D := match stF vs bs s with
  | some f => some (.tup [pathD (q ++ [k]), f])
  | none => inF vs bs q k s
theorem blF_cons (s : St) (r : Sts) (q : List Nat) (k : Nat) : blF vs bs q k (.cons s r) = orF (turnF vs bs q k s) (blF vs bs q (k + 1) r) := by
  show (match stF vs bs s with
    | some f => some (D.tup [pathD (q ++ [k]), f])
    | none => match inF vs bs q k s with
      | some f => some f
      | none => blF vs bs q (k + 1) r) = _
  unfold turnF
  cases stF vs bs s with
  | some f => rfl
  | none => rfl
theorem bf_loop {m : Nat} (h : PrgAt M p nm vs procs body) (hb : M[b]? = some (.lst (bs.map nmD))) {ds : List D} {q : List Nat} (hq : q.length + 2 * m + 2 ≤ 1000)
    (IH : ∀ (a : Sts) (q' : List Nat), a.need ≤ m → q'.length + 2 * m ≤ 1000 → (rt prg m).call g_body_fault [some (.ref p), some (.tup a.ds), some (.ref b), some (pathD q')] [] M = .ok (optD (blF vs bs q' 0 a)) M) :
    ∀ (n : Nat) (r : Sts) (k : Nat) (o0 o1 o2 : Option D), r.len = n → ds.drop k = r.ds → r.need ≤ m + 1 → blRes p (.tup ds) b q M (forL (bfT (rt prg m)) (rngD ((k : Nat) : Int) r.len) [some (.ref p), some (.tup ds), some (.ref b), some (pathD q), o0, o1, o2] M) (blF vs bs q k r)
  | n, .nil, k, o0, o1, o2, _, _, _ => ⟨o0, o1, o2, rfl⟩
  | 0, .cons s r, k, o0, o1, o2, hn, _, _ => by cases hn
  | n + 1, .cons s r, k, o0, o1, o2, hn, hd, hs => by
    have hd : ds.drop k = s.d :: r.ds := hd
    have hk : ds[k]? = some s.d := by
      have := List.getElem?_drop (xs := ds) (i := k) (j := 0)
      rw [hd] at this
      simpa using this.symm
    have hd2 : ds.drop (k + 1) = r.ds := by rw [← List.drop_drop, hd]; rfl
    simp only [Sts.need] at hs
    have t := bf_turn (m := m) h hb hk (by omega) hq IH o0 o1 o2
    have t : bfRes p (.tup ds) b q k M _ (turnF vs bs q k s) := t
    rw [blF_cons]
    show blRes p (.tup ds) b q M (forL (bfT (rt prg m)) (rngD ((k : Nat) : Int) (r.len + 1)) _ M) _
    rw [rngD_cons]
    generalize turnF vs bs q k s = x at t
    cases x with
    | some f =>
      have t : bfT (rt prg m) (.int ((k : Nat) : Int)) [some (.ref p), some (.tup ds), some (.ref b), some (pathD q), o0, o1, o2] M = .ret f M := t
      show forL _ _ _ M = .ret f M
      rw [forL_cons t]
      rfl
    | none =>
      obtain ⟨a1, a2, t⟩ := t
      have ih := bf_loop h hb hq IH n r (k + 1) (some (.int ((k : Nat) : Int))) a1 a2 (by have : r.len + 1 = n + 1 := hn; omega) hd2 (by omega)
      rw [forL_cons t]
      exact ih
theorem body_fault_eq (h : PrgAt M p nm vs procs body) (hb : M[b]? = some (.lst (bs.map nmD))) : ∀ (n : Nat) (blk : Sts) (q : List Nat), blk.need ≤ n → q.length + 2 * n ≤ 1000 → (rt prg n).call g_body_fault [some (.ref p), some (.tup blk.ds), some (.ref b), some (pathD q)] [] M = .ok (optD (blF vs bs q 0 blk)) M
  | 0, blk, q, hn, _ => by
    exfalso
    cases blk <;> simp [Sts.need] at hn
  | m + 1, blk, q, hn, hq => by
    have L := bf_loop h hb (ds := blk.ds) (q := q) (m := m) (by omega) (fun a q' ha hq' => body_fault_eq h hb m a q' ha hq') blk.len blk 0 none none none rfl rfl hn
    rw [call_body_fault_4]
    unfold b_body_fault
    have hI : evI prg (rt prg m) [] (.rng1 (.bi .len false (.cons (.var 1) .nil))) [some (.ref p), some (.tup blk.ds), some (.ref b), some (pathD q), none, none, none] M = .ok (.items (rngD ((0 : Nat) : Int) blk.len)) M := by
      have hl : blk.len ≤ m + 1 := Nat.le_trans (len_need blk) hn
      refine evI_rng1 (i := ((blk.len : Nat) : Int)) (ev_bi (evs_ok (d := .tup blk.ds) (M1 := M) rfl rfl) ?_) ?_
      · show Res.ok (D.int ((blk.ds.length : Nat) : Int)) M = _
        rw [ds_len]
      · unfold rngOk
        simp
        omega
    show ((exec prg (rt prg m) [] (.fr (.nm 4) _ b_body_fault_5) _ M).andThen _).res = _
    rw [x_for hI]
    cases hx : blF vs bs q 0 blk with
    | some f =>
      rw [hx] at L
      have L : forL (fun d σ M => (asg prg (rt prg m) [] (.nm 4) d σ M).put fun σ M => execs prg (rt prg m) [] b_body_fault_5 σ M) (rngD ((0 : Nat) : Int) blk.len) [some (.ref p), some (.tup blk.ds), some (.ref b), some (pathD q), none, none, none] M = .ret f M := L
      rw [L]
      rfl
    | none =>
      rw [hx] at L
      obtain ⟨a0, a1, a2, L⟩ := L
      have L : forL (fun d σ M => (asg prg (rt prg m) [] (.nm 4) d σ M).put fun σ M => execs prg (rt prg m) [] b_body_fault_5 σ M) (rngD ((0 : Nat) : Int) blk.len) [some (.ref p), some (.tup blk.ds), some (.ref b), some (pathD q), none, none, none] M = .nxt [some (.ref p), some (.tup blk.ds), some (.ref b), some (pathD q), a0, a1, a2] M := L
      rw [L]
      rfl
end Mi.K05

end
section
/-! K05m5: the first fault of a program. -/
namespace Mi.K05
open PySem L2
abbrev Bd := Option Str × Sts
def bdD (x : Bd) : D := .tup [nmD x.1, .tup x.2.ds]
/-- a fault with its body's name ahead -/
def named (x : Option Str) : D → D
  | .tup f => .tup (nmD x :: f)
  | d => d
def firstF (vs : List Va) : List (Option Str) → List Bd → Option D
  | _, [] => none
  | bs, x :: r => match blF vs bs [] 0 x.2 with
    | some f => some (named x.1 f)
    | none => firstF vs (bs ++ [x.1]) r
variable {M : Hm} {p : Nat} {nm : Str} {vs : List Va} {procs body : D}
theorem PrgAt.app (h : PrgAt M p nm vs procs body) (X : Hm) : PrgAt (M ++ X) p nm vs procs body := ⟨by
  have := h.ins
  rw [List.getElem?_append_left (List.getElem?_eq_some_iff.mp this).1]
  exact this⟩
theorem app_at {o : MO} : (M ++ [o])[M.length]? = some o := by
  rw [List.getElem?_append_right (Nat.le_refl _), Nat.sub_self]
  rfl
theorem app_set {o o' : MO} : (M ++ [o]).set M.length o' = M ++ [o'] := by
  rw [List.set_append_right _ _ (Nat.le_refl _), Nat.sub_self]
  rfl
abbrev pfB (R : Rt) : D → Env → Hm → SR := fun d σ M => (asg prg R [] (.tp (.cons (.nm 2) (.cons (.nm 3) .nil))) d σ M).put fun σ M => execs prg R [] b_program_fault_2 σ M
theorem pb_turn {m : Nat} (h : PrgAt M p nm vs procs body) (bs : List (Option Str)) (x : Bd) (hn : x.2.need ≤ m) (hm : 2 * m ≤ 1000) (hl : bs.length ≤ 1000) (o2 o3 o4 : Option D) :
    pfB (rt prg m) (bdD x) [some (.ref p), some (.ref M.length), o2, o3, o4] (M ++ [.lst (bs.map nmD)]) = match blF vs bs [] 0 x.2 with
      | some f => .ret (named x.1 f) (M ++ [.lst (bs.map nmD)])
      | none => .nxt [some (.ref p), some (.ref M.length), some (nmD x.1), some (.tup x.2.ds), some .non] (M ++ [.lst ((bs ++ [x.1]).map nmD)]) := by
  have hb := body_fault_eq (h.app [.lst (bs.map nmD)]) (bs := bs) (app_at (M := M)) m x.2 [] hn (by simpa using hm)
  show execs prg (rt prg m) [] b_program_fault_2 [some (.ref p), some (.ref M.length), some (nmD x.1), some (.tup x.2.ds), o4] (M ++ [.lst (bs.map nmD)]) = _
  unfold b_program_fault_2
  rw [x_seq (x_nm (x_call (a := ([some (.ref p), some (.tup x.2.ds), some (.ref M.length), some (pathD [])], [])) rfl hb) rfl)]
  cases hf : blF vs bs [] 0 x.2 with
  | some f =>
    obtain ⟨f1, f2, rfl⟩ := blF_two vs bs x.2 _ _ _ hf
    have hr : execs prg (rt prg m) [] b_program_fault_1 [some (.ref p), some (.ref M.length), some (nmD x.1), some (.tup x.2.ds), some (.tup [f1, f2])] (M ++ [.lst (bs.map nmD)]) = .ret (.tup (nmD x.1 :: [f1, f2])) (M ++ [.lst (bs.map nmD)]) := by
      refine x_ret (x_rete (ev_bin (x := .tup [nmD x.1]) (y := .tup [f1, f2]) rfl rfl (tup_add ?_)))
      simp
    have ht : evT prg (rt prg m) [] (.cmp .isnot (.var 4) (.cst (.non))) [some (.ref p), some (.ref M.length), some (nmD x.1), some (.tup x.2.ds), some (.tup [f1, f2])] (M ++ [.lst (bs.map nmD)]) = .ok true (M ++ [.lst (bs.map nmD)]) := rfl
    show execs prg (rt prg m) [] (.cons (.ife _ b_program_fault_1 .nil) _) [some (.ref p), some (.ref M.length), some (nmD x.1), some (.tup x.2.ds), some (.tup [f1, f2])] _ = _
    rw [x_ifr ht hr, if_pos rfl]
    rfl
  | none =>
    have ht : evT prg (rt prg m) [] (.cmp .isnot (.var 4) (.cst (.non))) [some (.ref p), some (.ref M.length), some (nmD x.1), some (.tup x.2.ds), some .non] (M ++ [.lst (bs.map nmD)]) = .ok false (M ++ [.lst (bs.map nmD)]) := rfl
    show execs prg (rt prg m) [] (.cons (.ife _ b_program_fault_1 .nil) _) [some (.ref p), some (.ref M.length), some (nmD x.1), some (.tup x.2.ds), some .non] _ = _
    rw [x_ifs ht, if_neg Bool.false_ne_true]
    show execs prg (rt prg m) [] (.cons (.expr (.bm .append (.var 1) (.cons (.var 2) .nil))) .nil) _ _ = _
    rw [x_seq (x_append (b := M.length) (xs := bs.map nmD) (d := nmD x.1) (M1 := M ++ [.lst (bs.map nmD)]) rfl rfl (by rw [obj_at (app_at (M := M))]; simp) app_at (by rw [List.length_map]; omega)), app_set, List.map_append]
    rfl
theorem pb_loop {m : Nat} (h : PrgAt M p nm vs procs body) (hm : 2 * m ≤ 1000) : ∀ (l : List Bd) (bs : List (Option Str)) (o2 o3 o4 : Option D), (∀ x ∈ l, x.2.need ≤ m) → bs.length + l.length ≤ 1000 → ∃ bs', match firstF vs bs l with
      | some f => forL (pfB (rt prg m)) (l.map bdD) [some (.ref p), some (.ref M.length), o2, o3, o4] (M ++ [.lst (bs.map nmD)]) = .ret f (M ++ [.lst bs'])
      | none => ∃ o2' o3' o4', forL (pfB (rt prg m)) (l.map bdD) [some (.ref p), some (.ref M.length), o2, o3, o4] (M ++ [.lst (bs.map nmD)]) = .nxt [some (.ref p), some (.ref M.length), o2', o3', o4'] (M ++ [.lst bs'])
  | [], bs, o2, o3, o4, _, _ => ⟨bs.map nmD, o2, o3, o4, rfl⟩
  | x :: l, bs, o2, o3, o4, hn, hl => by
    simp only [List.length_cons] at hl
    have t := pb_turn h bs x (hn x List.mem_cons_self) hm (by omega) o2 o3 o4
    have e : firstF vs bs (x :: l) = (match blF vs bs [] 0 x.2 with | some f => some (named x.1 f) | none => firstF vs (bs ++ [x.1]) l) := rfl
    rw [e]
    cases hb : blF vs bs [] 0 x.2 with
    | some f =>
      rw [hb] at t
      refine ⟨bs.map nmD, ?_⟩
      show forL _ (bdD x :: l.map bdD) _ _ = _
      rw [forL_cons t]
      rfl
    | none =>
      rw [hb] at t
      obtain ⟨bs', ih⟩ := pb_loop h hm l (bs ++ [x.1]) (some (nmD x.1)) (some (.tup x.2.ds)) (some .non) (fun y hy => hn y (List.mem_cons_of_mem _ hy)) (by rw [List.length_append]; simp; omega)
      refine ⟨bs', ?_⟩
      show match firstF vs (bs ++ [x.1]) l with
        | some f => forL _ (bdD x :: l.map bdD) _ _ = _
        | none => ∃ o2' o3' o4', forL _ (bdD x :: l.map bdD) _ _ = _
      rw [forL_cons t]
      exact ih
def bodL (prs : List (Str × Sts)) (blk : Sts) : List Bd := prs.map (fun x => (some x.1, x.2)) ++ [(none, blk)]
def prsD (prs : List (Str × Sts)) : D := .tup (prs.map fun x => bdD (some x.1, x.2))
theorem bodies_of_eq {prs : List (Str × Sts)} {blk : Sts} (h : PrgAt M p nm vs (prsD prs) (.tup blk.ds)) (hl : prs.length ≤ 1000) (n : Nat) : (rt prg (n + 1)).call g_bodies_of [some (.ref p)] [] M = .ok (.tup ((bodL prs blk).map bdD)) M := by
  rw [call_bodies_of_1]
  unfold b_bodies_of
  have h1 : ev prg (rt prg n) [] (.fld "procs" (.var 0)) [some (.ref p)] M = .ok (prsD prs) M := by
    show lift (getFld prg "procs" (.ref p) M) M = _
    unfold getFld
    simp only [h.ins]
    rfl
  have h2 : ev prg (rt prg n) [] (.fld "body" (.var 0)) [some (.ref p)] M = .ok (.tup blk.ds) M := by
    show lift (getFld prg "body" (.ref p) M) M = _
    unfold getFld
    simp only [h.ins]
    rfl
  have h3 : ev prg (rt prg n) [] (.tup (.cons (.tup (.cons (.cst .non) (.cons (.fld "body" (.var 0)) .nil))) .nil)) [some (.ref p)] M = .ok (.tup [.tup [.non, .tup blk.ds]]) M := ev_tup (evs_ok (ev_tup (evs_ok rfl (evs_ok h2 rfl))) rfl)
  rw [x_ret (x_rete (ev_bin h1 h3 (tup_add (M := M) (h := false) (by rw [List.length_map]; simp; omega))))]
  unfold bodL
  rw [List.map_append, List.map_map]
  rfl
theorem program_fault_eq {prs : List (Str × Sts)} {blk : Sts} (h : PrgAt M p nm vs (prsD prs) (.tup blk.ds)) {m : Nat} (hm : 2 * m ≤ 1000) (h1 : 1 ≤ m) (hl : prs.length ≤ 900) (hn : ∀ x ∈ bodL prs blk, x.2.need ≤ m) :
    ∃ bs', (rt prg (m + 1)).call g_program_fault [some (.ref p)] [] M = .ok (optD (firstF vs [] (bodL prs blk))) (M ++ [.lst bs']) := by
  have hlen : (bodL prs blk).length ≤ 1000 := by unfold bodL; simp; omega
  obtain ⟨bs', L⟩ := pb_loop h hm (bodL prs blk) [] none none none hn (by simpa using hlen)
  refine ⟨bs', ?_⟩
  obtain ⟨m, rfl⟩ : ∃ j, m = j + 1 := ⟨m - 1, by omega⟩
  have hb := bodies_of_eq (h.app [.lst []]) (by omega) m
  rw [call_program_fault_1]
  unfold b_program_fault
  have hI : evI prg (rt prg (m + 1)) [] (.val (.call g_bodies_of (.cons (.var 0) .nil))) [some (.ref p), some (.ref M.length), none, none, none] (M ++ [.lst []]) = .ok (.items ((bodL prs blk).map bdD)) (M ++ [.lst []]) := by
    show (ev _ _ _ _ _ _).bind _ = _
    rw [x_call (a := ([some (.ref p)], [])) rfl hb]
    rfl
  show ((exec prg (rt prg (m + 1)) [] (.fr _ _ b_program_fault_2) [some (.ref p), some (.ref M.length), none, none, none] (M ++ [.lst []])).andThen _).res = _
  rw [x_for hI]
  cases hx : firstF vs [] (bodL prs blk) with
  | some f =>
    rw [hx] at L
    have L : forL (fun d σ M => (asg prg (rt prg (m + 1)) [] (.tp (.cons (.nm 2) (.cons (.nm 3) .nil))) d σ M).put fun σ M => execs prg (rt prg (m + 1)) [] b_program_fault_2 σ M) ((bodL prs blk).map bdD) [some (.ref p), some (.ref M.length), none, none, none] (M ++ [.lst []]) = .ret f (M ++ [.lst bs']) := L
    rw [L]
    rfl
  | none =>
    rw [hx] at L
    obtain ⟨a0, a1, a2, L⟩ := L
    have L : forL (fun d σ M => (asg prg (rt prg (m + 1)) [] (.tp (.cons (.nm 2) (.cons (.nm 3) .nil))) d σ M).put fun σ M => execs prg (rt prg (m + 1)) [] b_program_fault_2 σ M) ((bodL prs blk).map bdD) [some (.ref p), some (.ref M.length), none, none, none] (M ++ [.lst []]) = .nxt [some (.ref p), some (.ref M.length), a0, a1, a2] (M ++ [.lst bs']) := L
    rw [L]
    rfl
end Mi.K05

end
section
/-! K05m6: the law's own types. -/
namespace Mi.K05
open PySem L2
/-- the law's kinds -/
def kdD (vs : List Va) : D := .dic (vs.map fun r => .inr r.x) (vs.map fun r => .str r.k.s)
theorem kd_get (vs : List Va) (x : Str) : dGet (vs.map fun r => .inr r.x) (vs.map fun r => .str r.k.s) (.inr x) = (findV vs x).map fun r => .str r.k.s := by
  unfold dGet findV
  induction vs with
  | nil => rfl
  | cons r vs ih =>
    rw [List.map_cons, List.map_cons, List.zip_cons_cons]
    by_cases h : r.x = x
    · rw [List.find?_cons_of_pos (by simp [h]), List.find?_cons_of_pos (by simp [h])]
      rfl
    · rw [List.find?_cons_of_neg (by simp [h]), List.find?_cons_of_neg (by simp [h])]
      exact ih
variable {M : Hm} {vs : List Va}
theorem kd_in (x : Str) : opCmp .isin (.str x) (kdD vs) M = some (findV vs x).isSome := by
  show some (dGet _ _ (.inr x)).isSome = _
  rw [kd_get]
  cases findV vs x <;> rfl
theorem kd_ix {x : Str} {r : Va} (h : findV vs x = some r) : opIx (kdD vs) (.str x) M = some (.str r.k.s) := by
  show dGet _ _ (.inr x) = _
  rw [kd_get, h]
  rfl
/-- what the law's _law_type answers -/
def tyL' (r : Except (List Nat) Ki) : D := match r with
  | .ok k => .tup [.str "yes", .str k.s]
  | .error q => .tup [.str "no", pathD q]
/-- the frame of _law_type behind its first three statements -/
abbrev ltS (vs : List Va) (e : Ex) (q : List Nat) (kd : Str) (t : Nat) (o1 o2 o3 : Option D) : Env := [some (kdD vs), some e.d, some (pathD q), some (.str kd), some (.tup (e.parts.map Ex.d)), some (.ref t), o1, o2, o3]
abbrev ltT (R : Rt) : D → Env → Hm → SR := fun d σ M => (asg prg R [] (.nm 6) d σ M).put fun σ M => execs prg R [] b__law_type_6 σ M
theorem lt_turn {m k t : Nat} {e x : Ex} {q : List Nat} {kd : Str} {X : Hm} {acc : List D} {r : Except (List Nat) Ki} (hq : q.length ≤ 1000) (hk : (e.parts.map Ex.d)[k]? = some x.d) (hr : (rt prg m).call g__law_type [some (kdD vs), some x.d, some (pathD (q ++ [k]))] [] M = .ok (tyL' r) (M ++ X)) (ht : M[t]? = some (.lst acc)) (hl : acc.length ≤ 1000) (o1 o2 o3 : Option D) :
    ltT (rt prg m) (.int ((k : Nat) : Int)) (ltS vs e q kd t o1 o2 o3) M = match r with
      | .error z => .ret (tyL' (.error z)) (M ++ X)
      | .ok u => .nxt (ltS vs e q kd t (some (.int ((k : Nat) : Int))) (some (tyL' (.ok u))) o3) ((M.set t (.lst (acc ++ [.str u.s]))) ++ X) := by
  show execs prg (rt prg m) [] b__law_type_6 (ltS vs e q kd t (some (.int ((k : Nat) : Int))) o2 o3) M = _
  have hx : ev prg (rt prg m) [] (.ix (.var 4) (.var 6)) (ltS vs e q kd t (some (.int ((k : Nat) : Int))) o2 o3) M = .ok x.d M := ev_ix (x := .tup (e.parts.map Ex.d)) (y := .int ((k : Nat) : Int)) (M1 := M) rfl rfl (atI_nat hk)
  have hp : ev prg (rt prg m) [] (.bin .add false (.var 2) (.tup (.cons (.var 6) .nil))) (ltS vs e q kd t (some (.int ((k : Nat) : Int))) o2 o3) M = .ok (pathD (q ++ [k])) M := ev_bin (x := pathD q) (y := .tup [.int ((k : Nat) : Int)]) (M1 := M) (M2 := M) rfl rfl (path_add hq)
  unfold b__law_type_6
  rw [x_seq (x_nm (x_call (a := ([some (kdD vs), some x.d, some (pathD (q ++ [k]))], [])) (evA_ok (a := ([some x.d, some (pathD (q ++ [k]))], [])) (M1 := M) rfl rfl (evA_ok (a := ([some (pathD (q ++ [k]))], [])) (M1 := M) rfl hx (evA_ok (a := ([], [])) (M1 := M) rfl hp rfl))) hr) rfl)]
  cases r with
  | error z => rfl
  | ok u =>
    have ht2 : (M ++ X)[t]? = some (.lst acc) := by rw [List.getElem?_append_left (List.getElem?_eq_some_iff.mp ht).1]; exact ht
    have hs : (M ++ X).set t (.lst (acc ++ [.str u.s])) = (M.set t (.lst (acc ++ [.str u.s]))) ++ X := List.set_append_left _ _ (List.getElem?_eq_some_iff.mp ht).1
    have e1 : evT prg (rt prg m) [] (.cmp .eq (.ix (.var 7) (.cst (.int 0))) (.cst (.str "no"))) (ltS vs e q kd t (some (.int ((k : Nat) : Int))) (some (tyL' (.ok u))) o3) (M ++ X) = .ok false (M ++ X) := by kernel_rfl
    show execs prg (rt prg m) [] (.cons (.ife _ b__law_type_5 .nil) _) (ltS vs e q kd t (some (.int ((k : Nat) : Int))) (some (tyL' (.ok u))) o3) (M ++ X) = _
    rw [x_ifs e1, if_neg Bool.false_ne_true]
    show execs prg (rt prg m) [] (.cons (.expr (.bm .append (.var 5) (.cons (.ix (.var 7) (.cst (.int 1))) .nil))) .nil) _ _ = _
    rw [x_seq (x_append (b := t) (xs := acc) (d := .str u.s) (M1 := M ++ X) rfl rfl (by rw [obj_at ht2]; simp) ht2 (by omega)), hs]
    rfl
def Ex.kd : Ex → Str
  | .tf b => tfS b
  | .num _ => "num"
  | .var _ => "var"
  | .at _ _ => "at"
  | .no _ => "not"
  | .op o _ _ => o.s
theorem lt_start (R : Rt) (e : Ex) (q : List Nat) : execs prg R [] b__law_type [some (kdD vs), some e.d, some (pathD q), none, none, none, none, none, none] M = execs prg R [] (b__law_type.drop 3) (ltS vs e q e.kd M.length none none none) (M ++ [.lst []]) := by
  cases e with
  | tf b => cases b <;> kernel_rfl
  | num i => kernel_rfl
  | var x => kernel_rfl
  | «at» x e => kernel_rfl
  | no e => kernel_rfl
  | op o a b => cases o <;> kernel_rfl
/-- behind the loop: the whole is told -/
theorem lt_var (R : Rt) (x : Str) (q : List Nat) (t : Nat) (o1 o2 o3 : Option D) : (execs prg R [] (b__law_type.drop 4) (ltS vs (.var x) q "var" t o1 o2 o3) M).res = .ok (tyL' (match made vs (.var x) [] with | some t => .ok t | none => .error q)) M := by
  have e0 : execs prg R [] (b__law_type.drop 4) (ltS vs (.var x) q "var" t o1 o2 o3) M = (execs prg R [] b__law_type_3 (ltS vs (.var x) q "var" t o1 o2 o3) M).andThen (fun σ M => execs prg R [] (b__law_type.drop 6) σ M) := by kernel_rfl
  rw [e0, show made vs (.var x) [] = (match findV vs x with | some r => if r.k = .row then none else some r.k | none => none) from rfl]
  have hx : ev prg R [] (.ix (.var 1) (.cst (.int 1))) (ltS vs (.var x) q "var" t o1 o2 o3) M = .ok (.str x) M := rfl
  have h1 : evT prg R [] (.cmp .isin (.ix (.var 1) (.cst (.int 1))) (.var 0)) (ltS vs (.var x) q "var" t o1 o2 o3) M = .ok (findV vs x).isSome M := ev_cmpT (x := .str x) (y := kdD vs) (M1 := M) hx rfl (kd_in x)
  cases hf : findV vs x with
  | none =>
    rw [hf] at h1
    have h2 : evT prg R [] (.bop true (.cons (.cmp .isin (.ix (.var 1) (.cst (.int 1))) (.var 0)) (.cons (.cmp .ne (.ix (.var 0) (.ix (.var 1) (.cst (.int 1)))) (.cst (.str "row"))) .nil))) (ltS vs (.var x) q "var" t o1 o2 o3) M = .ok false M := evTB_step h1 rfl
    unfold b__law_type_3
    rw [x_ret (x_rete (ev_ife h2 rfl))]
    rfl
  | some r =>
    rw [hf] at h1
    have hi : ev prg R [] (.ix (.var 0) (.ix (.var 1) (.cst (.int 1)))) (ltS vs (.var x) q "var" t o1 o2 o3) M = .ok (.str r.k.s) M := ev_ix (x := kdD vs) (y := .str x) (M1 := M) rfl hx (kd_ix hf)
    have h3 : evT prg R [] (.cmp .ne (.ix (.var 0) (.ix (.var 1) (.cst (.int 1)))) (.cst (.str "row"))) (ltS vs (.var x) q "var" t o1 o2 o3) M = .ok (!decide (r.k = .row)) M := ev_cmpT (x := .str r.k.s) (y := .str "row") (M1 := M) hi rfl (by obtain ⟨rk, rx, rv⟩ := r; cases rk <;> rfl)
    have h2 : evT prg R [] (.bop true (.cons (.cmp .isin (.ix (.var 1) (.cst (.int 1))) (.var 0)) (.cons (.cmp .ne (.ix (.var 0) (.ix (.var 1) (.cst (.int 1)))) (.cst (.str "row"))) .nil))) (ltS vs (.var x) q "var" t o1 o2 o3) M = .ok (!decide (r.k = .row)) M := evTB_step h1 (by rw [if_pos (show (some r).isSome = true from rfl)]; exact evTB_step h3 (by obtain ⟨rk, rx, rv⟩ := r; cases rk <;> rfl))
    unfold b__law_type_3
    by_cases hk : r.k = .row
    · simp only [hk, decide_true, Bool.not_true] at h2
      rw [x_ret (x_rete (ev_ife h2 rfl))]
      simp only [hk, if_true]
      rfl
    · simp only [hk, decide_false, Bool.not_false] at h2
      have hy : ev prg R [] (.tup (.cons (.cst (.str "yes")) (.cons (.ix (.var 0) (.ix (.var 1) (.cst (.int 1)))) .nil))) (ltS vs (.var x) q "var" t o1 o2 o3) M = .ok (.tup [.str "yes", .str r.k.s]) M := ev_tup (evs_ok rfl (evs_ok hi rfl))
      rw [x_ret (x_rete (ev_ife h2 (by rw [if_pos rfl]; exact hy)))]
      simp only [hk, if_false]
      rfl
theorem told_eq {t : Nat} {u : Ki} (ht : M[t]? = some (.lst [.str u.s])) : opCmp .eq (.ref t) (.lst [.str "word"]) M = some (decide (u = .word)) := by
  show eqD (.ref t) (.lst [.str "word"]) M = _
  unfold eqD cont
  simp only [ht]
  clear ht
  cases u <;> kernel_rfl
theorem lt_at (R : Rt) (x : Str) (e : Ex) (q : List Nat) (t : Nat) (u : Ki) (ht : M[t]? = some (.lst [.str u.s])) (o1 o2 o3 : Option D) : (execs prg R [] (b__law_type.drop 4) (ltS vs (.at x e) q "at" t o1 o2 o3) M).res = .ok (tyL' (match made vs (.at x e) [u] with | some t => .ok t | none => .error q)) M := by
  have e0 : execs prg R [] (b__law_type.drop 4) (ltS vs (.at x e) q "at" t o1 o2 o3) M = (execs prg R [] b__law_type_2 (ltS vs (.at x e) q "at" t o1 o2 o3) M).andThen (fun σ M => execs prg R [] (b__law_type.drop 7) σ M) := by kernel_rfl
  rw [e0, show made vs (.at x e) [u] = (match findV vs x with | some r => if r.k = .row then (if [u] = [.word] then some .word else none) else none | none => none) from rfl]
  have hx : ev prg R [] (.ix (.var 1) (.cst (.int 1))) (ltS vs (.at x e) q "at" t o1 o2 o3) M = .ok (.str x) M := rfl
  have h1 : evT prg R [] (.cmp .isin (.ix (.var 1) (.cst (.int 1))) (.var 0)) (ltS vs (.at x e) q "at" t o1 o2 o3) M = .ok (findV vs x).isSome M := ev_cmpT (x := .str x) (y := kdD vs) (M1 := M) hx rfl (kd_in x)
  have h5 : evT prg R [] (.cmp .eq (.var 5) (.lst false (.cons (.cst (.str "word")) .nil))) (ltS vs (.at x e) q "at" t o1 o2 o3) M = .ok (decide (u = .word)) M := ev_cmpT (x := .ref t) (y := .lst [.str "word"]) (M1 := M) rfl rfl (told_eq ht)
  unfold b__law_type_2
  cases hf : findV vs x with
  | none =>
    rw [hf] at h1
    have h4 : evT prg R [] (.bop true (.cons (.cmp .isin (.ix (.var 1) (.cst (.int 1))) (.var 0)) (.cons (.cmp .eq (.ix (.var 0) (.ix (.var 1) (.cst (.int 1)))) (.cst (.str "row"))) (.cons (.cmp .eq (.var 5) (.lst false (.cons (.cst (.str "word")) .nil))) .nil)))) (ltS vs (.at x e) q "at" t o1 o2 o3) M = .ok false M := evTB_step h1 rfl
    rw [x_ret (x_rete (ev_ife h4 rfl))]
    rfl
  | some r =>
    rw [hf] at h1
    have hi : ev prg R [] (.ix (.var 0) (.ix (.var 1) (.cst (.int 1)))) (ltS vs (.at x e) q "at" t o1 o2 o3) M = .ok (.str r.k.s) M := ev_ix (x := kdD vs) (y := .str x) (M1 := M) rfl hx (kd_ix hf)
    have h3 : evT prg R [] (.cmp .eq (.ix (.var 0) (.ix (.var 1) (.cst (.int 1)))) (.cst (.str "row"))) (ltS vs (.at x e) q "at" t o1 o2 o3) M = .ok (decide (r.k = .row)) M := ev_cmpT (x := .str r.k.s) (y := .str "row") (M1 := M) hi rfl (by obtain ⟨rk, rx, rv⟩ := r; cases rk <;> rfl)
    by_cases hk : r.k = .row
    · simp only [hk, decide_true] at h3
      have h4 : ∀ b, decide (u = .word) = b → evT prg R [] (.bop true (.cons (.cmp .isin (.ix (.var 1) (.cst (.int 1))) (.var 0)) (.cons (.cmp .eq (.ix (.var 0) (.ix (.var 1) (.cst (.int 1)))) (.cst (.str "row"))) (.cons (.cmp .eq (.var 5) (.lst false (.cons (.cst (.str "word")) .nil))) .nil)))) (ltS vs (.at x e) q "at" t o1 o2 o3) M = .ok b M := by
        intro b hb
        rw [hb] at h5
        refine evTB_step h1 ?_
        rw [if_pos (show (some r).isSome = true from rfl)]
        refine evTB_step h3 ?_
        rw [if_pos rfl]
        refine evTB_step h5 ?_
        cases b <;> rfl
      by_cases hu : u = .word
      · rw [x_ret (x_rete (ev_ife (h4 true (by simp [hu])) rfl))]
        simp only [hk, hu, if_true]
        rfl
      · rw [x_ret (x_rete (ev_ife (h4 false (by simp [hu])) rfl))]
        have : ¬ ([u] = [Ki.word]) := fun z => hu (List.cons.inj z).1
        simp only [hk, if_true, if_neg this]
        rfl
    · simp only [hk, decide_false] at h3
      have h4 : evT prg R [] (.bop true (.cons (.cmp .isin (.ix (.var 1) (.cst (.int 1))) (.var 0)) (.cons (.cmp .eq (.ix (.var 0) (.ix (.var 1) (.cst (.int 1)))) (.cst (.str "row"))) (.cons (.cmp .eq (.var 5) (.lst false (.cons (.cst (.str "word")) .nil))) .nil)))) (ltS vs (.at x e) q "at" t o1 o2 o3) M = .ok false M := evTB_step h1 (by rw [if_pos (show (some r).isSome = true from rfl)]; exact evTB_step h3 rfl)
      rw [x_ret (x_rete (ev_ife h4 rfl))]
      simp only [hk, if_false]
      rfl
end Mi.K05

end
section
/-! K05m7: the law's own types, whole. -/
namespace Mi.K05
open PySem L2
variable {M : Hm} {vs : List Va}
/-- the due type of the rest -/
def dueOf : Ex → Ki
  | .no _ => .bit
  | .op o _ _ => o.due
  | _ => .word
def resOf : Ex → Ki
  | .op o _ _ => o.res
  | _ => .bit
abbrev cmE : ME := .lc false (.var 7) (.nm 7) (.val (.var 5)) (.cons (.cmp .ne (.var 7) (.var 8)) .nil) [7]
def fltD (d : Ki) : D → Option D
  | .str z => if z = d.s then none else some (.str z)
  | _ => none
theorem compS_flt (d : Ki) : ∀ ts : List Ki, compS (fltD d) (ts.map fun u => D.str u.s) = (ts.filter fun u => !decide (u = d)).map fun u => D.str u.s
  | [] => rfl
  | u :: ts => by
    show (fltD d (.str u.s)).toList ++ compS (fltD d) (ts.map fun u => D.str u.s) = _
    rw [compS_flt d ts]
    cases u <;> cases d <;> rfl
theorem lt_comp (R : Rt) (e : Ex) (q : List Nat) (kd : Str) (t : Nat) (ts : List Ki) (d : Ki) (ht : M[t]? = some (.lst (ts.map fun u => .str u.s))) (hl : ts.length ≤ 100) (o1 o2 : Option D) :
    ev prg R [] cmE (ltS vs e q kd t o1 o2 (some (.str d.s))) M = .ok (.lst ((ts.filter fun u => !decide (u = d)).map fun u => .str u.s)) M := by
  show (evI prg R [] (.val (.var 5)) (ltS vs e q kd t o1 o2 (some (.str d.s))) M).bind _ = _
  have hI : evI prg R [] (.val (.var 5)) (ltS vs e q kd t o1 o2 (some (.str d.s))) M = .ok (.obj t) M := by
    show lift (srcOf M (.ref t)) M = _
    unfold srcOf
    simp only [ht]
    rfl
  rw [hI]
  have l : (Src.obj t).len M = some ts.length := by
    unfold Src.len
    simp only [ht, List.length_map]
  show (lift ((Src.obj t).len M) M).bind _ = _
  rw [l]
  have hf : ∀ x ∈ (ts.map fun u => D.str u.s), (fun (dd : D) (M : Hm) => (asg prg R [] (.nm 7) dd (wipeE (ltS vs e q kd t o1 o2 (some (.str d.s))) [7]) M).use fun σ' M => (evTB prg R [] true (.cons (.cmp .ne (.var 7) (.var 8)) .nil) σ' M).bind fun b M => if b then (ev prg R [] (.var 7) σ' M).bind fun y M => .ok (some y) M else .ok none M) x M = .ok (fltD d x) M := by
    intro x hx
    obtain ⟨u, _, rfl⟩ := List.mem_map.mp hx
    clear ht l hI hx
    cases u <;> cases d <;> kernel_rfl
  show (if (szOk ts.length && ([7] : List Nat).all (free [])) = true then (compGo (.obj t) _ ts.length 0 M).bind _ else Res.bad) = _
  rw [if_pos (by rw [show szOk ts.length = true from decide_eq_true (by omega)]; rfl), compGo_obj ht hf ts.length 0 (by simp)]
  show Res.ok (D.lst (compS (fltD d) ((ts.map fun u => D.str u.s).drop 0))) M = _
  rw [List.drop_zero, compS_flt]
theorem lt_ne1 (t d : Ki) : opCmp .ne (.lst (([t].filter fun u => !decide (u = d)).map fun u => D.str u.s)) (.lst []) M = some (!([t].all fun u => decide (u = d))) := by cases t <;> cases d <;> kernel_rfl
theorem lt_ne2 (t u d : Ki) : opCmp .ne (.lst (([t, u].filter fun u => !decide (u = d)).map fun u => D.str u.s)) (.lst []) M = some (!([t, u].all fun u => decide (u = d))) := by cases t <;> cases u <;> cases d <;> kernel_rfl
theorem lt_rest (R : Rt) (e : Ex) (q : List Nat) (t : Nat) (ts : List Ki) (ht : M[t]? = some (.lst (ts.map fun u => .str u.s))) (hl : ts.length ≤ 100) (o1 o2 o3 : Option D) (he : (∃ a, e = .no a) ∨ ∃ o a b, e = .op o a b)
    (hn : opCmp .ne (.lst ((ts.filter fun u => !decide (u = dueOf e)).map fun u => D.str u.s)) (.lst []) M = some (!(ts.all fun u => decide (u = dueOf e)))) :
    (execs prg R [] (b__law_type.drop 4) (ltS vs e q e.kd t o1 o2 o3) M).res = .ok (tyL' (if ts.all (fun u => decide (u = dueOf e)) then .ok (resOf e) else .error q)) M := by
  have e0 : execs prg R [] (b__law_type.drop 4) (ltS vs e q e.kd t o1 o2 o3) M = execs prg R [] (b__law_type.drop 8) (ltS vs e q e.kd t o1 o2 (some (.str (dueOf e).s))) M := by
    clear ht hn
    rcases he with ⟨a, rfl⟩ | ⟨o, a, b, rfl⟩
    · kernel_rfl
    · cases o <;> kernel_rfl
  have hc := lt_comp (vs := vs) R e q e.kd t ts (dueOf e) ht hl o1 o2
  have hk : evT prg R [] (.cmp .ne cmE (.lst false .nil)) (ltS vs e q e.kd t o1 o2 (some (.str (dueOf e).s))) M = .ok (!(ts.all fun u => decide (u = dueOf e))) M := ev_cmpT hc (y := .lst []) rfl hn
  have hr : execs prg R [] b__law_type_1 (ltS vs e q e.kd t o1 o2 (some (.str (dueOf e).s))) M = .ret (tyL' (.error q)) M := by kernel_rfl
  rw [e0]
  show (execs prg R [] (.cons (.ife (.cmp .ne cmE (.lst false .nil)) b__law_type_1 .nil) (b__law_type.drop 9)) (ltS vs e q e.kd t o1 o2 (some (.str (dueOf e).s))) M).res = _
  rw [x_ifr hk hr]
  cases ts.all fun u => decide (u = dueOf e) with
  | false => rfl
  | true =>
    clear ht hn hc hk hr e0
    rcases he with ⟨a, rfl⟩ | ⟨o, a, b, rfl⟩
    · kernel_rfl
    · cases o <;> kernel_rfl
end Mi.K05

end
section
/-! K05n1: _law_type, joined. -/
namespace Mi.K05
open PySem L2
variable {vs : List Va}
theorem lt_loop {m : Nat} {M : Hm} (e : Ex) (q : List Nat) (hp : (e.parts.map Ex.d).length ≤ 2) :
    exec prg (rt prg m) [] (.fr (.nm 6) (.rng1 (.bi .len false (.cons (.var 4) .nil))) b__law_type_6) (ltS vs e q e.kd M.length none none none) (M ++ [.lst []]) = forL (ltT (rt prg m)) (rngD 0 e.parts.length) (ltS vs e q e.kd M.length none none none) (M ++ [.lst []]) := by
  have ei : evI prg (rt prg m) [] (.rng1 (.bi .len false (.cons (.var 4) .nil))) (ltS vs e q e.kd M.length none none none) (M ++ [.lst []]) = .ok (.items (rngD 0 ((e.parts.map Ex.d).length : Int).toNat)) (M ++ [.lst []]) := by
    have h0 : ev prg (rt prg m) [] (.bi .len false (.cons (.var 4) .nil)) (ltS vs e q e.kd M.length none none none) (M ++ [.lst []]) = .ok (.int ((e.parts.map Ex.d).length : Int)) (M ++ [.lst []]) := rfl
    refine evI_rng1 h0 ?_
    unfold rngOk
    rw [Bool.and_eq_true, decide_eq_true_eq, decide_eq_true_eq]
    omega
  rw [x_for ei, List.length_map]
  rfl
theorem lt_all {m : Nat} {M : Hm} (e : Ex) (q : List Nat) : (rt prg (m + 1)).call g__law_type [some (kdD vs), some e.d, some (pathD q)] [] M = ((forL (ltT (rt prg m)) (rngD 0 e.parts.length) (ltS vs e q e.kd M.length none none none) (M ++ [.lst []])).andThen fun σ M => execs prg (rt prg m) [] (b__law_type.drop 4) σ M).res := by
  rw [call__law_type_3, lt_start, ← lt_loop e q (by cases e <;> simp [Ex.parts])]
  rfl
theorem rngD1 : rngD 0 1 = [.int ((0 : Nat) : Int)] := rfl
theorem rngD2 : rngD 0 2 = [.int ((0 : Nat) : Int), .int ((1 : Nat) : Int)] := rfl
theorem app_mid {M X : Hm} {o : MO} : (M ++ [o] ++ X)[M.length]? = some o := by
  rw [List.append_assoc, List.getElem?_append_right (Nat.le_refl _), Nat.sub_self]
  rfl
theorem contL_nxt {turn : D → Env → Hm → SR} {ds : List D} {σ : Env} {M : Hm} : contL turn ds (.nxt σ M) = forL turn ds σ M := rfl
theorem law_type_eq : ∀ (e : Ex) (n : Nat) (q : List Nat) (M : Hm), e.deep ≤ n → q.length + e.deep ≤ 900 → ∃ X, (rt prg n).call g__law_type [some (kdD vs), some e.d, some (pathD q)] [] M = .ok (tyL' (ty vs e q)) (M ++ X) := by
  intro e
  induction e with
  | tf b =>
    intro n q M hn hq
    obtain ⟨m, rfl⟩ : ∃ j, n = j + 1 := ⟨n - 1, by simp [Ex.deep] at hn; omega⟩
    refine ⟨[.lst []], ?_⟩
    rw [lt_all]
    cases b <;> kernel_rfl
  | num i =>
    intro n q M hn hq
    obtain ⟨m, rfl⟩ : ∃ j, n = j + 1 := ⟨n - 1, by simp [Ex.deep] at hn; omega⟩
    refine ⟨[.lst []], ?_⟩
    rw [lt_all]
    kernel_rfl
  | var x =>
    intro n q M hn hq
    obtain ⟨m, rfl⟩ : ∃ j, n = j + 1 := ⟨n - 1, by simp [Ex.deep] at hn; omega⟩
    refine ⟨[.lst []], ?_⟩
    rw [lt_all]
    exact lt_var (rt prg m) x q M.length none none none
  | «at» x a ih =>
    intro n q M hn hq
    simp only [Ex.deep] at hn hq
    obtain ⟨m, rfl⟩ : ∃ j, n = j + 1 := ⟨n - 1, by omega⟩
    obtain ⟨X, hX⟩ := ih m (q ++ [0]) (M ++ [.lst []]) (by omega) (by simp; omega)
    rw [lt_all]
    show ∃ X, ((forL (ltT (rt prg m)) (rngD 0 1) _ _).andThen _).res = _
    rw [rngD1]
    show ∃ X, _ = Res.ok (tyL' (match ty vs a (q ++ [0]) with | .error r => .error r | .ok t => match made vs (.at x a) [t] with | some t => .ok t | none => .error q)) (M ++ X)
    cases hty : ty vs a (q ++ [0]) with
    | error z =>
      rw [hty] at hX
      have t1 := lt_turn (vs := vs) (e := .at x a) (x := a) (q := q) (kd := Ex.kd (.at x a)) (m := m) (k := 0) (by omega) rfl hX app_at (Nat.zero_le _) none none none
      dsimp only at t1
      rw [forL_cons t1]
      exact ⟨[.lst []] ++ X, by rw [← List.append_assoc]; rfl⟩
    | ok u =>
      rw [hty] at hX
      have t1 := lt_turn (vs := vs) (e := .at x a) (x := a) (q := q) (kd := Ex.kd (.at x a)) (m := m) (k := 0) (by omega) rfl hX app_at (Nat.zero_le _) none none none
      dsimp only at t1
      rw [forL_cons t1]
      refine ⟨[.lst [.str u.s]] ++ X, ?_⟩
      rw [app_set, ← List.append_assoc]
      exact lt_at (rt prg m) x a q M.length u app_mid _ _ _
  | no a ih =>
    intro n q M hn hq
    simp only [Ex.deep] at hn hq
    obtain ⟨m, rfl⟩ : ∃ j, n = j + 1 := ⟨n - 1, by omega⟩
    obtain ⟨X, hX⟩ := ih m (q ++ [0]) (M ++ [.lst []]) (by omega) (by simp; omega)
    rw [lt_all]
    show ∃ X, ((forL (ltT (rt prg m)) (rngD 0 1) _ _).andThen _).res = _
    rw [rngD1]
    show ∃ X, _ = Res.ok (tyL' (match ty vs a (q ++ [0]) with | .error r => .error r | .ok t => match made vs (.no a) [t] with | some t => .ok t | none => .error q)) (M ++ X)
    cases hty : ty vs a (q ++ [0]) with
    | error z =>
      rw [hty] at hX
      have t1 := lt_turn (vs := vs) (e := .no a) (x := a) (q := q) (kd := Ex.kd (.no a)) (m := m) (k := 0) (by omega) rfl hX app_at (Nat.zero_le _) none none none
      dsimp only at t1
      rw [forL_cons t1]
      exact ⟨[.lst []] ++ X, by rw [← List.append_assoc]; rfl⟩
    | ok u =>
      rw [hty] at hX
      have t1 := lt_turn (vs := vs) (e := .no a) (x := a) (q := q) (kd := Ex.kd (.no a)) (m := m) (k := 0) (by omega) rfl hX app_at (Nat.zero_le _) none none none
      dsimp only at t1
      rw [forL_cons t1]
      refine ⟨[.lst [.str u.s]] ++ X, ?_⟩
      rw [app_set, ← List.append_assoc]
      refine (lt_rest (rt prg m) (.no a) q M.length [u] app_mid (by simp) _ _ _ (Or.inl ⟨a, rfl⟩) (lt_ne1 u _)).trans ?_
      cases u <;> rfl
  | op o a b iha ihb =>
    intro n q M hn hq
    simp only [Ex.deep] at hn hq
    obtain ⟨m, rfl⟩ : ∃ j, n = j + 1 := ⟨n - 1, by omega⟩
    obtain ⟨X, hX⟩ := iha m (q ++ [0]) (M ++ [.lst []]) (by omega) (by simp; omega)
    rw [lt_all]
    show ∃ X, ((forL (ltT (rt prg m)) (rngD 0 2) _ _).andThen _).res = _
    rw [rngD2]
    show ∃ X, _ = Res.ok (tyL' (match ty vs a (q ++ [0]) with
    | .error r => .error r
    | .ok t => match ty vs b (q ++ [1]) with
      | .error r => .error r
      | .ok u => match made vs (.op o a b) [t, u] with | some t => .ok t | none => .error q)) (M ++ X)
    cases hty : ty vs a (q ++ [0]) with
    | error z =>
      rw [hty] at hX
      have t1 := lt_turn (vs := vs) (e := .op o a b) (x := a) (q := q) (kd := Ex.kd (.op o a b)) (m := m) (k := 0) (by omega) rfl hX app_at (Nat.zero_le _) none none none
      dsimp only at t1
      rw [forL_cons t1]
      exact ⟨[.lst []] ++ X, by rw [← List.append_assoc]; rfl⟩
    | ok u =>
      rw [hty] at hX
      have t1 := lt_turn (vs := vs) (e := .op o a b) (x := a) (q := q) (kd := Ex.kd (.op o a b)) (m := m) (k := 0) (by omega) rfl hX app_at (Nat.zero_le _) none none none
      dsimp only at t1
      rw [forL_cons t1]
      obtain ⟨Y, hY⟩ := ihb m (q ++ [1]) (M ++ [.lst [.str u.s]] ++ X) (by omega) (by simp; omega)
      rw [app_set, contL_nxt, List.nil_append]
      cases htz : ty vs b (q ++ [1]) with
      | error z =>
        rw [htz] at hY
        have t2 := fun o1 o2 o3 => lt_turn (vs := vs) (e := .op o a b) (x := b) (q := q) (kd := Ex.kd (.op o a b)) (m := m) (k := 1) (by omega) rfl hY app_mid (by simp) o1 o2 o3
        dsimp only at t2
        rw [forL_cons (t2 _ _ _)]
        exact ⟨[.lst [.str u.s]] ++ (X ++ Y), by rw [← List.append_assoc, ← List.append_assoc]; rfl⟩
      | ok w =>
        rw [htz] at hY
        have t2 := fun o1 o2 o3 => lt_turn (vs := vs) (e := .op o a b) (x := b) (q := q) (kd := Ex.kd (.op o a b)) (m := m) (k := 1) (by omega) rfl hY app_mid (by simp) o1 o2 o3
        dsimp only at t2
        rw [forL_cons (t2 _ _ _)]
        refine ⟨[.lst [.str u.s, .str w.s]] ++ (X ++ Y), ?_⟩
        have es : ((M ++ [MO.lst [D.str u.s]] ++ X).set M.length (.lst ([D.str u.s] ++ [.str w.s]))) ++ Y = M ++ ([.lst [.str u.s, .str w.s]] ++ (X ++ Y)) := by
          rw [List.append_assoc, List.set_append_right _ _ (Nat.le_refl _), Nat.sub_self]
          simp
        rw [es]
        have ha : (M ++ ([MO.lst [.str u.s, .str w.s]] ++ (X ++ Y)))[M.length]? = some (.lst (([u, w] : List Ki).map fun u => .str u.s)) := by
          rw [← List.append_assoc]
          exact app_mid
        refine (lt_rest (rt prg m) (.op o a b) q M.length [u, w] ha (by simp) _ _ _ (Or.inr ⟨o, a, b, rfl⟩) (lt_ne2 u w _)).trans ?_
        show _ = Res.ok (tyL' (match (if [u, w].all (fun t => decide (t = o.due)) then some o.res else none) with | some t => .ok t | none => .error q)) _
        show Res.ok (tyL' (if [u, w].all (fun t => decide (t = o.due)) then .ok o.res else .error q)) _ = _
        cases [u, w].all (fun t => decide (t = o.due)) <;> rfl
end Mi.K05

end
section
/-! M38: Mini's meaning as a machine of named continuations, for simp. -/
namespace Mi
open PySem
structure Po where
  N : Env → Hm → Prop
  R : D → Hm → Prop
  B : Env → Hm → Prop
  C : Env → Hm → Prop
  E : Nat → D → Env → Hm → Prop
def nE : Nat → D → Hm → Prop := fun _ _ _ => False
def wO {α : Type} (o : Option α) (M : Hm) (Q : α → Hm → Prop) : Prop := match o with | some a => Q a M | none => False
section
variable (P : Prg) (R : Rt) (κ : List (Nat × CloD))
def wEx (e : ME) (σ : Env) (M : Hm) (Q : D → Hm → Prop) (E : Nat → D → Hm → Prop) : Prop := wp (ev P R κ e σ M) Q E
def wEs (es : MEs) (σ : Env) (M : Hm) (Q : List D → Hm → Prop) (E : Nat → D → Hm → Prop) : Prop := wp (evs P R κ es σ M) Q E
def wA (es : MEs) (j : Nat) (σ : Env) (M : Hm) (Q : List (Option D) × List (Nat × CloD) → Hm → Prop) (E : Nat → D → Hm → Prop) : Prop := wp (evA P R κ es j σ M) Q E
def wP (x : MP) (σ : Env) (M : Hm) (Q : Option Int → Hm → Prop) (E : Nat → D → Hm → Prop) : Prop := wp (evP P R κ x σ M) Q E
def wB (k : Bool) (es : MEs) (σ : Env) (M : Hm) (Q : D → Hm → Prop) (E : Nat → D → Hm → Prop) : Prop := wp (evB P R κ k es σ M) Q E
def wT (t : MQ) (σ : Env) (M : Hm) (Q : Bool → Hm → Prop) (E : Nat → D → Hm → Prop) : Prop := wp (evT P R κ t σ M) Q E
def wTB (k : Bool) (ts : MQs) (σ : Env) (M : Hm) (Q : Bool → Hm → Prop) (E : Nat → D → Hm → Prop) : Prop := wp (evTB P R κ k ts σ M) Q E
def wK (x : MKs) (σ : Env) (M : Hm) (Q : List (L2.Key × D) → Hm → Prop) (E : Nat → D → Hm → Prop) : Prop := wp (evK P R κ x σ M) Q E
def wI (it : MI) (σ : Env) (M : Hm) (Q : Src → Hm → Prop) (E : Nat → D → Hm → Prop) : Prop := wp (evI P R κ it σ M) Q E
def wG (t : MT) (d : D) (σ : Env) (M : Hm) (Q : Env → Hm → Prop) : Prop := wp (asg P R κ t d σ M) Q nE
def wGs (t : MTs) (ds : List D) (σ : Env) (M : Hm) (Q : Env → Hm → Prop) : Prop := wp (asgs P R κ t ds σ M) Q nE
def wX (s : MS) (σ : Env) (M : Hm) (p : Po) : Prop := wps (exec P R κ s σ M) p.N p.R p.B p.C p.E
def wXs (ss : MSs) (σ : Env) (M : Hm) (p : Po) : Prop := wps (execs P R κ ss σ M) p.N p.R p.B p.C p.E
def poSeq (ss : MSs) (p : Po) : Po := ⟨fun σ M => wXs P R κ ss σ M p, p.R, p.B, p.C, p.E⟩
def poTop (Q : D → Hm → Prop) (E : Nat → D → Hm → Prop) : Po := ⟨fun _ M => Q .non M, Q, fun _ _ => False, fun _ _ => False, fun c v _ M => E c v M⟩
def pE (p : Po) (σ : Env) : Nat → D → Hm → Prop := fun c v M => p.E c v σ M
/-! continuations -/
def kTup (Q : D → Hm → Prop) : List D → Hm → Prop := fun ds M => Q (.tup ds) M
def kLst (h : Bool) (Q : D → Hm → Prop) : List D → Hm → Prop := fun ds M => if h = true then Q (.ref M.length) (M ++ [.lst ds]) else Q (.lst ds) M
def kDsp (h : Bool) (Q : D → Hm → Prop) : List (L2.Key × D) → Hm → Prop := fun ps M => if h = true then Q (.ref M.length) (M ++ [.dic (putAll ps ([], [])).1 (putAll ps ([], [])).2]) else Q (.dic (putAll ps ([], [])).1 (putAll ps ([], [])).2) M
def kBin2 (o : BOp) (h : Bool) (x : D) (Q : D → Hm → Prop) (E : Nat → D → Hm → Prop) : D → Hm → Prop := fun y M => wp (opBin o h x y M) Q E
def kBin1 (o : BOp) (h : Bool) (b : ME) (σ : Env) (Q : D → Hm → Prop) (E : Nat → D → Hm → Prop) : D → Hm → Prop := fun x M => wEx P R κ b σ M (kBin2 o h x Q E) E
def kUn (o : UOp) (Q : D → Hm → Prop) (E : Nat → D → Hm → Prop) : D → Hm → Prop := fun x M => wp (opUn o x M) Q E
def kBl (Q : D → Hm → Prop) : Bool → Hm → Prop := fun b M => Q (.bl b) M
def kCmp2 (o : COp) (x : D) (Q : Bool → Hm → Prop) : D → Hm → Prop := fun y M => wO (opCmp o x y M) M Q
def kCmp1 (o : COp) (b : ME) (σ : Env) (Q : Bool → Hm → Prop) (E : Nat → D → Hm → Prop) : D → Hm → Prop := fun x M => wEx P R κ b σ M (kCmp2 o x Q) E
def kChn4 (p : COp) (y : D) (Q : Bool → Hm → Prop) : D → Hm → Prop := fun z M => wO (opCmp p y z M) M Q
def kChn3 (p : COp) (c : ME) (y : D) (σ : Env) (Q : Bool → Hm → Prop) (E : Nat → D → Hm → Prop) : Bool → Hm → Prop := fun k M => if k = true then wEx P R κ c σ M (kChn4 p y Q) E else Q false M
def kChn2 (o p : COp) (c : ME) (x : D) (σ : Env) (Q : Bool → Hm → Prop) (E : Nat → D → Hm → Prop) : D → Hm → Prop := fun y M => wO (opCmp o x y M) M (kChn3 P R κ p c y σ Q E)
def kChn1 (o p : COp) (b c : ME) (σ : Env) (Q : Bool → Hm → Prop) (E : Nat → D → Hm → Prop) : D → Hm → Prop := fun x M => wEx P R κ b σ M (kChn2 P R κ o p c x σ Q E) E
def kNotV (Q : D → Hm → Prop) : D → Hm → Prop := fun x M => match x with | .bl b => Q (.bl !b) M | _ => False
def kNot (Q : Bool → Hm → Prop) : Bool → Hm → Prop := fun b M => Q (!b) M
def kVal (Q : Bool → Hm → Prop) : D → Hm → Prop := fun x M => match x with | .bl b => Q b M | _ => False
def kIfe (a b : ME) (σ : Env) (Q : D → Hm → Prop) (E : Nat → D → Hm → Prop) : Bool → Hm → Prop := fun k M => if k = true then wEx P R κ a σ M Q E else wEx P R κ b σ M Q E
def kIfT (a b : MQ) (σ : Env) (Q : Bool → Hm → Prop) (E : Nat → D → Hm → Prop) : Bool → Hm → Prop := fun k M => if k = true then wT P R κ a σ M Q E else wT P R κ b σ M Q E
def kIx2 (x : D) (Q : D → Hm → Prop) : D → Hm → Prop := fun y M => wO (opIx x y M) M Q
def kIx1 (b : ME) (σ : Env) (Q : D → Hm → Prop) (E : Nat → D → Hm → Prop) : D → Hm → Prop := fun x M => wEx P R κ b σ M (kIx2 x Q) E
def kSl3 (h : Bool) (x : D) (l : Option Int) (Q : D → Hm → Prop) (E : Nat → D → Hm → Prop) : Option Int → Hm → Prop := fun u M => wp (opSl h x l u M) Q E
def kSl2 (h : Bool) (x : D) (hi : MP) (σ : Env) (Q : D → Hm → Prop) (E : Nat → D → Hm → Prop) : Option Int → Hm → Prop := fun l M => wP P R κ hi σ M (kSl3 h x l Q E) E
def kSl1 (h : Bool) (lo hi : MP) (σ : Env) (Q : D → Hm → Prop) (E : Nat → D → Hm → Prop) : D → Hm → Prop := fun x M => wP P R κ lo σ M (kSl2 P R κ h x hi σ Q E) E
def kPi (Q : Option Int → Hm → Prop) : D → Hm → Prop := fun x M => match x with | .int i => Q (some i) M | _ => False
def kCall (g : Nat) (Q : D → Hm → Prop) (E : Nat → D → Hm → Prop) : List (Option D) × List (Nat × CloD) → Hm → Prop := fun a M => wp (R.call g a.1 a.2 M) Q E
def kA2 (d : D) (Q : List (Option D) × List (Nat × CloD) → Hm → Prop) : List (Option D) × List (Nat × CloD) → Hm → Prop := fun a M => Q (some d :: a.1, a.2) M
def kA1 (es : MEs) (j : Nat) (σ : Env) (Q : List (Option D) × List (Nat × CloD) → Hm → Prop) (E : Nat → D → Hm → Prop) : D → Hm → Prop := fun d M => wA P R κ es (j + 1) σ M (kA2 d Q) E
def kAl (j : Nat) (c : CloD) (Q : List (Option D) × List (Nat × CloD) → Hm → Prop) : List (Option D) × List (Nat × CloD) → Hm → Prop := fun a M => Q (none :: a.1, (j, c) :: a.2) M
def kAL (nps : Nat) (N : List Str) (body : ME) (es : MEs) (j : Nat) (σ : Env) (Q : List (Option D) × List (Nat × CloD) → Hm → Prop) (E : Nat → D → Hm → Prop) : List D → Hm → Prop := fun ws M => wA P R κ es (j + 1) σ M (kAl j ⟨nps, ws.map some, N.length, body⟩ Q) E
def kEs2 (d : D) (Q : List D → Hm → Prop) : List D → Hm → Prop := fun ds M => Q (d :: ds) M
def kEs1 (es : MEs) (σ : Env) (Q : List D → Hm → Prop) (E : Nat → D → Hm → Prop) : D → Hm → Prop := fun d M => wEs P R κ es σ M (kEs2 d Q) E
def kClo (c : CloD) (Q : D → Hm → Prop) (E : Nat → D → Hm → Prop) : List D → Hm → Prop := fun ds M => wp (R.clo c ds M) Q E
def kCv (i : Nat) (es : MEs) (σ : Env) (M : Hm) (Q : D → Hm → Prop) (E : Nat → D → Hm → Prop) : Option CloD → Prop
  | some c => wEs P R κ es σ M (kClo R c Q E) E
  | none => wp (match slot σ i with | some (.fn g) => if P.fns[g]?.isSome then (evs P R κ es σ M).bind fun ds M => R.call g (ds.map some) [] M else .bad | _ => .bad) Q E
def kMake (C : Nat) (Q : D → Hm → Prop) (E : Nat → D → Hm → Prop) : List D → Hm → Prop := fun ds M => wp (R.make C ds M) Q E
def kFld (f : Str) (Q : D → Hm → Prop) : D → Hm → Prop := fun x M => wO (getFld P f x M) M Q
def kBi (b : Bi) (h : Bool) (Q : D → Hm → Prop) (E : Nat → D → Hm → Prop) : List D → Hm → Prop := fun ds M => wp (biSem b h ds M) Q E
def kBm2 (b : Bm) (x : D) (Q : D → Hm → Prop) (E : Nat → D → Hm → Prop) : List D → Hm → Prop := fun ds M => wp (bmSem b x ds M) Q E
def kBm1 (b : Bm) (es : MEs) (σ : Env) (Q : D → Hm → Prop) (E : Nat → D → Hm → Prop) : D → Hm → Prop := fun x M => if bmOk b x M = true then wEs P R κ es σ M (kBm2 b x Q E) E else False
def kIsi (ts : List Ty) (Q : D → Hm → Prop) : D → Hm → Prop := fun x M => wO (isAny M x ts) M (kBl Q)
def kB1 (k : Bool) (es : MEs) (σ : Env) (Q : D → Hm → Prop) (E : Nat → D → Hm → Prop) : D → Hm → Prop := fun x M => match x with | .bl b => if b = k then wB P R κ k es σ M Q E else Q (.bl b) M | _ => False
def kTB1 (k : Bool) (ts : MQs) (σ : Env) (Q : Bool → Hm → Prop) (E : Nat → D → Hm → Prop) : Bool → Hm → Prop := fun b M => if b = k then wTB P R κ k ts σ M Q E else Q b M
def lcTurn (elt : ME) (tg : MT) (ifs : MQs) (own : List Nat) (σ : Env) (d : D) (M : Hm) : Res (Option D) := (asg P R κ tg d (wipeE σ own) M).use fun σ' M => (evTB P R κ true ifs σ' M).bind fun b M => if b then (ev P R κ elt σ' M).bind fun y M => .ok (some y) M else .ok none M
def wLc (elt : ME) (tg : MT) (ifs : MQs) (own : List Nat) (σ : Env) (ds : List D) (M : Hm) (Q : List D → Hm → Prop) (E : Nat → D → Hm → Prop) : Prop := wp (compL (lcTurn P R κ elt tg ifs own σ) ds M) Q E
def kLc (h : Bool) (elt : ME) (tg : MT) (ifs : MQs) (own : List Nat) (σ : Env) (Q : D → Hm → Prop) (E : Nat → D → Hm → Prop) : Src → Hm → Prop := fun s M => wp ((lift (s.len M) M).bind fun k M =>
      if szOk k && own.all (free κ) then (compGo s (lcTurn P R κ elt tg ifs own σ) k 0 M).bind fun ds M => mkl h ds M else .bad) Q E
def kLc4 (o : Option D) (Q : List D → Hm → Prop) : List D → Hm → Prop := fun r M => Q (o.toList ++ r) M
def kLc3 (elt : ME) (tg : MT) (ifs : MQs) (own : List Nat) (σ : Env) (ds : List D) (Q : List D → Hm → Prop) (E : Nat → D → Hm → Prop) : D → Hm → Prop := fun y M => wLc P R κ elt tg ifs own σ ds M (kLc4 (some y) Q) E
def kLc2 (elt : ME) (tg : MT) (ifs : MQs) (own : List Nat) (σ σ' : Env) (ds : List D) (Q : List D → Hm → Prop) (E : Nat → D → Hm → Prop) : Bool → Hm → Prop := fun b M => if b = true then wEx P R κ elt σ' M (kLc3 P R κ elt tg ifs own σ ds Q E) E else wLc P R κ elt tg ifs own σ ds M Q E
def kLc1 (elt : ME) (tg : MT) (ifs : MQs) (own : List Nat) (σ : Env) (ds : List D) (Q : List D → Hm → Prop) (E : Nat → D → Hm → Prop) : Env → Hm → Prop := fun σ' M => wTB P R κ true ifs σ' M (kLc2 P R κ elt tg ifs own σ σ' ds Q E) E
def kIv (Q : Src → Hm → Prop) : D → Hm → Prop := fun x M => wO (srcOf M x) M Q
def kIr (Q : Src → Hm → Prop) : D → Hm → Prop := fun x M => match x with | .int j => rngOk j = true ∧ Q (.items (rngD 0 j.toNat)) M | _ => False
def kIr2 (x : D) (Q : Src → Hm → Prop) (E : Nat → D → Hm → Prop) : D → Hm → Prop := fun y M => wp (rng2D x y M) Q E
def kIr1 (b : ME) (σ : Env) (Q : Src → Hm → Prop) (E : Nat → D → Hm → Prop) : D → Hm → Prop := fun x M => wEx P R κ b σ M (kIr2 x Q E) E
def kK3 (k : L2.Key) (v : D) (Q : List (L2.Key × D) → Hm → Prop) : List (L2.Key × D) → Hm → Prop := fun r M => Q ((k, v) :: r) M
def kK2 (x : D) (r : MKs) (σ : Env) (Q : List (L2.Key × D) → Hm → Prop) (E : Nat → D → Hm → Prop) : D → Hm → Prop := fun y M => wO (keyD x) M fun k M => wK P R κ r σ M (kK3 k y Q) E
def kK1 (v : ME) (r : MKs) (σ : Env) (Q : List (L2.Key × D) → Hm → Prop) (E : Nat → D → Hm → Prop) : D → Hm → Prop := fun x M => wEx P R κ v σ M (kK2 P R κ x r σ Q E) E
/-! statements -/
def kExpr (p : Po) (σ : Env) : D → Hm → Prop := fun _ M => p.N σ M
def kAsg (t : MT) (σ : Env) (p : Po) : D → Hm → Prop := fun d M => wG P R κ t d σ M p.N
def kG (ts : MTs) (ds : List D) (Q : Env → Hm → Prop) : Env → Hm → Prop := fun σ M => wGs P R κ ts ds σ M Q
def kSb2 (x d : D) (σ : Env) (Q : Env → Hm → Prop) : D → Hm → Prop := fun y M => wp (setSub x y d σ M) Q nE
def kSb1 (i : ME) (d : D) (σ : Env) (Q : Env → Hm → Prop) : D → Hm → Prop := fun x M => wEx P R κ i σ M (kSb2 x d σ Q) nE
def kAt (f : Str) (d : D) (σ : Env) (Q : Env → Hm → Prop) : D → Hm → Prop := fun x M => wp (setAt P f x d σ M) Q nE
def kPar (is : List Nat) (σ : Env) (p : Po) : List D → Hm → Prop := fun ds M => if is.all (free κ) = true then wO (setAll is ds σ) M p.N else False
def kAug2 (o : BOp) (i : Nat) (x : D) (σ : Env) (p : Po) : D → Hm → Prop := fun y M => wps (augS o i x y σ M) p.N p.R p.B p.C p.E
def kAug (o : BOp) (i : Nat) (e : ME) (σ : Env) (M : Hm) (p : Po) : Option D → Prop
  | some x => if free κ i = true then wEx P R κ e σ M (kAug2 o i x σ p) (pE p σ) else False
  | none => False
def kIf (a b : MSs) (σ : Env) (p : Po) : Bool → Hm → Prop := fun k M => if k = true then wXs P R κ a σ M p else wXs P R κ b σ M p
def frTurn (t : MT) (b : MSs) : D → Env → Hm → SR := fun d σ M => (asg P R κ t d σ M).put fun σ M => execs P R κ b σ M
def wFor (t : MT) (b : MSs) (ds : List D) (σ : Env) (M : Hm) (p : Po) : Prop := wps (forL (frTurn P R κ t b) ds σ M) p.N p.R p.B p.C p.E
def kFor (t : MT) (b : MSs) (σ : Env) (p : Po) : Src → Hm → Prop := fun s M => wps (match s.len M with
    | some k => forGo s (frTurn P R κ t b) k 0 σ M
    | none => .bad) p.N p.R p.B p.C p.E
def poFor (t : MT) (b : MSs) (ds : List D) (p : Po) : Po := ⟨fun σ M => wFor P R κ t b ds σ M p, p.R, p.N, fun σ M => wFor P R κ t b ds σ M p, p.E⟩
def kForB (t : MT) (b : MSs) (ds : List D) (p : Po) : Env → Hm → Prop := fun σ M => wXs P R κ b σ M (poFor P R κ t b ds p)
def wWhl (k : Nat) (t : MQ) (b : MSs) (σ : Env) (M : Hm) (p : Po) : Prop := wps (whlGo (evT P R κ t) (execs P R κ b) k σ M) p.N p.R p.B p.C p.E
def poWhl (k : Nat) (t : MQ) (b : MSs) (p : Po) : Po := ⟨fun σ M => wWhl P R κ k t b σ M p, p.R, p.N, fun σ M => wWhl P R κ k t b σ M p, p.E⟩
def kWhl (k : Nat) (t : MQ) (b : MSs) (σ : Env) (p : Po) : Bool → Hm → Prop := fun c M => if c = true then wXs P R κ b σ M (poWhl P R κ k t b p) else p.N σ M
def kRse (c : Nat) (σ : Env) (p : Po) : D → Hm → Prop := fun d M => p.E c d σ M
def poTr (hs : MHs) (p : Po) : Po := ⟨p.N, p.R, p.B, p.C, fun c v σ M => wps (caught P c v σ M hs) p.N p.R p.B p.C p.E⟩
end
/-! ### the rules -/
section
variable {P : Prg} {R : Rt} {κ : List (Nat × CloD)} {σ : Env} {M : Hm} {E : Nat → D → Hm → Prop} {Q : D → Hm → Prop} {p : Po}
theorem wp_use {α : Type} {Q : α → Hm → Prop} {r : Res Env} {f : Env → Hm → Res α} : wp (r.use f) Q E = wp r (fun a M => wp (f a M) Q E) nE := by cases r <;> rfl
theorem wps_puts {N : Env → Hm → Prop} {R : D → Hm → Prop} {B C : Env → Hm → Prop} {E : Nat → D → Env → Hm → Prop} {r : Res Env} {f : Env → Hm → SR} : wps (r.put f) N R B C E = wp r (fun a M => wps (f a M) N R B C E) nE := by cases r <;> rfl
theorem wp_liftO {α : Type} {Q : α → Hm → Prop} {o : Option α} : wp (lift o M) Q E = wO o M Q := by cases o <;> rfl
theorem wp_iff {α : Type} {Q Q' : α → Hm → Prop} {r : Res α} (h : ∀ a M, Q a M = Q' a M) : wp r Q E = wp r Q' E := by cases r with
  | ok a M => exact h a M
  | _ => rfl
theorem wO_some {α : Type} {Q : α → Hm → Prop} {a : α} : wO (some a) M Q = Q a M := propext Iff.rfl
theorem wO_none {α : Type} {Q : α → Hm → Prop} : wO (none : Option α) M Q = False := propext Iff.rfl
-- expressions
theorem wE_cst {d : D} : wEx P R κ (.cst d) σ M Q E = Q d M := propext Iff.rfl
theorem wE_var {i : Nat} : wEx P R κ (.var i) σ M Q E = wO (slot σ i) M Q := by show wp (lift _ _) Q E = _; exact wp_liftO
theorem wE_glc {x : Str} {d : D} : wEx P R κ (.glc x d) σ M Q E = Q d M := propext Iff.rfl
theorem wE_fnv {g : Nat} : wEx P R κ (.fnv g) σ M Q E = Q (.fn g) M := propext Iff.rfl
theorem wE_tup {es : MEs} : wEx P R κ (.tup es) σ M Q E = wEs P R κ es σ M (kTup Q) E := by show wp (Res.bind _ _) Q E = _; rw [wp_bind]; rfl
theorem wE_lst {h : Bool} {es : MEs} : wEx P R κ (.lst h es) σ M Q E = wEs P R κ es σ M (kLst h Q) E := by
  show wp (Res.bind _ _) Q E = _; rw [wp_bind]; refine wp_iff fun a M => ?_; cases h <;> rfl
theorem wE_bin {o : BOp} {h : Bool} {a b : ME} : wEx P R κ (.bin o h a b) σ M Q E = wEx P R κ a σ M (kBin1 P R κ o h b σ Q E) E := by
  show wp (Res.bind _ _) Q E = _; rw [wp_bind]; refine wp_iff fun x M => ?_; rw [wp_bind]; rfl
theorem wE_un {o : UOp} {a : ME} : wEx P R κ (.un o a) σ M Q E = wEx P R κ a σ M (kUn o Q E) E := by
  show wp (Res.bind _ _) Q E = _; rw [wp_bind]; rfl
theorem wE_cmp {o : COp} {a b : ME} : wEx P R κ (.cmp o a b) σ M Q E = wEx P R κ a σ M (kCmp1 P R κ o b σ (kBl Q) E) E := by
  show wp (Res.bind _ _) Q E = _; rw [wp_bind]; refine wp_iff fun x M => ?_; rw [wp_bind]; refine wp_iff fun y M => ?_; rw [wp_bind, wp_liftO]; rfl
theorem wE_chn {o p : COp} {a b c : ME} : wEx P R κ (.chn o p a b c) σ M Q E = wEx P R κ a σ M (kChn1 P R κ o p b c σ (kBl Q) E) E := by
  show wp (Res.bind _ _) Q E = _; rw [wp_bind]; refine wp_iff fun x M => ?_; rw [wp_bind]; refine wp_iff fun y M => ?_; rw [wp_bind, wp_liftO]
  show wO _ _ _ = wO _ _ _
  cases opCmp o x y M with
  | none => rfl
  | some k => cases k with
    | false => rfl
    | true =>
      show wp (Res.bind _ _) Q E = _
      rw [wp_bind]; refine wp_iff fun z M => ?_; rw [wp_bind, wp_liftO]; rfl
theorem wE_bop {k : Bool} {es : MEs} : wEx P R κ (.bop k es) σ M Q E = wB P R κ k es σ M Q E := propext Iff.rfl
theorem wE_not {a : ME} : wEx P R κ (.not a) σ M Q E = wEx P R κ a σ M (kNotV Q) E := by
  show wp (Res.bind _ _) Q E = _; rw [wp_bind]; refine wp_iff fun x M => ?_; cases x <;> rfl
theorem wE_ife {t : MQ} {a b : ME} : wEx P R κ (.ife t a b) σ M Q E = wT P R κ t σ M (kIfe P R κ a b σ Q E) E := by
  show wp (Res.bind _ _) Q E = _; rw [wp_bind]; refine wp_iff fun k M => ?_; cases k <;> rfl
theorem wE_ix {a b : ME} : wEx P R κ (.ix a b) σ M Q E = wEx P R κ a σ M (kIx1 P R κ b σ Q E) E := by
  show wp (Res.bind _ _) Q E = _; rw [wp_bind]; refine wp_iff fun x M => ?_; rw [wp_bind]; refine wp_iff fun y M => ?_; rw [wp_liftO]; rfl
theorem wE_sl {h : Bool} {a : ME} {lo hi : MP} : wEx P R κ (.sl h a lo hi) σ M Q E = wEx P R κ a σ M (kSl1 P R κ h lo hi σ Q E) E := by
  show wp (Res.bind _ _) Q E = _; rw [wp_bind]; refine wp_iff fun x M => ?_; rw [wp_bind]; refine wp_iff fun l M => ?_; rw [wp_bind]; rfl
theorem wE_call {g : Nat} {es : MEs} : wEx P R κ (.call g es) σ M Q E = wA P R κ es 0 σ M (kCall R g Q E) E := by
  show wp (Res.bind _ _) Q E = _; rw [wp_bind]; rfl
theorem wE_callv {i : Nat} {es : MEs} : wEx P R κ (.callv i es) σ M Q E = kCv P R κ i es σ M Q E (κ.lookup i) := by
  show wp (match κ.lookup i with | some c => _ | none => _) Q E = _
  cases κ.lookup i with
  | none => rfl
  | some c => show wp (Res.bind _ _) Q E = _; rw [wp_bind]; rfl
theorem wE_make {C : Nat} {es : MEs} : wEx P R κ (.make C es) σ M Q E = wEs P R κ es σ M (kMake R C Q E) E := by
  show wp (Res.bind _ _) Q E = _; rw [wp_bind]; rfl
theorem wE_fld {f : Str} {o : ME} : wEx P R κ (.fld f o) σ M Q E = wEx P R κ o σ M (kFld P f Q) E := by
  show wp (Res.bind _ _) Q E = _; rw [wp_bind]; refine wp_iff fun x M => ?_; rw [wp_liftO]; rfl
theorem wE_bi {b : Bi} {h : Bool} {es : MEs} : wEx P R κ (.bi b h es) σ M Q E = wEs P R κ es σ M (kBi b h Q E) E := by
  show wp (Res.bind _ _) Q E = _; rw [wp_bind]; rfl
theorem wE_bm {b : Bm} {o : ME} {es : MEs} : wEx P R κ (.bm b o es) σ M Q E = wEx P R κ o σ M (kBm1 P R κ b es σ Q E) E := by
  show wp (Res.bind _ _) Q E = _; rw [wp_bind]; refine wp_iff fun x M => ?_
  show wp (if bmOk b x M = true then _ else _) Q E = if bmOk b x M = true then _ else _
  by_cases h : bmOk b x M = true
  · rw [if_pos h, if_pos h, wp_bind]; rfl
  · rw [if_neg h, if_neg h]; rfl
theorem wE_isi {a : ME} {ts : List Ty} : wEx P R κ (.isi a ts) σ M Q E = wEx P R κ a σ M (kIsi ts Q) E := by
  show wp (Res.bind _ _) Q E = _; rw [wp_bind]; refine wp_iff fun x M => ?_; rw [wp_bind, wp_liftO]; rfl
theorem wE_lc {h : Bool} {elt : ME} {tg : MT} {it : MI} {ifs : MQs} {own : List Nat} : wEx P R κ (.lc h elt tg it ifs own) σ M Q E = wI P R κ it σ M (kLc P R κ h elt tg ifs own σ Q E) E := by
  show wp (Res.bind _ _) Q E = _; rw [wp_bind]; rfl
theorem wE_dsp {h : Bool} {kvs : MKs} : wEx P R κ (.dsp h kvs) σ M Q E = wK P R κ kvs σ M (kDsp h Q) E := by
  show wp (Res.bind _ _) Q E = _; rw [wp_bind]; refine wp_iff fun x M => ?_; cases h <;> rfl
theorem wEs_nil {Q : List D → Hm → Prop} : wEs P R κ .nil σ M Q E = Q [] M := propext Iff.rfl
theorem wEs_cons {e : ME} {es : MEs} {Q : List D → Hm → Prop} : wEs P R κ (.cons e es) σ M Q E = wEx P R κ e σ M (kEs1 P R κ es σ Q E) E := by
  show wp (Res.bind _ _) Q E = _; rw [wp_bind]; refine wp_iff fun x M => ?_; rw [wp_bind]; rfl
section
variable {Q : List (Option D) × List (Nat × CloD) → Hm → Prop} {es : MEs} {j : Nat}
theorem wA_nil : wA P R κ .nil j σ M Q E = Q ([], []) M := propext Iff.rfl
theorem wA_any {e : ME} (h : nolam e = true) : wA P R κ (.cons e es) j σ M Q E = wEx P R κ e σ M (kA1 P R κ es j σ Q E) E := by
  have q : evA P R κ (.cons e es) j σ M = (ev P R κ e σ M).bind fun d M => (evA P R κ es (j + 1) σ M).bind fun a M => .ok (some d :: a.1, a.2) M := by cases e <;> first | rfl | cases h
  show wp (evA _ _ _ _ _ _ _) Q E = _; rw [q, wp_bind]; refine wp_iff fun x M => ?_; rw [wp_bind]; rfl
theorem wA_cst {d : D} : wA P R κ (.cons (.cst d) es) j σ M Q E = kA1 P R κ es j σ Q E d M := wA_any rfl
theorem wA_var {i : Nat} : wA P R κ (.cons (.var i) es) j σ M Q E = wEx P R κ (.var i) σ M (kA1 P R κ es j σ Q E) E := wA_any rfl
theorem wA_glc {x : Str} {d : D} : wA P R κ (.cons (.glc x d) es) j σ M Q E = kA1 P R κ es j σ Q E d M := wA_any rfl
theorem wA_fnv {g : Nat} : wA P R κ (.cons (.fnv g) es) j σ M Q E = kA1 P R κ es j σ Q E (.fn g) M := wA_any rfl
theorem wA_tup {a : MEs} : wA P R κ (.cons (.tup a) es) j σ M Q E = wEx P R κ (.tup a) σ M (kA1 P R κ es j σ Q E) E := wA_any rfl
theorem wA_lst {h : Bool} {a : MEs} : wA P R κ (.cons (.lst h a) es) j σ M Q E = wEx P R κ (.lst h a) σ M (kA1 P R κ es j σ Q E) E := wA_any rfl
theorem wA_bin {o : BOp} {h : Bool} {a b : ME} : wA P R κ (.cons (.bin o h a b) es) j σ M Q E = wEx P R κ (.bin o h a b) σ M (kA1 P R κ es j σ Q E) E := wA_any rfl
theorem wA_un {o : UOp} {a : ME} : wA P R κ (.cons (.un o a) es) j σ M Q E = wEx P R κ (.un o a) σ M (kA1 P R κ es j σ Q E) E := wA_any rfl
theorem wA_cmp {o : COp} {a b : ME} : wA P R κ (.cons (.cmp o a b) es) j σ M Q E = wEx P R κ (.cmp o a b) σ M (kA1 P R κ es j σ Q E) E := wA_any rfl
theorem wA_bop {o : Bool} {a : MEs} : wA P R κ (.cons (.bop o a) es) j σ M Q E = wEx P R κ (.bop o a) σ M (kA1 P R κ es j σ Q E) E := wA_any rfl
theorem wA_not {a : ME} : wA P R κ (.cons (.not a) es) j σ M Q E = wEx P R κ (.not a) σ M (kA1 P R κ es j σ Q E) E := wA_any rfl
theorem wA_ife {t : MQ} {a b : ME} : wA P R κ (.cons (.ife t a b) es) j σ M Q E = wEx P R κ (.ife t a b) σ M (kA1 P R κ es j σ Q E) E := wA_any rfl
theorem wA_ix {a b : ME} : wA P R κ (.cons (.ix a b) es) j σ M Q E = wEx P R κ (.ix a b) σ M (kA1 P R κ es j σ Q E) E := wA_any rfl
theorem wA_sl {h : Bool} {a : ME} {lo hi : MP} : wA P R κ (.cons (.sl h a lo hi) es) j σ M Q E = wEx P R κ (.sl h a lo hi) σ M (kA1 P R κ es j σ Q E) E := wA_any rfl
theorem wA_call {g : Nat} {a : MEs} : wA P R κ (.cons (.call g a) es) j σ M Q E = wEx P R κ (.call g a) σ M (kA1 P R κ es j σ Q E) E := wA_any rfl
theorem wA_callv {g : Nat} {a : MEs} : wA P R κ (.cons (.callv g a) es) j σ M Q E = wEx P R κ (.callv g a) σ M (kA1 P R κ es j σ Q E) E := wA_any rfl
theorem wA_make {g : Nat} {a : MEs} : wA P R κ (.cons (.make g a) es) j σ M Q E = wEx P R κ (.make g a) σ M (kA1 P R κ es j σ Q E) E := wA_any rfl
theorem wA_meth {m : Str} {o : ME} {a : MEs} : wA P R κ (.cons (.meth m o a) es) j σ M Q E = wEx P R κ (.meth m o a) σ M (kA1 P R κ es j σ Q E) E := wA_any rfl
theorem wA_fld {m : Str} {o : ME} : wA P R κ (.cons (.fld m o) es) j σ M Q E = wEx P R κ (.fld m o) σ M (kA1 P R κ es j σ Q E) E := wA_any rfl
theorem wA_bi {b : Bi} {h : Bool} {a : MEs} : wA P R κ (.cons (.bi b h a) es) j σ M Q E = wEx P R κ (.bi b h a) σ M (kA1 P R κ es j σ Q E) E := wA_any rfl
theorem wA_bm {b : Bm} {o : ME} {a : MEs} : wA P R κ (.cons (.bm b o a) es) j σ M Q E = wEx P R κ (.bm b o a) σ M (kA1 P R κ es j σ Q E) E := wA_any rfl
theorem wA_isi {a : ME} {ts : List Ty} : wA P R κ (.cons (.isi a ts) es) j σ M Q E = wEx P R κ (.isi a ts) σ M (kA1 P R κ es j σ Q E) E := wA_any rfl
theorem wA_lc {h : Bool} {elt : ME} {tg : MT} {it : MI} {ifs : MQs} {own : List Nat} : wA P R κ (.cons (.lc h elt tg it ifs own) es) j σ M Q E = wEx P R κ (.lc h elt tg it ifs own) σ M (kA1 P R κ es j σ Q E) E := wA_any rfl
theorem wA_dsp {h : Bool} {a : MKs} : wA P R κ (.cons (.dsp h a) es) j σ M Q E = wEx P R κ (.dsp h a) σ M (kA1 P R κ es j σ Q E) E := wA_any rfl
theorem wA_lam {nps : Nat} {caps : List Nat} {N : List Str} {body : ME} : wA P R κ (.cons (.lam nps caps N body) es) j σ M Q E = wO (caps.mapM (slot σ)) M (kAL P R κ nps N body es j σ Q E) := by
  show wp (match caps.mapM (slot σ) with | some ws => _ | none => .bad) Q E = _
  cases caps.mapM (slot σ) with
  | none => rfl
  | some ws => show wp (Res.bind _ _) Q E = _; rw [wp_bind]; rfl
end
theorem wP_no {Q : Option Int → Hm → Prop} : wP P R κ .no σ M Q E = Q none M := propext Iff.rfl
theorem wP_some {e : ME} {Q : Option Int → Hm → Prop} : wP P R κ (.some e) σ M Q E = wEx P R κ e σ M (kPi Q) E := by
  show wp (Res.bind _ _) Q E = _; rw [wp_bind]; refine wp_iff fun x M => ?_; cases x <;> rfl
theorem wB_one {k : Bool} {e : ME} : wB P R κ k (.cons e .nil) σ M Q E = wEx P R κ e σ M Q E := propext Iff.rfl
theorem wB_cons {k : Bool} {e e' : ME} {es : MEs} : wB P R κ k (.cons e (.cons e' es)) σ M Q E = wEx P R κ e σ M (kB1 P R κ k (.cons e' es) σ Q E) E := by
  show wp (Res.bind _ _) Q E = _; rw [wp_bind]; refine wp_iff fun x M => ?_; cases x with
  | bl b => show wp (if b = k then _ else _) Q E = if b = k then _ else _
            by_cases h : b = k
            · rw [if_pos h, if_pos h]; rfl
            · rw [if_neg h, if_neg h]; rfl
  | _ => rfl
section
variable {Q : Bool → Hm → Prop}
theorem wT_val {e : ME} : wT P R κ (.val e) σ M Q E = wEx P R κ e σ M (kVal Q) E := by
  show wp (Res.bind _ _) Q E = _; rw [wp_bind]; refine wp_iff fun x M => ?_; cases x <;> rfl
theorem wT_cmp {o : COp} {a b : ME} : wT P R κ (.cmp o a b) σ M Q E = wEx P R κ a σ M (kCmp1 P R κ o b σ Q E) E := by
  show wp (Res.bind _ _) Q E = _; rw [wp_bind]; refine wp_iff fun x M => ?_; rw [wp_bind]; refine wp_iff fun y M => ?_; rw [wp_liftO]; rfl
theorem wT_chn {o p : COp} {a b c : ME} : wT P R κ (.chn o p a b c) σ M Q E = wEx P R κ a σ M (kChn1 P R κ o p b c σ Q E) E := by
  show wp (Res.bind _ _) Q E = _; rw [wp_bind]; refine wp_iff fun x M => ?_; rw [wp_bind]; refine wp_iff fun y M => ?_; rw [wp_bind, wp_liftO]
  show wO _ _ _ = wO _ _ _
  cases opCmp o x y M with
  | none => rfl
  | some k => cases k with
    | false => rfl
    | true =>
      show wp (Res.bind _ _) Q E = _
      rw [wp_bind]; refine wp_iff fun z M => ?_; rw [wp_liftO]; rfl
theorem wT_not {t : MQ} : wT P R κ (.not t) σ M Q E = wT P R κ t σ M (kNot Q) E := by
  show wp (Res.bind _ _) Q E = _; rw [wp_bind]; rfl
theorem wT_bop {k : Bool} {ts : MQs} : wT P R κ (.bop k ts) σ M Q E = wTB P R κ k ts σ M Q E := propext Iff.rfl
theorem wT_ife {t a b : MQ} : wT P R κ (.ife t a b) σ M Q E = wT P R κ t σ M (kIfT P R κ a b σ Q E) E := by
  show wp (Res.bind _ _) Q E = _; rw [wp_bind]; refine wp_iff fun k M => ?_; cases k <;> rfl
theorem wTB_nil {k : Bool} : wTB P R κ k .nil σ M Q E = Q k M := propext Iff.rfl
theorem wTB_cons {k : Bool} {t : MQ} {ts : MQs} : wTB P R κ k (.cons t ts) σ M Q E = wT P R κ t σ M (kTB1 P R κ k ts σ Q E) E := by
  show wp (Res.bind _ _) Q E = _; rw [wp_bind]; refine wp_iff fun b M => ?_
  show wp (if b = k then _ else _) Q E = if b = k then _ else _
  by_cases h : b = k
  · rw [if_pos h, if_pos h]; rfl
  · rw [if_neg h, if_neg h]; rfl
end
theorem wK_nil {Q : List (L2.Key × D) → Hm → Prop} : wK P R κ .nil σ M Q E = Q [] M := propext Iff.rfl
theorem wK_cons {k v : ME} {r : MKs} {Q : List (L2.Key × D) → Hm → Prop} : wK P R κ (.cons k v r) σ M Q E = wEx P R κ k σ M (kK1 P R κ v r σ Q E) E := by
  show wp (Res.bind _ _) Q E = _; rw [wp_bind]; refine wp_iff fun x M => ?_; rw [wp_bind]; refine wp_iff fun y M => ?_; rw [wp_bind, wp_liftO]
  show wO _ _ _ = wO _ _ _
  cases keyD x with
  | none => rfl
  | some k => show wp (Res.bind _ _) Q E = _; rw [wp_bind]; rfl
theorem wI_val {e : ME} {Q : Src → Hm → Prop} : wI P R κ (.val e) σ M Q E = wEx P R κ e σ M (kIv Q) E := by
  show wp (Res.bind _ _) Q E = _; rw [wp_bind]; refine wp_iff fun x M => ?_; rw [wp_liftO]; rfl
theorem wI_rng1 {e : ME} {Q : Src → Hm → Prop} : wI P R κ (.rng1 e) σ M Q E = wEx P R κ e σ M (kIr Q) E := by
  show wp (Res.bind _ _) Q E = _; rw [wp_bind]; refine wp_iff fun x M => ?_
  cases x with
  | int j => show wp (if rngOk j = true then _ else _) Q E = (_ ∧ _)
             by_cases h : rngOk j = true
             · rw [if_pos h]; exact propext ⟨fun z => ⟨h, z⟩, fun z => z.2⟩
             · rw [if_neg h]; exact propext ⟨fun z => z.elim, fun z => absurd z.1 h⟩
  | _ => rfl
theorem wI_rng2 {a b : ME} {Q : Src → Hm → Prop} : wI P R κ (.rng2 a b) σ M Q E = wEx P R κ a σ M (kIr1 P R κ b σ Q E) E := by
  show wp (Res.bind _ _) Q E = _; rw [wp_bind]; refine wp_iff fun x M => ?_; rw [wp_bind]; rfl
-- comprehensions
theorem kLc_items {h : Bool} {elt : ME} {tg : MT} {ifs : MQs} {own : List Nat} {ds : List D} : kLc P R κ h elt tg ifs own σ Q E (.items ds) M = (ds.length ≤ 16777216 ∧ own.all (free κ) = true ∧ wLc P R κ elt tg ifs own σ ds M (kLst h Q) E) := by
  show wp (if (szOk ds.length && own.all (free κ)) = true then _ else _) Q E = _
  by_cases h1 : (szOk ds.length && own.all (free κ)) = true
  · rw [if_pos h1, wp_bind, compGo_at ds.length 0 M (by omega)]
    rw [Bool.and_eq_true] at h1
    have e : wp (compL (lcTurn P R κ elt tg ifs own σ) (ds.drop 0) M) (fun a M => wp (mkl h a M) Q E) E = wLc P R κ elt tg ifs own σ ds M (kLst h Q) E := by
      refine wp_iff fun a M => ?_; cases h <;> rfl
    rw [e]
    exact propext ⟨fun z => ⟨of_decide_eq_true h1.1, h1.2, z⟩, fun z => z.2.2⟩
  · rw [if_neg h1]
    refine propext ⟨fun z => z.elim, fun z => h1 ?_⟩
    rw [Bool.and_eq_true]
    exact ⟨decide_eq_true z.1, z.2.1⟩
theorem wLc_nil {elt : ME} {tg : MT} {ifs : MQs} {own : List Nat} {Q : List D → Hm → Prop} : wLc P R κ elt tg ifs own σ [] M Q E = Q [] M := propext Iff.rfl
theorem wLc_cons {elt : ME} {tg : MT} {ifs : MQs} {own : List Nat} {d : D} {ds : List D} {Q : List D → Hm → Prop} : wLc P R κ elt tg ifs own σ (d :: ds) M Q E = wG P R κ tg d (wipeE σ own) M (kLc1 P R κ elt tg ifs own σ ds Q E) := by
  show wp ((lcTurn P R κ elt tg ifs own σ d M).bind _) Q E = _
  rw [wp_bind]
  unfold lcTurn
  rw [wp_use]
  refine wp_iff fun σ' M => ?_
  rw [wp_bind]
  refine wp_iff fun b M => ?_
  cases b with
  | false =>
    show wp (Res.bind _ _) Q E = _
    rw [wp_bind]
    exact wp_iff fun r M => rfl
  | true =>
    show wp (Res.bind _ _) _ E = _
    rw [wp_bind]
    refine wp_iff fun y M => ?_
    show wp (Res.bind _ _) Q E = _
    rw [wp_bind]
    exact wp_iff fun r M => rfl
-- targets
theorem wG_nm {i : Nat} {d : D} {Q : Env → Hm → Prop} : wG P R κ (.nm i) d σ M Q = if free κ i = true then Q (σ.set i (some d)) M else False := by
  show wp (if free κ i = true then _ else _) Q nE = _
  by_cases h : free κ i = true
  · rw [if_pos h, if_pos h]; rfl
  · rw [if_neg h, if_neg h]; rfl
theorem wG_tp1 {a : MT} {x : D} {Q : Env → Hm → Prop} : wG P R κ (.tp (.cons a .nil)) (.tup [x]) σ M Q = wGs P R κ (.cons a .nil) [x] σ M Q := propext Iff.rfl
theorem wG_tp2 {a b : MT} {x y : D} {Q : Env → Hm → Prop} : wG P R κ (.tp (.cons a (.cons b .nil))) (.tup [x, y]) σ M Q = wGs P R κ (.cons a (.cons b .nil)) [x, y] σ M Q := propext Iff.rfl
theorem wG_tp3 {a b c : MT} {x y z : D} {Q : Env → Hm → Prop} : wG P R κ (.tp (.cons a (.cons b (.cons c .nil)))) (.tup [x, y, z]) σ M Q = wGs P R κ (.cons a (.cons b (.cons c .nil))) [x, y, z] σ M Q := propext Iff.rfl
theorem wG_tp4 {a b c d : MT} {x y z u : D} {Q : Env → Hm → Prop} : wG P R κ (.tp (.cons a (.cons b (.cons c (.cons d .nil))))) (.tup [x, y, z, u]) σ M Q = wGs P R κ (.cons a (.cons b (.cons c (.cons d .nil)))) [x, y, z, u] σ M Q := propext Iff.rfl
theorem wGs_nil {Q : Env → Hm → Prop} : wGs P R κ .nil [] σ M Q = Q σ M := propext Iff.rfl
theorem wGs_cons {t : MT} {ts : MTs} {d : D} {ds : List D} {Q : Env → Hm → Prop} : wGs P R κ (.cons t ts) (d :: ds) σ M Q = wG P R κ t d σ M (kG P R κ ts ds Q) := by
  show wp (Res.bind _ _) Q nE = _; rw [wp_bind]; rfl
theorem wG_sb {o i : ME} {d : D} {Q : Env → Hm → Prop} : wG P R κ (.sb o i) d σ M Q = wEx P R κ o σ M (kSb1 P R κ i d σ Q) nE := by
  show wp (Res.bind _ _) Q nE = _; rw [wp_bind]; refine wp_iff fun x M => ?_; rw [wp_bind]; rfl
theorem wG_at {f : Str} {o : ME} {d : D} {Q : Env → Hm → Prop} : wG P R κ (.at f o) d σ M Q = wEx P R κ o σ M (kAt P f d σ Q) nE := by
  show wp (Res.bind _ _) Q nE = _; rw [wp_bind]; rfl
-- statements
theorem wXs_nil : wXs P R κ .nil σ M p = p.N σ M := propext Iff.rfl
theorem wXs_cons {s : MS} {ss : MSs} : wXs P R κ (.cons s ss) σ M p = wX P R κ s σ M (poSeq P R κ ss p) := by
  show wps (SR.andThen _ _) _ _ _ _ _ = _; rw [wps_then]; rfl
theorem wX_expr {e : ME} : wX P R κ (.expr e) σ M p = wEx P R κ e σ M (kExpr p σ) (pE p σ) := by
  show wps (Res.st _ _ _) _ _ _ _ _ = _; rw [wps_st]; rfl
theorem wX_asg {t : MT} {e : ME} : wX P R κ (.asg t e) σ M p = wEx P R κ e σ M (kAsg P R κ t σ p) (pE p σ) := by
  show wps (Res.st _ _ _) _ _ _ _ _ = _; rw [wps_st]; refine wp_iff fun d M => ?_; rw [wps_puts]; rfl
theorem wX_par {is : List Nat} {es : MEs} : wX P R κ (.par is es) σ M p = wEs P R κ es σ M (kPar κ is σ p) (pE p σ) := by
  show wps (Res.st _ _ _) _ _ _ _ _ = _; rw [wps_st]; refine wp_iff fun ds M => ?_
  show wps (if is.all (free κ) = true then _ else _) _ _ _ _ _ = if is.all (free κ) = true then _ else _
  by_cases h : is.all (free κ) = true
  · rw [if_pos h, if_pos h]; cases setAll is ds σ <;> rfl
  · rw [if_neg h, if_neg h]; rfl
theorem wX_aug {o : BOp} {i : Nat} {e : ME} : wX P R κ (.aug o i e) σ M p = kAug P R κ o i e σ M p (slot σ i) := by
  show wps (match slot σ i with | some x => _ | none => _) _ _ _ _ _ = _
  cases slot σ i with
  | none => rfl
  | some x =>
    show wps (if free κ i = true then _ else _) _ _ _ _ _ = if free κ i = true then _ else _
    by_cases h : free κ i = true
    · rw [if_pos h, if_pos h, wps_st]; rfl
    · rw [if_neg h, if_neg h]; rfl
theorem wX_ife {t : MQ} {a b : MSs} : wX P R κ (.ife t a b) σ M p = wT P R κ t σ M (kIf P R κ a b σ p) (pE p σ) := by
  show wps (Res.st _ _ _) _ _ _ _ _ = _; rw [wps_st]; refine wp_iff fun k M => ?_; cases k <;> rfl
theorem wX_fr {t : MT} {it : MI} {b : MSs} : wX P R κ (.fr t it b) σ M p = wI P R κ it σ M (kFor P R κ t b σ p) (pE p σ) := by
  show wps (Res.st _ _ _) _ _ _ _ _ = _; rw [wps_st]; rfl
theorem kFor_items {t : MT} {b : MSs} {ds : List D} : kFor P R κ t b σ p (.items ds) M = wFor P R κ t b ds σ M p := by
  show wps (forGo _ _ ds.length 0 σ M) _ _ _ _ _ = _
  rw [forGo_at ds.length 0 σ M (by omega)]
  rfl
theorem wFor_nil {t : MT} {b : MSs} : wFor P R κ t b [] σ M p = p.N σ M := propext Iff.rfl
theorem wFor_cons {t : MT} {b : MSs} {d : D} {ds : List D} : wFor P R κ t b (d :: ds) σ M p = wG P R κ t d σ M (kForB P R κ t b ds p) := by
  show wps (forL _ (d :: ds) σ M) _ _ _ _ _ = _
  rw [forL_cons rfl]
  have e : ∀ r : SR, wps (contL (frTurn P R κ t b) ds r) p.N p.R p.B p.C p.E = wps r (fun σ M => wFor P R κ t b ds σ M p) p.R p.N (fun σ M => wFor P R κ t b ds σ M p) p.E := by
    intro r
    cases r <;> rfl
  rw [e]
  show wps ((asg P R κ t d σ M).put _) _ _ _ _ _ = _
  rw [wps_puts]
  rfl
theorem wX_whl {t : MQ} {b : MSs} : wX P R κ (.whl t b) σ M p = wWhl P R κ P.fuel t b σ M p := propext Iff.rfl
theorem wWhl_succ {k : Nat} {t : MQ} {b : MSs} : wWhl P R κ (k + 1) t b σ M p = wT P R κ t σ M (kWhl P R κ k t b σ p) (pE p σ) := by
  show wps (Res.st _ _ _) _ _ _ _ _ = _; rw [wps_st]; refine wp_iff fun c M => ?_
  cases c with
  | false => rfl
  | true =>
    show wps (match execs P R κ b σ M with
      | .nxt σ M => whlGo (evT P R κ t) (execs P R κ b) k σ M
      | .cnt σ M => whlGo (evT P R κ t) (execs P R κ b) k σ M
      | .brk σ M => .nxt σ M
      | r => r) _ _ _ _ _ = wps (execs P R κ b σ M) _ _ _ _ _
    cases execs P R κ b σ M <;> rfl
theorem wX_ret {e : ME} : wX P R κ (.ret e) σ M p = wEx P R κ e σ M p.R (pE p σ) := by
  show wps (Res.st _ _ _) _ _ _ _ _ = _; rw [wps_st]; rfl
theorem wX_retn : wX P R κ .retn σ M p = p.R .non M := propext Iff.rfl
theorem wX_rse {c : Nat} {e : ME} : wX P R κ (.rse c e) σ M p = wEx P R κ e σ M (kRse c σ p) (pE p σ) := by
  show wps (Res.st _ _ _) _ _ _ _ _ = _; rw [wps_st]; rfl
theorem wX_tr {b : MSs} {hs : MHs} : wX P R κ (.tr b hs) σ M p = wXs P R κ b σ M (poTr P hs p) := by
  show wps (match execs P R κ b σ M with | .exc c v σ M => caught P c v σ M hs | r => r) _ _ _ _ _ = wps (execs P R κ b σ M) _ _ _ _ _
  cases execs P R κ b σ M <;> rfl
theorem wX_brk : wX P R κ .brk σ M p = p.B σ M := propext Iff.rfl
theorem wX_cnt : wX P R κ .cnt σ M p = p.C σ M := propext Iff.rfl
theorem wX_pas : wX P R κ .pas σ M p = p.N σ M := propext Iff.rfl
/-- a while loop by turns -/
theorem wX_top {b : MSs} {E : Nat → D → Hm → Prop} : wp (execs P R κ b σ M).res Q E = wXs P R κ b σ M (poTop Q E) := by rw [wp_res]; rfl
end
end Mi

end
section
/-! M39: operations in the machine; rules for simp. -/
namespace Mi
open PySem
theorem ofStr_inj {a b : String} : (Str.ofString a = Str.ofString b) = (a = b) := by
  refine propext ⟨fun h => ?_, fun h => by rw [h]⟩
  rw [Str.ofString_eq_toList, Str.ofString_eq_toList] at h
  injection h with h
  have h2 : a.toList.map Char.toNat = b.toList.map Char.toNat := by
    have := congrArg Array.toList h
    simpa using this
  have h3 : a.toList = b.toList := by
    have inj : ∀ (x y : List Char), x.map Char.toNat = y.map Char.toNat → x = y := by
      intro x
      induction x with
      | nil => intro y hy; cases y with
        | nil => rfl
        | cons c cs => cases hy
      | cons c cs ih =>
        intro y hy
        cases y with
        | nil => cases hy
        | cons d ds =>
          simp only [List.map_cons] at hy
          injection hy with h1 h2
          have : c = d := Char.ext (UInt32.toNat_inj.mp h1)
          rw [this, ih ds h2]
    exact inj _ _ h2
  exact String.toList_inj.mp h3
section
variable {P : Prg} {R : Rt} {κ : List (Nat × CloD)} {σ : Env} {M : Hm} {E : Nat → D → Hm → Prop} {Q : D → Hm → Prop} {p : Po} {h : Bool}
theorem wp_if2 {c : Prop} [Decidable c] {d : D} : wp (if c then Res.ok d M else .bad) Q E = (c ∧ Q d M) := by
  by_cases hc : c
  · rw [if_pos hc]; exact propext ⟨fun z => ⟨hc, z⟩, fun z => z.2⟩
  · rw [if_neg hc]; exact propext ⟨fun z => z.elim, fun z => hc z.1⟩
theorem num64_iff {i : Int} : (num64 i = true) = (-18446744073709551616 < i ∧ i < 18446744073709551616) := by
  unfold num64
  rw [Bool.and_eq_true, decide_eq_true_eq, decide_eq_true_eq]
  rfl
theorem o_add {i j : Int} : wp (opBin .add h (.int i) (.int j) M) Q E = Q (.int (i + j)) M := propext Iff.rfl
theorem o_sub {i j : Int} : wp (opBin .sub h (.int i) (.int j) M) Q E = Q (.int (i - j)) M := propext Iff.rfl
theorem o_mul {i j : Int} : wp (opBin .mul h (.int i) (.int j) M) Q E = (((-18446744073709551616 < i ∧ i < 18446744073709551616) ∨ (-18446744073709551616 < j ∧ j < 18446744073709551616)) ∧ Q (.int (i * j)) M) := by
  show wp (if (num64 i || num64 j) = true then Res.ok _ M else .bad) Q E = _
  rw [wp_if2, Bool.or_eq_true, num64_iff, num64_iff]
theorem o_fdiv {i j : Int} : wp (opBin .fdiv h (.int i) (.int j) M) Q E = ((0 < j ∧ j < 18446744073709551616) ∧ Q (.int (i / j)) M) := by
  show wp (if (decide (0 < j) && num64 j) = true then Res.ok _ M else .bad) Q E = _
  rw [wp_if2, Bool.and_eq_true, num64_iff, decide_eq_true_eq]
  refine propext ⟨fun z => ⟨⟨z.1.1, z.1.2.2⟩, z.2⟩, fun z => ⟨⟨z.1.1, ?_, z.1.2⟩, z.2⟩⟩
  have := z.1.1
  omega
theorem o_mod {i j : Int} : wp (opBin .mod h (.int i) (.int j) M) Q E = (0 < j ∧ Q (.int (i % j)) M) := by
  show wp (if decide (0 < j) = true then Res.ok _ M else .bad) Q E = _
  rw [wp_if2, decide_eq_true_eq]
theorem o_pow {i j : Int} : wp (opBin .pow h (.int i) (.int j) M) Q E = ((0 ≤ j ∧ j ≤ 1000000 ∧ -18446744073709551616 < i ∧ i < 18446744073709551616) ∧ Q (.int (i ^ j.toNat)) M) := by
  show wp (if (decide (0 ≤ j) && decide (j ≤ 1000000) && num64 i) = true then Res.ok _ M else .bad) Q E = _
  rw [wp_if2, Bool.and_eq_true, Bool.and_eq_true, num64_iff, decide_eq_true_eq, decide_eq_true_eq]; simp only [and_assoc]
theorem o_shl {i j : Int} : wp (opBin .shl h (.int i) (.int j) M) Q E = ((0 ≤ j ∧ j ≤ 1000000 ∧ -18446744073709551616 < i ∧ i < 18446744073709551616) ∧ Q (.int (i * 2 ^ j.toNat)) M) := by
  show wp (if (decide (0 ≤ j) && decide (j ≤ 1000000) && num64 i) = true then Res.ok _ M else .bad) Q E = _
  rw [wp_if2, Bool.and_eq_true, Bool.and_eq_true, num64_iff, decide_eq_true_eq, decide_eq_true_eq]; simp only [and_assoc]
theorem o_shr {i j : Int} : wp (opBin .shr h (.int i) (.int j) M) Q E = (0 ≤ j ∧ Q (.int (i / 2 ^ j.toNat)) M) := by
  show wp (if decide (0 ≤ j) = true then Res.ok _ M else .bad) Q E = _
  rw [wp_if2, decide_eq_true_eq]
theorem o_band {i j : Int} : wp (opBin .band h (.int i) (.int j) M) Q E = Q (.int (Builtin.bitAnd i j)) M := propext Iff.rfl
theorem o_bor {i j : Int} : wp (opBin .bor h (.int i) (.int j) M) Q E = Q (.int (Builtin.bitOr i j)) M := propext Iff.rfl
theorem o_bxor {i j : Int} : wp (opBin .bxor h (.int i) (.int j) M) Q E = Q (.int (Builtin.bitXor i j)) M := propext Iff.rfl
theorem o_strs {a b : Str} : wp (opBin .add h (.str a) (.str b) M) Q E = (a.length + b.length ≤ 16777216 ∧ Q (.str (a ++ b)) M) := by
  show wp (if szOk (a.length + b.length) = true then Res.ok _ M else .bad) Q E = _
  rw [wp_if2, decide_eq_true_eq]
theorem o_tups {a b : List D} : wp (opBin .add h (.tup a) (.tup b) M) Q E = (a.length + b.length ≤ 16777216 ∧ Q (.tup (a ++ b)) M) := by
  show wp (if szOk (a.length + b.length) = true then Res.ok _ M else .bad) Q E = _
  rw [wp_if2, decide_eq_true_eq]
theorem o_lsts {a b : List D} : wp (opBin .add h (.lst a) (.lst b) M) Q E = (a.length + b.length ≤ 16777216 ∧ kLst h Q (a ++ b) M) := by
  show wp (if szOk (a.length + b.length) = true then mkl h (a ++ b) M else .bad) Q E = _
  by_cases hc : szOk (a.length + b.length) = true
  · rw [if_pos hc]
    have := of_decide_eq_true hc
    cases h <;> exact propext ⟨fun z => ⟨this, z⟩, fun z => z.2⟩
  · rw [if_neg hc]; exact propext ⟨fun z => z.elim, fun z => hc (decide_eq_true z.1)⟩
theorem o_neg {i : Int} : wp (opUn .neg (.int i) M) Q E = Q (.int (-i)) M := propext Iff.rfl
theorem o_inv {i : Int} : wp (opUn .inv (.int i) M) Q E = Q (.int (Builtin.bitNot i)) M := propext Iff.rfl
section
variable {Q : Bool → Hm → Prop} {i j : Int} {a b : Str}
theorem c_eqi : wO (opCmp .eq (.int i) (.int j) M) M Q = Q (decide (i = j)) M := propext Iff.rfl
theorem c_nei : wO (opCmp .ne (.int i) (.int j) M) M Q = Q (!decide (i = j)) M := propext Iff.rfl
theorem c_lti : wO (opCmp .lt (.int i) (.int j) M) M Q = Q (decide (i < j)) M := propext Iff.rfl
theorem c_lei : wO (opCmp .le (.int i) (.int j) M) M Q = Q (decide (i ≤ j)) M := propext Iff.rfl
theorem c_gti : wO (opCmp .gt (.int i) (.int j) M) M Q = Q (decide (j < i)) M := propext Iff.rfl
theorem c_gei : wO (opCmp .ge (.int i) (.int j) M) M Q = Q (decide (j ≤ i)) M := propext Iff.rfl
theorem c_eqs : wO (opCmp .eq (.str a) (.str b) M) M Q = Q (decide (a = b)) M := propext Iff.rfl
theorem c_nes : wO (opCmp .ne (.str a) (.str b) M) M Q = Q (!decide (a = b)) M := propext Iff.rfl
theorem c_eqb {a b : Bool} : wO (opCmp .eq (.bl a) (.bl b) M) M Q = Q (decide (a = b)) M := propext Iff.rfl
theorem c_neb {a b : Bool} : wO (opCmp .ne (.bl a) (.bl b) M) M Q = Q (!decide (a = b)) M := propext Iff.rfl
theorem c_eqn : wO (opCmp .eq .non .non M) M Q = Q true M := propext Iff.rfl
theorem c_nen : wO (opCmp .ne .non .non M) M Q = Q false M := propext Iff.rfl
theorem c_eqns : wO (opCmp .eq .non (.str a) M) M Q = Q false M := propext Iff.rfl
theorem c_eqsn : wO (opCmp .eq (.str a) .non M) M Q = Q false M := propext Iff.rfl
theorem c_eqni : wO (opCmp .eq .non (.int i) M) M Q = Q false M := propext Iff.rfl
theorem c_eqin : wO (opCmp .eq (.int i) .non M) M Q = Q false M := propext Iff.rfl
theorem c_eqis : wO (opCmp .eq (.int i) (.str a) M) M Q = Q false M := propext Iff.rfl
theorem c_eqsi : wO (opCmp .eq (.str a) (.int i) M) M Q = Q false M := propext Iff.rfl
theorem c_isn : wO (opCmp .is .non .non M) M Q = Q true M := propext Iff.rfl
theorem c_isi : wO (opCmp .is (.int i) .non M) M Q = Q false M := propext Iff.rfl
theorem c_isb {x : Bool} : wO (opCmp .is (.bl x) .non M) M Q = Q false M := propext Iff.rfl
theorem c_iss : wO (opCmp .is (.str a) .non M) M Q = Q false M := propext Iff.rfl
theorem c_ist {x : List D} : wO (opCmp .is (.tup x) .non M) M Q = Q false M := propext Iff.rfl
theorem c_isl {x : List D} : wO (opCmp .is (.lst x) .non M) M Q = Q false M := propext Iff.rfl
theorem c_isr {x : Nat} : wO (opCmp .is (.ref x) .non M) M Q = Q false M := propext Iff.rfl
theorem c_inn : wO (opCmp .isnot .non .non M) M Q = Q false M := propext Iff.rfl
theorem c_ini : wO (opCmp .isnot (.int i) .non M) M Q = Q true M := propext Iff.rfl
theorem c_inb {x : Bool} : wO (opCmp .isnot (.bl x) .non M) M Q = Q true M := propext Iff.rfl
theorem c_ins : wO (opCmp .isnot (.str a) .non M) M Q = Q true M := propext Iff.rfl
theorem c_int {x : List D} : wO (opCmp .isnot (.tup x) .non M) M Q = Q true M := propext Iff.rfl
theorem c_inl {x : List D} : wO (opCmp .isnot (.lst x) .non M) M Q = Q true M := propext Iff.rfl
theorem c_inr {x : Nat} : wO (opCmp .isnot (.ref x) .non M) M Q = Q true M := propext Iff.rfl
theorem c_int_ {x : D} {xs : List D} : wO (opCmp .isin x (.tup xs) M) M Q = if (flatD x && xs.all flatD) = true then Q (xs.any fun z => eqF z x) M else False := by
  show wO (if (flatD x && xs.all flatD) = true then some (xs.any fun z => eqF z x) else none) M Q = _
  by_cases h : (flatD x && xs.all flatD) = true
  · rw [if_pos h, if_pos h]; rfl
  · rw [if_neg h, if_neg h]; rfl
theorem c_inl_ {x : D} {xs : List D} : wO (opCmp .isin x (.lst xs) M) M Q = if (flatD x && xs.all flatD) = true then Q (xs.any fun z => eqF z x) M else False := by
  show wO (if (flatD x && xs.all flatD) = true then some (xs.any fun z => eqF z x) else none) M Q = _
  by_cases h : (flatD x && xs.all flatD) = true
  · rw [if_pos h, if_pos h]; rfl
  · rw [if_neg h, if_neg h]; rfl
theorem c_nint_ {x : D} {xs : List D} : wO (opCmp .notin x (.tup xs) M) M Q = if (flatD x && xs.all flatD) = true then Q (!(xs.any fun z => eqF z x)) M else False := by
  show wO ((if (flatD x && xs.all flatD) = true then some (xs.any fun z => eqF z x) else none).map _) M Q = _
  by_cases h : (flatD x && xs.all flatD) = true
  · rw [if_pos h, if_pos h]; rfl
  · rw [if_neg h, if_neg h]; rfl
theorem eqF_ss : eqF (.str a) (.str b) = decide (a = b) := by
  show (a == b) = _
  by_cases h : a = b <;> simp [h]
theorem eqF_ii : eqF (.int i) (.int j) = decide (i = j) := by
  show (i == j) = _
  by_cases h : i = j <;> simp [h]
theorem eqF_ns : eqF .non (.str b) = false := (rfl)
theorem eqF_nn : eqF .non .non = true := (rfl)
theorem eqF_sn : eqF (.str b) .non = false := (rfl)
theorem eqF_is : eqF (.int i) (.str b) = false := (rfl)
theorem eqF_si : eqF (.str b) (.int i) = false := (rfl)
theorem eqF_in : eqF (.int i) .non = false := (rfl)
theorem eqF_ni : eqF .non (.int i) = false := (rfl)
theorem flat_s : flatD (.str a) = true := (rfl)
theorem flat_i : flatD (.int i) = true := (rfl)
theorem flat_n : flatD .non = true := (rfl)
theorem flat_b {x : Bool} : flatD (.bl x) = true := (rfl)
end
-- indices, slices
theorem x_tup {xs : List D} {i : Int} {Q : D → Hm → Prop} : wO (opIx (.tup xs) (.int i) M) M Q = wO (L2.atI xs i) M Q := propext Iff.rfl
theorem x_lst {xs : List D} {i : Int} {Q : D → Hm → Prop} : wO (opIx (.lst xs) (.int i) M) M Q = wO (L2.atI xs i) M Q := propext Iff.rfl
theorem x_flst {xs : List D} {i : Int} {Q : D → Hm → Prop} : wO (opIx (.flst xs) (.int i) M) M Q = wO (L2.atI xs i) M Q := propext Iff.rfl
theorem x_dic {ks : List L2.Key} {vs : List D} {k : Str} {Q : D → Hm → Prop} : wO (opIx (.dic ks vs) (.str k) M) M Q = wO (dGet ks vs (.inr k)) M Q := propext Iff.rfl
theorem x_ref {n : Nat} {xs : List D} {i : Int} {Q : D → Hm → Prop} (hn : M[n]? = some (.lst xs)) : wO (opIx (.ref n) (.int i) M) M Q = wO (L2.atI xs i) M Q := by
  have e : opIx (.ref n) (.int i) M = L2.atI xs i := by
    unfold opIx items? str?
    simp only [hn]
    rfl
  rw [e]
theorem s_tup {xs : List D} {lo hi : Option Int} : wp (opSl h (.tup xs) lo hi M) Q E = Q (.tup (cutD xs lo hi)) M := propext Iff.rfl
theorem s_lst {xs : List D} {lo hi : Option Int} : wp (opSl h (.lst xs) lo hi M) Q E = kLst h Q (cutD xs lo hi) M := by cases h <;> rfl
theorem cut_to {xs : List D} {k : Nat} : cutD xs none (some ((k : Nat) : Int)) = xs.take k := by
  unfold cutD
  rw [HT.sIx_none, HT.sIx_nat, List.drop_zero, Nat.sub_zero, List.take_eq_take_iff]
  omega
theorem cut_from {xs : List D} {k : Nat} : cutD xs (some ((k : Nat) : Int)) none = xs.drop k := by
  unfold cutD
  rw [HT.sIx_none, HT.sIx_nat]
  by_cases hk : k ≤ xs.length
  · rw [Nat.min_eq_left hk, List.take_of_length_le (by rw [List.length_drop]; omega)]
  · rw [Nat.min_eq_right (by omega), List.drop_eq_nil_of_le (Nat.le_refl _), List.drop_eq_nil_of_le (by omega), List.take_nil]
-- builtins
theorem b_len {x : D} : wp (biSem .len h [x] M) Q E = wp (biLen M x) Q E := propext Iff.rfl
theorem l_tup {xs : List D} : wp (biLen M (.tup xs)) Q E = Q (.int xs.length) M := propext Iff.rfl
theorem l_lst {xs : List D} : wp (biLen M (.lst xs)) Q E = Q (.int xs.length) M := propext Iff.rfl
theorem l_flst {xs : List D} : wp (biLen M (.flst xs)) Q E = Q (.int xs.length) M := propext Iff.rfl
theorem l_str {s : Str} : wp (biLen M (.str s)) Q E = (s.length ≤ 16777216 ∧ Q (.int s.length) M) := by
  show wp (if szOk s.length = true then Res.ok _ M else .bad) Q E = _
  rw [wp_if2, decide_eq_true_eq]
theorem l_ref {n : Nat} {xs : List D} (hn : M[n]? = some (.lst xs)) : wp (biLen M (.ref n)) Q E = Q (.int xs.length) M := by
  unfold biLen str? items?
  simp only [hn]
  rfl
theorem b_abs {i : Int} : wp (biSem .abs h [.int i] M) Q E = Q (.int (if i < 0 then -i else i)) M := propext Iff.rfl
theorem b_int {i : Int} : wp (biSem .int h [.int i] M) Q E = Q (.int i) M := propext Iff.rfl
theorem b_intb {b : Bool} : wp (biSem .int h [.bl b] M) Q E = Q (.int (if b then 1 else 0)) M := propext Iff.rfl
theorem b_tup {xs : List D} : wp (biSem .tuple h [.tup xs] M) Q E = Q (.tup xs) M := propext Iff.rfl
theorem b_tupl {xs : List D} : wp (biSem .tuple h [.lst xs] M) Q E = Q (.tup xs) M := propext Iff.rfl
theorem b_tupr {n : Nat} {xs : List D} (hn : M[n]? = some (.lst xs)) : wp (biSem .tuple h [.ref n] M) Q E = Q (.tup xs) M := by
  show wp (biTuple M (.ref n)) Q E = _
  unfold biTuple items?
  simp only [hn]
  rfl
theorem b_lstt {xs : List D} : wp (biSem .list h [.tup xs] M) Q E = kLst h Q xs M := by cases h <;> rfl
theorem b_lstl {xs : List D} : wp (biSem .list h [.lst xs] M) Q E = kLst h Q xs M := by cases h <;> rfl
theorem b_lstf {xs : List D} : wp (biSem .list h [.flst xs] M) Q E = kLst h Q xs M := by cases h <;> rfl
theorem b_sum {xs : List D} : wp (biSem .sum h [.lst xs] M) Q E = wO (ints? xs) M (fun ns M => Q (.int ns.sum) M) := by
  show wp (onSome (ints? xs) _) Q E = _
  cases ints? xs <;> rfl
theorem b_all {xs : List D} : wp (biSem .all h [.lst xs] M) Q E = wO (bls? xs) M (fun ns M => Q (.bl (ns.all id)) M) := by
  show wp (onSome (bls? xs) _) Q E = _
  cases bls? xs <;> rfl
theorem b_any {xs : List D} : wp (biSem .any h [.lst xs] M) Q E = wO (bls? xs) M (fun ns M => Q (.bl (ns.any id)) M) := by
  show wp (onSome (bls? xs) _) Q E = _
  cases bls? xs <;> rfl
theorem b_dict {xs : List D} : wp (biSem .dict h [.lst xs] M) Q E = wO (prs? xs) M (kDsp h Q) := by
  show wp (onSome (prs? xs) _) Q E = _
  cases prs? xs with
  | none => rfl
  | some ps => cases h <;> rfl
theorem m_append {n : Nat} {xs : List D} {y : D} (hn : M[n]? = some (.lst xs)) : wp (bmSem .append (.ref n) [y] M) Q E = (xs.length + 1 ≤ 16777216 ∧ Q .non (M.set n (.lst (xs ++ [y])))) := by
  show wp (bmAppend M (.ref n) y) Q E = _
  unfold bmAppend
  rw [obj_at hn]
  show wp (if szOk (xs.length + 1) = true then Res.ok D.non _ else .bad) Q E = _
  rw [wp_if2, decide_eq_true_eq]
theorem m_appOk {n : Nat} {xs : List D} (hn : M[n]? = some (.lst xs)) : bmOk .append (.ref n) M = true := by
  show (obj? M (.ref n)).isSome = true
  rw [obj_at hn]
  rfl
theorem m_popOk {n : Nat} {xs : List D} (hn : M[n]? = some (.lst xs)) : bmOk .pop (.ref n) M = true := by
  show (obj? M (.ref n)).isSome = true
  rw [obj_at hn]
  rfl
theorem m_pop {n : Nat} {xs : List D} {y : D} (hn : M[n]? = some (.lst (xs ++ [y]))) : wp (bmSem .pop (.ref n) [] M) Q E = Q y (M.set n (.lst xs)) := by
  show wp (bmPop M (.ref n)) Q E = _
  unfold bmPop
  rw [obj_at hn]
  simp only [List.getLast?_concat, List.dropLast_concat]
  rfl
-- what is walked
theorem r_tup {xs : List D} {Q : Src → Hm → Prop} : wO (srcOf M (.tup xs)) M Q = Q (.items xs) M := propext Iff.rfl
theorem r_lst {xs : List D} {Q : Src → Hm → Prop} : wO (srcOf M (.lst xs)) M Q = Q (.items xs) M := propext Iff.rfl
theorem r_flst {xs : List D} {Q : Src → Hm → Prop} : wO (srcOf M (.flst xs)) M Q = Q (.items xs) M := propext Iff.rfl
theorem r_rng2 {i j : Int} {Q : Src → Hm → Prop} : wp (rng2D (.int i) (.int j) M) Q E = ((-4611686018427387904 ≤ i ∧ i < 4611686018427387904 ∧ -4611686018427387904 ≤ j ∧ j < 4611686018427387904) ∧ Q (.items (rngD i (j - i).toNat)) M) := by
  show wp (if (rngOk i && rngOk j) = true then Res.ok _ M else .bad) Q E = _
  have e : ∀ z, (rngOk z = true) = (-4611686018427387904 ≤ z ∧ z < 4611686018427387904) := by
    intro z
    unfold rngOk
    rw [Bool.and_eq_true, decide_eq_true_eq, decide_eq_true_eq]
    rfl
  by_cases hc : (rngOk i && rngOk j) = true
  · rw [if_pos hc]
    rw [Bool.and_eq_true, e, e] at hc
    exact propext ⟨fun z => ⟨⟨hc.1.1, hc.1.2, hc.2.1, hc.2.2⟩, z⟩, fun z => z.2⟩
  · rw [if_neg hc]
    rw [Bool.and_eq_true, e, e] at hc
    exact propext ⟨fun z => z.elim, fun z => hc ⟨⟨z.1.1, z.1.2.1⟩, z.1.2.2⟩⟩
theorem rngOk_iff {i : Int} : (rngOk i = true) = (-4611686018427387904 ≤ i ∧ i < 4611686018427387904) := by
  unfold rngOk
  rw [Bool.and_eq_true, decide_eq_true_eq, decide_eq_true_eq]
  rfl
-- places
theorem g_sub {n : Nat} {xs : List D} {k : Int} {d : D} {j : Nat} {Q : Env → Hm → Prop} (hn : M[n]? = some (.lst xs)) (hk : L2.ixN xs.length k = some j) : wp (setSub (.ref n) (.int k) d σ M) Q nE = Q σ (M.set n (.lst (xs.set j d))) := by
  unfold setSub
  simp only [hn, hk]
  rfl
end

theorem slot_0 {x0 : Option D} {σ : Env} : slot (x0 :: σ) 0 = x0 := (rfl)
theorem set_0 {α : Type} {x0 y : α} {σ : List α} : List.set (x0 :: σ) 0 y = y :: σ := (rfl)
theorem slot_1 {x0 x1 : Option D} {σ : Env} : slot (x0 :: x1 :: σ) 1 = x1 := (rfl)
theorem set_1 {α : Type} {x0 x1 y : α} {σ : List α} : List.set (x0 :: x1 :: σ) 1 y = x0 :: y :: σ := (rfl)
theorem slot_2 {x0 x1 x2 : Option D} {σ : Env} : slot (x0 :: x1 :: x2 :: σ) 2 = x2 := (rfl)
theorem set_2 {α : Type} {x0 x1 x2 y : α} {σ : List α} : List.set (x0 :: x1 :: x2 :: σ) 2 y = x0 :: x1 :: y :: σ := (rfl)
theorem slot_3 {x0 x1 x2 x3 : Option D} {σ : Env} : slot (x0 :: x1 :: x2 :: x3 :: σ) 3 = x3 := (rfl)
theorem set_3 {α : Type} {x0 x1 x2 x3 y : α} {σ : List α} : List.set (x0 :: x1 :: x2 :: x3 :: σ) 3 y = x0 :: x1 :: x2 :: y :: σ := (rfl)
theorem slot_4 {x0 x1 x2 x3 x4 : Option D} {σ : Env} : slot (x0 :: x1 :: x2 :: x3 :: x4 :: σ) 4 = x4 := (rfl)
theorem set_4 {α : Type} {x0 x1 x2 x3 x4 y : α} {σ : List α} : List.set (x0 :: x1 :: x2 :: x3 :: x4 :: σ) 4 y = x0 :: x1 :: x2 :: x3 :: y :: σ := (rfl)
theorem slot_5 {x0 x1 x2 x3 x4 x5 : Option D} {σ : Env} : slot (x0 :: x1 :: x2 :: x3 :: x4 :: x5 :: σ) 5 = x5 := (rfl)
theorem set_5 {α : Type} {x0 x1 x2 x3 x4 x5 y : α} {σ : List α} : List.set (x0 :: x1 :: x2 :: x3 :: x4 :: x5 :: σ) 5 y = x0 :: x1 :: x2 :: x3 :: x4 :: y :: σ := (rfl)
theorem slot_6 {x0 x1 x2 x3 x4 x5 x6 : Option D} {σ : Env} : slot (x0 :: x1 :: x2 :: x3 :: x4 :: x5 :: x6 :: σ) 6 = x6 := (rfl)
theorem set_6 {α : Type} {x0 x1 x2 x3 x4 x5 x6 y : α} {σ : List α} : List.set (x0 :: x1 :: x2 :: x3 :: x4 :: x5 :: x6 :: σ) 6 y = x0 :: x1 :: x2 :: x3 :: x4 :: x5 :: y :: σ := (rfl)
theorem slot_7 {x0 x1 x2 x3 x4 x5 x6 x7 : Option D} {σ : Env} : slot (x0 :: x1 :: x2 :: x3 :: x4 :: x5 :: x6 :: x7 :: σ) 7 = x7 := (rfl)
theorem set_7 {α : Type} {x0 x1 x2 x3 x4 x5 x6 x7 y : α} {σ : List α} : List.set (x0 :: x1 :: x2 :: x3 :: x4 :: x5 :: x6 :: x7 :: σ) 7 y = x0 :: x1 :: x2 :: x3 :: x4 :: x5 :: x6 :: y :: σ := (rfl)
theorem slot_8 {x0 x1 x2 x3 x4 x5 x6 x7 x8 : Option D} {σ : Env} : slot (x0 :: x1 :: x2 :: x3 :: x4 :: x5 :: x6 :: x7 :: x8 :: σ) 8 = x8 := (rfl)
theorem set_8 {α : Type} {x0 x1 x2 x3 x4 x5 x6 x7 x8 y : α} {σ : List α} : List.set (x0 :: x1 :: x2 :: x3 :: x4 :: x5 :: x6 :: x7 :: x8 :: σ) 8 y = x0 :: x1 :: x2 :: x3 :: x4 :: x5 :: x6 :: x7 :: y :: σ := (rfl)
theorem slot_9 {x0 x1 x2 x3 x4 x5 x6 x7 x8 x9 : Option D} {σ : Env} : slot (x0 :: x1 :: x2 :: x3 :: x4 :: x5 :: x6 :: x7 :: x8 :: x9 :: σ) 9 = x9 := (rfl)
theorem set_9 {α : Type} {x0 x1 x2 x3 x4 x5 x6 x7 x8 x9 y : α} {σ : List α} : List.set (x0 :: x1 :: x2 :: x3 :: x4 :: x5 :: x6 :: x7 :: x8 :: x9 :: σ) 9 y = x0 :: x1 :: x2 :: x3 :: x4 :: x5 :: x6 :: x7 :: x8 :: y :: σ := (rfl)
theorem slot_10 {x0 x1 x2 x3 x4 x5 x6 x7 x8 x9 x10 : Option D} {σ : Env} : slot (x0 :: x1 :: x2 :: x3 :: x4 :: x5 :: x6 :: x7 :: x8 :: x9 :: x10 :: σ) 10 = x10 := (rfl)
theorem set_10 {α : Type} {x0 x1 x2 x3 x4 x5 x6 x7 x8 x9 x10 y : α} {σ : List α} : List.set (x0 :: x1 :: x2 :: x3 :: x4 :: x5 :: x6 :: x7 :: x8 :: x9 :: x10 :: σ) 10 y = x0 :: x1 :: x2 :: x3 :: x4 :: x5 :: x6 :: x7 :: x8 :: x9 :: y :: σ := (rfl)
theorem slot_11 {x0 x1 x2 x3 x4 x5 x6 x7 x8 x9 x10 x11 : Option D} {σ : Env} : slot (x0 :: x1 :: x2 :: x3 :: x4 :: x5 :: x6 :: x7 :: x8 :: x9 :: x10 :: x11 :: σ) 11 = x11 := (rfl)
theorem set_11 {α : Type} {x0 x1 x2 x3 x4 x5 x6 x7 x8 x9 x10 x11 y : α} {σ : List α} : List.set (x0 :: x1 :: x2 :: x3 :: x4 :: x5 :: x6 :: x7 :: x8 :: x9 :: x10 :: x11 :: σ) 11 y = x0 :: x1 :: x2 :: x3 :: x4 :: x5 :: x6 :: x7 :: x8 :: x9 :: x10 :: y :: σ := (rfl)
theorem slot_12 {x0 x1 x2 x3 x4 x5 x6 x7 x8 x9 x10 x11 x12 : Option D} {σ : Env} : slot (x0 :: x1 :: x2 :: x3 :: x4 :: x5 :: x6 :: x7 :: x8 :: x9 :: x10 :: x11 :: x12 :: σ) 12 = x12 := (rfl)
theorem set_12 {α : Type} {x0 x1 x2 x3 x4 x5 x6 x7 x8 x9 x10 x11 x12 y : α} {σ : List α} : List.set (x0 :: x1 :: x2 :: x3 :: x4 :: x5 :: x6 :: x7 :: x8 :: x9 :: x10 :: x11 :: x12 :: σ) 12 y = x0 :: x1 :: x2 :: x3 :: x4 :: x5 :: x6 :: x7 :: x8 :: x9 :: x10 :: x11 :: y :: σ := (rfl)
theorem slot_13 {x0 x1 x2 x3 x4 x5 x6 x7 x8 x9 x10 x11 x12 x13 : Option D} {σ : Env} : slot (x0 :: x1 :: x2 :: x3 :: x4 :: x5 :: x6 :: x7 :: x8 :: x9 :: x10 :: x11 :: x12 :: x13 :: σ) 13 = x13 := (rfl)
theorem set_13 {α : Type} {x0 x1 x2 x3 x4 x5 x6 x7 x8 x9 x10 x11 x12 x13 y : α} {σ : List α} : List.set (x0 :: x1 :: x2 :: x3 :: x4 :: x5 :: x6 :: x7 :: x8 :: x9 :: x10 :: x11 :: x12 :: x13 :: σ) 13 y = x0 :: x1 :: x2 :: x3 :: x4 :: x5 :: x6 :: x7 :: x8 :: x9 :: x10 :: x11 :: x12 :: y :: σ := (rfl)
theorem slot_14 {x0 x1 x2 x3 x4 x5 x6 x7 x8 x9 x10 x11 x12 x13 x14 : Option D} {σ : Env} : slot (x0 :: x1 :: x2 :: x3 :: x4 :: x5 :: x6 :: x7 :: x8 :: x9 :: x10 :: x11 :: x12 :: x13 :: x14 :: σ) 14 = x14 := (rfl)
theorem set_14 {α : Type} {x0 x1 x2 x3 x4 x5 x6 x7 x8 x9 x10 x11 x12 x13 x14 y : α} {σ : List α} : List.set (x0 :: x1 :: x2 :: x3 :: x4 :: x5 :: x6 :: x7 :: x8 :: x9 :: x10 :: x11 :: x12 :: x13 :: x14 :: σ) 14 y = x0 :: x1 :: x2 :: x3 :: x4 :: x5 :: x6 :: x7 :: x8 :: x9 :: x10 :: x11 :: x12 :: x13 :: y :: σ := (rfl)
theorem slot_15 {x0 x1 x2 x3 x4 x5 x6 x7 x8 x9 x10 x11 x12 x13 x14 x15 : Option D} {σ : Env} : slot (x0 :: x1 :: x2 :: x3 :: x4 :: x5 :: x6 :: x7 :: x8 :: x9 :: x10 :: x11 :: x12 :: x13 :: x14 :: x15 :: σ) 15 = x15 := (rfl)
theorem set_15 {α : Type} {x0 x1 x2 x3 x4 x5 x6 x7 x8 x9 x10 x11 x12 x13 x14 x15 y : α} {σ : List α} : List.set (x0 :: x1 :: x2 :: x3 :: x4 :: x5 :: x6 :: x7 :: x8 :: x9 :: x10 :: x11 :: x12 :: x13 :: x14 :: x15 :: σ) 15 y = x0 :: x1 :: x2 :: x3 :: x4 :: x5 :: x6 :: x7 :: x8 :: x9 :: x10 :: x11 :: x12 :: x13 :: x14 :: y :: σ := (rfl)
theorem slot_16 {x0 x1 x2 x3 x4 x5 x6 x7 x8 x9 x10 x11 x12 x13 x14 x15 x16 : Option D} {σ : Env} : slot (x0 :: x1 :: x2 :: x3 :: x4 :: x5 :: x6 :: x7 :: x8 :: x9 :: x10 :: x11 :: x12 :: x13 :: x14 :: x15 :: x16 :: σ) 16 = x16 := (rfl)
theorem set_16 {α : Type} {x0 x1 x2 x3 x4 x5 x6 x7 x8 x9 x10 x11 x12 x13 x14 x15 x16 y : α} {σ : List α} : List.set (x0 :: x1 :: x2 :: x3 :: x4 :: x5 :: x6 :: x7 :: x8 :: x9 :: x10 :: x11 :: x12 :: x13 :: x14 :: x15 :: x16 :: σ) 16 y = x0 :: x1 :: x2 :: x3 :: x4 :: x5 :: x6 :: x7 :: x8 :: x9 :: x10 :: x11 :: x12 :: x13 :: x14 :: x15 :: y :: σ := (rfl)
theorem slot_17 {x0 x1 x2 x3 x4 x5 x6 x7 x8 x9 x10 x11 x12 x13 x14 x15 x16 x17 : Option D} {σ : Env} : slot (x0 :: x1 :: x2 :: x3 :: x4 :: x5 :: x6 :: x7 :: x8 :: x9 :: x10 :: x11 :: x12 :: x13 :: x14 :: x15 :: x16 :: x17 :: σ) 17 = x17 := (rfl)
theorem set_17 {α : Type} {x0 x1 x2 x3 x4 x5 x6 x7 x8 x9 x10 x11 x12 x13 x14 x15 x16 x17 y : α} {σ : List α} : List.set (x0 :: x1 :: x2 :: x3 :: x4 :: x5 :: x6 :: x7 :: x8 :: x9 :: x10 :: x11 :: x12 :: x13 :: x14 :: x15 :: x16 :: x17 :: σ) 17 y = x0 :: x1 :: x2 :: x3 :: x4 :: x5 :: x6 :: x7 :: x8 :: x9 :: x10 :: x11 :: x12 :: x13 :: x14 :: x15 :: x16 :: y :: σ := (rfl)
theorem slot_18 {x0 x1 x2 x3 x4 x5 x6 x7 x8 x9 x10 x11 x12 x13 x14 x15 x16 x17 x18 : Option D} {σ : Env} : slot (x0 :: x1 :: x2 :: x3 :: x4 :: x5 :: x6 :: x7 :: x8 :: x9 :: x10 :: x11 :: x12 :: x13 :: x14 :: x15 :: x16 :: x17 :: x18 :: σ) 18 = x18 := (rfl)
theorem set_18 {α : Type} {x0 x1 x2 x3 x4 x5 x6 x7 x8 x9 x10 x11 x12 x13 x14 x15 x16 x17 x18 y : α} {σ : List α} : List.set (x0 :: x1 :: x2 :: x3 :: x4 :: x5 :: x6 :: x7 :: x8 :: x9 :: x10 :: x11 :: x12 :: x13 :: x14 :: x15 :: x16 :: x17 :: x18 :: σ) 18 y = x0 :: x1 :: x2 :: x3 :: x4 :: x5 :: x6 :: x7 :: x8 :: x9 :: x10 :: x11 :: x12 :: x13 :: x14 :: x15 :: x16 :: x17 :: y :: σ := (rfl)
theorem slot_19 {x0 x1 x2 x3 x4 x5 x6 x7 x8 x9 x10 x11 x12 x13 x14 x15 x16 x17 x18 x19 : Option D} {σ : Env} : slot (x0 :: x1 :: x2 :: x3 :: x4 :: x5 :: x6 :: x7 :: x8 :: x9 :: x10 :: x11 :: x12 :: x13 :: x14 :: x15 :: x16 :: x17 :: x18 :: x19 :: σ) 19 = x19 := (rfl)
theorem set_19 {α : Type} {x0 x1 x2 x3 x4 x5 x6 x7 x8 x9 x10 x11 x12 x13 x14 x15 x16 x17 x18 x19 y : α} {σ : List α} : List.set (x0 :: x1 :: x2 :: x3 :: x4 :: x5 :: x6 :: x7 :: x8 :: x9 :: x10 :: x11 :: x12 :: x13 :: x14 :: x15 :: x16 :: x17 :: x18 :: x19 :: σ) 19 y = x0 :: x1 :: x2 :: x3 :: x4 :: x5 :: x6 :: x7 :: x8 :: x9 :: x10 :: x11 :: x12 :: x13 :: x14 :: x15 :: x16 :: x17 :: x18 :: y :: σ := (rfl)
theorem nc0 : ((0 : Nat) : Int) = 0 := (rfl)
theorem nc1 : ((1 : Nat) : Int) = 1 := (rfl)
theorem nc2 : ((2 : Nat) : Int) = 2 := (rfl)
theorem nc3 : ((3 : Nat) : Int) = 3 := (rfl)
theorem nc4 : ((4 : Nat) : Int) = 4 := (rfl)
theorem nc5 : ((5 : Nat) : Int) = 5 := (rfl)
theorem nc6 : ((6 : Nat) : Int) = 6 := (rfl)
theorem nc7 : ((7 : Nat) : Int) = 7 := (rfl)
theorem nc8 : ((8 : Nat) : Int) = 8 := (rfl)
theorem nc9 : ((9 : Nat) : Int) = 9 := (rfl)
theorem nc10 : ((10 : Nat) : Int) = 10 := (rfl)
theorem nc11 : ((11 : Nat) : Int) = 11 := (rfl)
theorem nc12 : ((12 : Nat) : Int) = 12 := (rfl)
theorem nc13 : ((13 : Nat) : Int) = 13 := (rfl)
theorem nc14 : ((14 : Nat) : Int) = 14 := (rfl)
theorem nc15 : ((15 : Nat) : Int) = 15 := (rfl)
theorem nc16 : ((16 : Nat) : Int) = 16 := (rfl)
theorem atI_0 {x0 : D} {xs : List D} : L2.atI (x0 :: xs) 0 = some x0 := by rw [show (0 : Int) = ((0 : Nat) : Int) from rfl]; exact L2.atI_nat rfl
theorem atI_1 {x0 x1 : D} {xs : List D} : L2.atI (x0 :: x1 :: xs) 1 = some x1 := by rw [show (1 : Int) = ((1 : Nat) : Int) from rfl]; exact L2.atI_nat rfl
theorem atI_2 {x0 x1 x2 : D} {xs : List D} : L2.atI (x0 :: x1 :: x2 :: xs) 2 = some x2 := by rw [show (2 : Int) = ((2 : Nat) : Int) from rfl]; exact L2.atI_nat rfl
theorem atI_3 {x0 x1 x2 x3 : D} {xs : List D} : L2.atI (x0 :: x1 :: x2 :: x3 :: xs) 3 = some x3 := by rw [show (3 : Int) = ((3 : Nat) : Int) from rfl]; exact L2.atI_nat rfl
theorem atI_4 {x0 x1 x2 x3 x4 : D} {xs : List D} : L2.atI (x0 :: x1 :: x2 :: x3 :: x4 :: xs) 4 = some x4 := by rw [show (4 : Int) = ((4 : Nat) : Int) from rfl]; exact L2.atI_nat rfl
theorem atI_5 {x0 x1 x2 x3 x4 x5 : D} {xs : List D} : L2.atI (x0 :: x1 :: x2 :: x3 :: x4 :: x5 :: xs) 5 = some x5 := by rw [show (5 : Int) = ((5 : Nat) : Int) from rfl]; exact L2.atI_nat rfl
theorem atI_6 {x0 x1 x2 x3 x4 x5 x6 : D} {xs : List D} : L2.atI (x0 :: x1 :: x2 :: x3 :: x4 :: x5 :: x6 :: xs) 6 = some x6 := by rw [show (6 : Int) = ((6 : Nat) : Int) from rfl]; exact L2.atI_nat rfl
theorem atI_7 {x0 x1 x2 x3 x4 x5 x6 x7 : D} {xs : List D} : L2.atI (x0 :: x1 :: x2 :: x3 :: x4 :: x5 :: x6 :: x7 :: xs) 7 = some x7 := by rw [show (7 : Int) = ((7 : Nat) : Int) from rfl]; exact L2.atI_nat rfl
theorem atI_8 {x0 x1 x2 x3 x4 x5 x6 x7 x8 : D} {xs : List D} : L2.atI (x0 :: x1 :: x2 :: x3 :: x4 :: x5 :: x6 :: x7 :: x8 :: xs) 8 = some x8 := by rw [show (8 : Int) = ((8 : Nat) : Int) from rfl]; exact L2.atI_nat rfl
theorem atI_9 {x0 x1 x2 x3 x4 x5 x6 x7 x8 x9 : D} {xs : List D} : L2.atI (x0 :: x1 :: x2 :: x3 :: x4 :: x5 :: x6 :: x7 :: x8 :: x9 :: xs) 9 = some x9 := by rw [show (9 : Int) = ((9 : Nat) : Int) from rfl]; exact L2.atI_nat rfl
theorem atI_10 {x0 x1 x2 x3 x4 x5 x6 x7 x8 x9 x10 : D} {xs : List D} : L2.atI (x0 :: x1 :: x2 :: x3 :: x4 :: x5 :: x6 :: x7 :: x8 :: x9 :: x10 :: xs) 10 = some x10 := by rw [show (10 : Int) = ((10 : Nat) : Int) from rfl]; exact L2.atI_nat rfl
theorem atI_11 {x0 x1 x2 x3 x4 x5 x6 x7 x8 x9 x10 x11 : D} {xs : List D} : L2.atI (x0 :: x1 :: x2 :: x3 :: x4 :: x5 :: x6 :: x7 :: x8 :: x9 :: x10 :: x11 :: xs) 11 = some x11 := by rw [show (11 : Int) = ((11 : Nat) : Int) from rfl]; exact L2.atI_nat rfl
theorem atI_12 {x0 x1 x2 x3 x4 x5 x6 x7 x8 x9 x10 x11 x12 : D} {xs : List D} : L2.atI (x0 :: x1 :: x2 :: x3 :: x4 :: x5 :: x6 :: x7 :: x8 :: x9 :: x10 :: x11 :: x12 :: xs) 12 = some x12 := by rw [show (12 : Int) = ((12 : Nat) : Int) from rfl]; exact L2.atI_nat rfl
theorem ixN_0 {x0 : D} {xs : List D} : L2.ixN (List.length (x0 :: xs)) 0 = some 0 := by unfold L2.ixN; rw [if_pos (by decide), if_pos (by simp only [List.length_cons]; omega)]; rfl
theorem ixN_1 {x0 x1 : D} {xs : List D} : L2.ixN (List.length (x0 :: x1 :: xs)) 1 = some 1 := by unfold L2.ixN; rw [if_pos (by decide), if_pos (by simp only [List.length_cons]; omega)]; rfl
theorem ixN_2 {x0 x1 x2 : D} {xs : List D} : L2.ixN (List.length (x0 :: x1 :: x2 :: xs)) 2 = some 2 := by unfold L2.ixN; rw [if_pos (by decide), if_pos (by simp only [List.length_cons]; omega)]; rfl
theorem ixN_3 {x0 x1 x2 x3 : D} {xs : List D} : L2.ixN (List.length (x0 :: x1 :: x2 :: x3 :: xs)) 3 = some 3 := by unfold L2.ixN; rw [if_pos (by decide), if_pos (by simp only [List.length_cons]; omega)]; rfl
theorem ixN_4 {x0 x1 x2 x3 x4 : D} {xs : List D} : L2.ixN (List.length (x0 :: x1 :: x2 :: x3 :: x4 :: xs)) 4 = some 4 := by unfold L2.ixN; rw [if_pos (by decide), if_pos (by simp only [List.length_cons]; omega)]; rfl
theorem ixN_5 {x0 x1 x2 x3 x4 x5 : D} {xs : List D} : L2.ixN (List.length (x0 :: x1 :: x2 :: x3 :: x4 :: x5 :: xs)) 5 = some 5 := by unfold L2.ixN; rw [if_pos (by decide), if_pos (by simp only [List.length_cons]; omega)]; rfl
def kIxR (i : Int) (M : Hm) (Q : D → Hm → Prop) : Option MO → Prop
  | some (.lst xs) => wO (L2.atI xs i) M Q
  | some (.dic ks vs) => wO (dGet ks vs (.inl i)) M Q
  | _ => False
def kLenR (M : Hm) (Q : D → Hm → Prop) : Option MO → Prop
  | some (.lst xs) => Q (.int xs.length) M
  | some (.dic ks _) => Q (.int ks.length) M
  | _ => False
def kSub2 (n : Nat) (xs : List D) (d : D) (σ : Env) (Q : Env → Hm → Prop) : Nat → Hm → Prop := fun j M => Q σ (M.set n (.lst (xs.set j d)))
def kSubR (k : Int) (d : D) (σ : Env) (M : Hm) (n : Nat) (Q : Env → Hm → Prop) : Option MO → Prop
  | some (.lst xs) => wO (L2.ixN xs.length k) M (kSub2 n xs d σ Q)
  | some (.dic ks vs) => ks.length < 16777216 ∧ Q σ (M.set n (.dic (kput (.inl k) d ks vs).1 (kput (.inl k) d ks vs).2))
  | _ => False
def kTupR (M : Hm) (Q : D → Hm → Prop) : Option MO → Prop
  | some (.lst xs) => Q (.tup xs) M
  | _ => False
def kAppR (n : Nat) (y : D) (M : Hm) (Q : D → Hm → Prop) : Option MO → Prop
  | some (.lst xs) => xs.length + 1 ≤ 16777216 ∧ Q .non (M.set n (.lst (xs ++ [y])))
  | _ => False
def kPop2 (n : Nat) (xs : List D) (Q : D → Hm → Prop) : D → Hm → Prop := fun y M => Q y (M.set n (.lst xs.dropLast))
def kPopR (n : Nat) (M : Hm) (Q : D → Hm → Prop) : Option MO → Prop
  | some (.lst xs) => wO xs.getLast? M (kPop2 n xs Q)
  | _ => False
def kAugL (i : Nat) (n : Nat) (ys : List D) (σ : Env) (M : Hm) (N : Env → Hm → Prop) : Option MO → Prop
  | some (.lst xs) => xs.length + ys.length ≤ 16777216 ∧ N σ (M.set n (.lst (xs ++ ys)))
  | _ => False
def isLstO : Option MO → Bool
  | some (.lst _) => true
  | _ => false
section
variable {P : Prg} {R : Rt} {κ : List (Nat × CloD)} {σ : Env} {M : Hm} {E : Nat → D → Hm → Prop} {Q : D → Hm → Prop} {p : Po} {h : Bool} {n : Nat} {xs : List D}
theorem x_refR {i : Int} : wO (opIx (.ref n) (.int i) M) M Q = kIxR i M Q M[n]? := by
  unfold opIx items? str? dict?
  cases hn : M[n]? with
  | none => simp only [hn]; rfl
  | some o => cases o <;> (simp only [hn]; rfl)
theorem kIxR_l {i : Int} : kIxR i M Q (some (.lst xs)) = wO (L2.atI xs i) M Q := propext Iff.rfl
theorem l_refR : wp (biLen M (.ref n)) Q E = kLenR M Q M[n]? := by
  unfold biLen str? items? dict?
  cases hn : M[n]? with
  | none => simp only [hn]; rfl
  | some o => cases o <;> (simp only [hn]; rfl)
theorem kLenR_l : kLenR M Q (some (.lst xs)) = Q (.int xs.length) M := propext Iff.rfl
theorem g_subR {k : Int} {d : D} {Q : Env → Hm → Prop} : wp (setSub (.ref n) (.int k) d σ M) Q nE = kSubR k d σ M n Q M[n]? := by
  unfold setSub
  cases hn : M[n]? with
  | none => simp only [hn]; rfl
  | some o => cases o with
    | lst xs =>
      simp only [hn]
      show wp (match L2.ixN xs.length k with | some j => _ | none => .bad) Q nE = wO _ _ _
      cases L2.ixN xs.length k <;> rfl
    | dic ks vs =>
      simp only [hn]
      show wp (if decide (ks.length < 16777216) = true then _ else _) Q nE = _
      by_cases hc : decide (ks.length < 16777216) = true
      · rw [if_pos hc]; exact propext ⟨fun z => ⟨of_decide_eq_true hc, z⟩, fun z => z.2⟩
      · rw [if_neg hc]; exact propext ⟨fun z => z.elim, fun z => hc (decide_eq_true z.1)⟩
    | ins C fs => simp only [hn]; rfl
theorem kSubR_l {k : Int} {d : D} {Q : Env → Hm → Prop} : kSubR k d σ M n Q (some (.lst xs)) = wO (L2.ixN xs.length k) M (kSub2 n xs d σ Q) := propext Iff.rfl
theorem kSub2_e {d : D} {Q : Env → Hm → Prop} {j : Nat} : kSub2 n xs d σ Q j M = Q σ (M.set n (.lst (xs.set j d))) := propext Iff.rfl
theorem b_tupR : wp (biSem .tuple h [.ref n] M) Q E = kTupR M Q M[n]? := by
  show wp (biTuple M (.ref n)) Q E = _
  unfold biTuple items?
  cases hn : M[n]? with
  | none => simp only [hn]; rfl
  | some o => cases o <;> (simp only [hn]; rfl)
theorem kTupR_l : kTupR M Q (some (.lst xs)) = Q (.tup xs) M := propext Iff.rfl
theorem m_appR {y : D} : wp (bmSem .append (.ref n) [y] M) Q E = kAppR n y M Q M[n]? := by
  cases hn : M[n]? with
  | none =>
    show wp (bmAppend M (.ref n) y) Q E = _
    unfold bmAppend obj?
    simp only [hn]
    rfl
  | some o => cases o with
    | lst xs => exact m_append hn
    | dic ks vs =>
      show wp (bmAppend M (.ref n) y) Q E = _
      unfold bmAppend obj?
      simp only [hn]
      rfl
    | ins C fs =>
      show wp (bmAppend M (.ref n) y) Q E = _
      unfold bmAppend obj?
      simp only [hn]
      rfl
theorem kAppR_l {y : D} : kAppR n y M Q (some (.lst xs)) = (xs.length + 1 ≤ 16777216 ∧ Q .non (M.set n (.lst (xs ++ [y])))) := propext Iff.rfl
theorem m_okR : bmOk .append (.ref n) M = isLstO M[n]? := by
  show (obj? M (.ref n)).isSome = _
  unfold obj?
  cases hn : M[n]? with
  | none => simp only [hn]; rfl
  | some o => cases o <;> (simp only [hn]; rfl)
theorem m_okP : bmOk .pop (.ref n) M = isLstO M[n]? := by
  show (obj? M (.ref n)).isSome = _
  unfold obj?
  cases hn : M[n]? with
  | none => simp only [hn]; rfl
  | some o => cases o <;> (simp only [hn]; rfl)
theorem m_popR : wp (bmSem .pop (.ref n) [] M) Q E = kPopR n M Q M[n]? := by
  show wp (bmPop M (.ref n)) Q E = _
  unfold bmPop obj?
  cases hn : M[n]? with
  | none => simp only [hn]; rfl
  | some o => cases o with
    | lst xs =>
      simp only [hn]
      show _ = wO xs.getLast? M (kPop2 n xs Q)
      cases xs.getLast? <;> rfl
    | _ => simp only [hn]; rfl
theorem kPopR_l : kPopR n M Q (some (.lst xs)) = wO xs.getLast? M (kPop2 n xs Q) := propext Iff.rfl
theorem kPop2_e {y : D} : kPop2 n xs Q y M = Q y (M.set n (.lst xs.dropLast)) := propext Iff.rfl
theorem augL_R {i : Nat} {ys : List D} {N : Env → Hm → Prop} {R : D → Hm → Prop} {B C : Env → Hm → Prop} {E : Nat → D → Env → Hm → Prop} : wps (augS .add i (.ref n) (.lst ys) σ M) N R B C E = kAugL i n ys σ M N M[n]? := by
  unfold augS augI
  cases hn : M[n]? with
  | none => simp only [obj?, hn]; rfl
  | some o => cases o with
    | lst xs =>
      rw [obj_at hn]
      show wps (if szOk (xs.length + ys.length) = true then SR.nxt σ _ else .bad) N R B C E = (_ ∧ _)
      by_cases hc : szOk (xs.length + ys.length) = true
      · rw [if_pos hc]; exact propext ⟨fun z => ⟨of_decide_eq_true hc, z⟩, fun z => z.2⟩
      · rw [if_neg hc]; exact propext ⟨fun z => z.elim, fun z => hc (decide_eq_true z.1)⟩
    | _ => simp only [obj?, hn]; rfl
theorem kAugL_l {i : Nat} {ys : List D} {N : Env → Hm → Prop} : kAugL i n ys σ M N (some (.lst xs)) = (xs.length + ys.length ≤ 16777216 ∧ N σ (M.set n (.lst (xs ++ ys)))) := propext Iff.rfl
theorem isLstO_l : isLstO (some (.lst xs)) = true := (rfl)
theorem m_set_set {o o' : MO} : (M.set n o).set n o' = M.set n o' := List.set_set _
end
section
variable {P : Prg} {R : Rt} {κ : List (Nat × CloD)} {σ : Env} {M : Hm} {E : Nat → D → Hm → Prop} {Q : D → Hm → Prop} {p : Po} {h : Bool} {n : Nat} {xs : List D}
theorem cut_to1 : cutD xs none (some 1) = xs.take 1 := cut_to (k := 1)
theorem cut_from1 : cutD xs (some 1) none = xs.drop 1 := cut_from (k := 1)
theorem cut_from2 : cutD xs (some 2) none = xs.drop 2 := cut_from (k := 2)
theorem cut_from3 : cutD xs (some 3) none = xs.drop 3 := cut_from (k := 3)
theorem cut_12 {x y : D} : cutD (x :: y :: xs) (some 1) (some 2) = [y] := by
  unfold cutD
  rw [show (some (1 : Int)) = some (((1 : Nat) : Int)) from rfl, show (some (2 : Int)) = some (((2 : Nat) : Int)) from rfl, HT.sIx_nat, HT.sIx_nat]
  have h1 : min 1 (x :: y :: xs).length = 1 := by simp only [List.length_cons]; omega
  have h2 : min 2 (x :: y :: xs).length = 2 := by simp only [List.length_cons]; omega
  rw [h1, h2]
  rfl
theorem cut_last : cutD xs none (some (-1)) = xs.dropLast := by
  unfold cutD
  rw [HT.sIx_none, List.drop_zero, Nat.sub_zero]
  have e : HT.sIx xs.length xs.length (some (-1)) = xs.length - 1 := by
    show (if (-1 : Int) < 0 then ((-1 : Int) + (xs.length : Int)).toNat else min (-1 : Int).toNat xs.length) = _
    rw [if_pos (by decide)]
    omega
  rw [e, List.dropLast_eq_take]
theorem ldrop_1 {x : D} : List.drop 1 (x :: xs) = xs := (rfl)
theorem ldrop_2 {x y : D} : List.drop 2 (x :: y :: xs) = xs := (rfl)
theorem ldrop_3 {x y z : D} : List.drop 3 (x :: y :: z :: xs) = xs := (rfl)
theorem ints_nil : ints? [] = some [] := (rfl)
theorem ints_cons {i : Int} : ints? (.int i :: xs) = (ints? xs).map (i :: ·) := (rfl)
theorem bls_nil : bls? [] = some [] := (rfl)
theorem bls_cons {i : Bool} : bls? (.bl i :: xs) = (bls? xs).map (i :: ·) := (rfl)
theorem omap {α β : Type} {f : α → β} {a : α} : (some a).map f = some (f a) := (rfl)
theorem eq_of_wp {α : Type} {r : Res α} {d : α} (h : wp r (fun a M' => a = d ∧ M' = M) nE) : r = .ok d M := by
  cases r with
  | ok a M' => obtain ⟨rfl, rfl⟩ := h; rfl
  | exc c v M' => exact False.elim h
  | bad => exact False.elim h
theorem exc_of_wp {α : Type} {r : Res α} {c : Nat} {v : D} (h : wp r (fun _ _ => False) (fun c' v' M' => c' = c ∧ v' = v ∧ M' = M)) : r = .exc c v M := by
  cases r with
  | ok a M' => exact False.elim h
  | exc c v M' => obtain ⟨rfl, rfl, rfl⟩ := h; rfl
  | bad => exact False.elim h
theorem wLc_run {elt : ME} {tg : MT} {ifs : MQs} {own : List Nat} {f : D → Option D} : ∀ {ds : List D} {Q : List D → Hm → Prop}, (∀ d ∈ ds, ∀ Q : List D → Hm → Prop, Q (f d).toList M → wLc P R κ elt tg ifs own σ [d] M Q nE) → Q (compS f ds) M → wLc P R κ elt tg ifs own σ ds M Q E
  | [], Q, _, hq => hq
  | d :: ds, Q, hf, hq => by
    have h1 := eq_of_wp (hf d List.mem_cons_self (fun a M' => a = (f d).toList ∧ M' = M) ⟨rfl, rfl⟩)
    have h2 : lcTurn P R κ elt tg ifs own σ d M = .ok (f d) M := by
      have h1 : (lcTurn P R κ elt tg ifs own σ d M).bind (fun o M => (Res.ok ([] : List D) M).bind fun r M => .ok (o.toList ++ r) M) = .ok (f d).toList M := h1
      cases hc : lcTurn P R κ elt tg ifs own σ d M with
      | ok o M' =>
        rw [hc] at h1
        have h1 : Res.ok (o.toList ++ []) M' = .ok (f d).toList M := h1
        injection h1 with h1 h3
        rw [List.append_nil] at h1
        subst h3
        congr 1
        cases o <;> cases hfd : f d <;> rw [hfd] at h1 <;> first | rfl | (simp at h1) 
        rw [h1]
      | exc c v M' => rw [hc] at h1; cases h1
      | bad => rw [hc] at h1; cases h1
    show wp ((lcTurn P R κ elt tg ifs own σ d M).bind fun o M => (compL (lcTurn P R κ elt tg ifs own σ) ds M).bind fun r M => .ok (o.toList ++ r) M) Q E
    rw [h2, Res.bind_ok, wp_bind]
    exact wLc_run (Q := fun r M => wp (Res.ok ((f d).toList ++ r) M) Q E) (fun d hd => hf d (List.mem_cons_of_mem _ hd)) hq
theorem wLc_map {α : Type} {elt : ME} {tg : MT} {ifs : MQs} {own : List Nat} {g v : α → D} : ∀ {l : List α} {Q : List D → Hm → Prop}, (∀ a ∈ l, ∀ Q : List D → Hm → Prop, Q [v a] M → wLc P R κ elt tg ifs own σ [g a] M Q nE) → Q (l.map v) M → wLc P R κ elt tg ifs own σ (l.map g) M Q E
  | [], Q, _, hq => hq
  | a :: l, Q, hf, hq => by
    have h1 := eq_of_wp (hf a List.mem_cons_self (fun r M' => r = [v a] ∧ M' = M) ⟨rfl, rfl⟩)
    have h2 : lcTurn P R κ elt tg ifs own σ (g a) M = .ok (some (v a)) M := by
      have h1 : (lcTurn P R κ elt tg ifs own σ (g a) M).bind (fun o M => (Res.ok ([] : List D) M).bind fun r M => .ok (o.toList ++ r) M) = .ok [v a] M := h1
      cases hc : lcTurn P R κ elt tg ifs own σ (g a) M with
      | ok o M' =>
        rw [hc] at h1
        have h1 : Res.ok (o.toList ++ []) M' = .ok [v a] M := h1
        injection h1 with h5 h6
        rw [List.append_nil] at h5
        subst h6
        cases o with
        | none => cases h5
        | some z =>
          have h4 : [z] = [v a] := h5
          rw [(List.cons.inj h4).1]
      | exc c v M' => rw [hc] at h1; cases h1
      | bad => rw [hc] at h1; cases h1
    show wp ((lcTurn P R κ elt tg ifs own σ (g a) M).bind fun o M => (compL (lcTurn P R κ elt tg ifs own σ) (l.map g) M).bind fun r M => .ok (o.toList ++ r) M) Q E
    rw [h2, Res.bind_ok, wp_bind]
    exact wLc_map (Q := fun r M => wp (Res.ok (v a :: r) M) Q E) (fun a ha => hf a (List.mem_cons_of_mem _ ha)) hq
theorem compS_map {α : Type} {f : D → Option D} {g : α → D} {k : α → D} (h : ∀ a, f (g a) = some (k a)) : ∀ l : List α, compS f (l.map g) = l.map k
  | [] => rfl
  | a :: l => by
    show (f (g a)).toList ++ compS f (l.map g) = _
    rw [h, compS_map h l]
    rfl
theorem ints_map {α : Type} {f : α → Int} : ∀ l : List α, ints? (l.map fun a => D.int (f a)) = some (l.map f)
  | [] => rfl
  | a :: l => by show (ints? (l.map fun a => D.int (f a))).map _ = _; rw [ints_map l]; rfl
theorem bls_map {α : Type} {f : α → Bool} : ∀ l : List α, bls? (l.map fun a => D.bl (f a)) = some (l.map f)
  | [] => rfl
  | a :: l => by show (bls? (l.map fun a => D.bl (f a))).map _ = _; rw [bls_map l]; rfl
end
section
variable {P : Prg} {R : Rt} {κ : List (Nat × CloD)} {σ : Env} {M : Hm} {E : Nat → D → Hm → Prop} {Q : D → Hm → Prop} {p : Po}
theorem kB1_t {b : Bool} {es : MEs} : kB1 P R κ true es σ Q E (.bl b) M = if b = true then wB P R κ true es σ M Q E else Q (.bl false) M := by cases b <;> rfl
theorem kB1_f {b : Bool} {es : MEs} : kB1 P R κ false es σ Q E (.bl b) M = if b = true then Q (.bl true) M else wB P R κ false es σ M Q E := by cases b <;> rfl
theorem kTB1_t {b : Bool} {ts : MQs} {Q : Bool → Hm → Prop} : kTB1 P R κ true ts σ Q E b M = if b = true then wTB P R κ true ts σ M Q E else Q false M := by cases b <;> rfl
theorem kTB1_f {b : Bool} {ts : MQs} {Q : Bool → Hm → Prop} : kTB1 P R κ false ts σ Q E b M = if b = true then Q true M else wTB P R κ false ts σ M Q E := by cases b <;> rfl
theorem kVal_bl {b : Bool} {Q : Bool → Hm → Prop} : kVal Q (.bl b) M = Q b M := propext Iff.rfl
theorem kNotV_bl {b : Bool} : kNotV Q (.bl b) M = Q (.bl !b) M := propext Iff.rfl
theorem kPi_int {i : Int} {Q : Option Int → Hm → Prop} : kPi Q (.int i) M = Q (some i) M := propext Iff.rfl
theorem kIr_int {i : Int} {Q : Src → Hm → Prop} : kIr Q (.int i) M = ((-4611686018427387904 ≤ i ∧ i < 4611686018427387904) ∧ Q (.items (rngD 0 i.toNat)) M) := by
  show (rngOk i = true ∧ _) = _
  rw [rngOk_iff]
theorem kAug_some {o : BOp} {i : Nat} {e : ME} {x : D} : kAug P R κ o i e σ M p (some x) = if free κ i = true then wEx P R κ e σ M (kAug2 o i x σ p) (pE p σ) else False := propext Iff.rfl
theorem kCv_some {i : Nat} {es : MEs} {c : CloD} : kCv P R κ i es σ M Q E (some c) = wEs P R κ es σ M (kClo R c Q E) E := propext Iff.rfl
theorem augS_ints {o : BOp} {i : Nat} {a b : Int} {z : D} (h : augI o (.int a) (.int b) = some z) {N : Env → Hm → Prop} {R : D → Hm → Prop} {B C : Env → Hm → Prop} {E : Nat → D → Env → Hm → Prop} : wps (augS o i (.int a) (.int b) σ M) N R B C E = N (σ.set i (some z)) M := by
  unfold augS
  rw [h]
  rfl
theorem augS_add {i : Nat} {a b : Int} {N : Env → Hm → Prop} {R : D → Hm → Prop} {B C : Env → Hm → Prop} {E : Nat → D → Env → Hm → Prop} : wps (augS .add i (.int a) (.int b) σ M) N R B C E = N (σ.set i (some (.int (a + b)))) M := (rfl)
theorem augS_sub {i : Nat} {a b : Int} {N : Env → Hm → Prop} {R : D → Hm → Prop} {B C : Env → Hm → Prop} {E : Nat → D → Env → Hm → Prop} : wps (augS .sub i (.int a) (.int b) σ M) N R B C E = N (σ.set i (some (.int (a - b)))) M := (rfl)
theorem augS_lst {i n : Nat} {xs ys : List D} (hn : M[n]? = some (.lst xs)) {N : Env → Hm → Prop} {R : D → Hm → Prop} {B C : Env → Hm → Prop} {E : Nat → D → Env → Hm → Prop} : wps (augS .add i (.ref n) (.lst ys) σ M) N R B C E = (xs.length + ys.length ≤ 16777216 ∧ N σ (M.set n (.lst (xs ++ ys)))) := by
  unfold augS augI
  rw [obj_at hn]
  show wps (if szOk (xs.length + ys.length) = true then SR.nxt σ _ else .bad) N R B C E = _
  by_cases hc : szOk (xs.length + ys.length) = true
  · rw [if_pos hc]; exact propext ⟨fun z => ⟨of_decide_eq_true hc, z⟩, fun z => z.2⟩
  · rw [if_neg hc]; exact propext ⟨fun z => z.elim, fun z => hc (decide_eq_true z.1)⟩
theorem po_seqN {ss : MSs} : (poSeq P R κ ss p).N σ M = wXs P R κ ss σ M p := propext Iff.rfl
theorem po_seqR {ss : MSs} : (poSeq P R κ ss p).R = p.R := (rfl)
theorem po_seqB {ss : MSs} : (poSeq P R κ ss p).B = p.B := (rfl)
theorem po_seqC {ss : MSs} : (poSeq P R κ ss p).C = p.C := (rfl)
theorem po_seqE {ss : MSs} : (poSeq P R κ ss p).E = p.E := (rfl)
theorem po_topN : (poTop Q E).N σ M = Q .non M := propext Iff.rfl
theorem po_topR : (poTop Q E).R = Q := (rfl)
theorem po_topE {c : Nat} {v : D} : (poTop Q E).E c v σ M = E c v M := propext Iff.rfl
theorem po_forN {t : MT} {b : MSs} {ds : List D} : (poFor P R κ t b ds p).N σ M = wFor P R κ t b ds σ M p := propext Iff.rfl
theorem po_forR {t : MT} {b : MSs} {ds : List D} : (poFor P R κ t b ds p).R = p.R := (rfl)
theorem po_forB {t : MT} {b : MSs} {ds : List D} : (poFor P R κ t b ds p).B = p.N := (rfl)
theorem po_forC {t : MT} {b : MSs} {ds : List D} : (poFor P R κ t b ds p).C σ M = wFor P R κ t b ds σ M p := propext Iff.rfl
theorem po_forE {t : MT} {b : MSs} {ds : List D} : (poFor P R κ t b ds p).E = p.E := (rfl)
theorem po_trN {hs : MHs} : (poTr P hs p).N = p.N := (rfl)
theorem po_trR {hs : MHs} : (poTr P hs p).R = p.R := (rfl)
theorem po_trB {hs : MHs} : (poTr P hs p).B = p.B := (rfl)
theorem po_trC {hs : MHs} : (poTr P hs p).C = p.C := (rfl)
theorem po_trE {hs : MHs} {c : Nat} {v : D} : (poTr P hs p).E c v σ M = wps (caught P c v σ M hs) p.N p.R p.B p.C p.E := propext Iff.rfl
theorem setAll_nil : setAll [] [] σ = some σ := (rfl)
theorem setAll_cons {i : Nat} {is : List Nat} {d : D} {ds : List D} : setAll (i :: is) (d :: ds) σ = setAll is ds (σ.set i (some d)) := (rfl)
theorem wipe_nil : wipeE σ [] = σ := (rfl)
theorem wipe_cons {i : Nat} {is : List Nat} : wipeE σ (i :: is) = (wipeE σ is).set i none := (rfl)
theorem bnot_t : (!true) = false := (rfl)
theorem bnot_f : (!false) = true := (rfl)
theorem tf_eq : (true = false) = False := by simp
theorem ft_eq : (false = true) = False := by simp
theorem tt_eq : (true = true) = True := by simp
theorem ff_eq : (false = false) = True := by simp
end
theorem e_pE (p : Po) (σ : Env) {c : Nat} {v : D} {M : Hm} : pE  p σ c v M = (p.E c v σ M) := propext Iff.rfl
theorem e_kTup (Q : D → Hm → Prop) {ds : List D} {M : Hm} : kTup  Q ds M = (Q (.tup ds) M) := propext Iff.rfl
theorem e_kLst (h : Bool) (Q : D → Hm → Prop) {ds : List D} {M : Hm} : kLst  h Q ds M = (if h = true then Q (.ref M.length) (M ++ [.lst ds]) else Q (.lst ds) M) := propext Iff.rfl
theorem e_kDsp (h : Bool) (Q : D → Hm → Prop) {ps : List (L2.Key × D)} {M : Hm} : kDsp  h Q ps M = (if h = true then Q (.ref M.length) (M ++ [.dic (putAll ps ([], [])).1 (putAll ps ([], [])).2]) else Q (.dic (putAll ps ([], [])).1 (putAll ps ([], [])).2) M) := propext Iff.rfl
theorem e_kBin2 (o : BOp) (h : Bool) (x : D) (Q : D → Hm → Prop) (E : Nat → D → Hm → Prop) {y : D} {M : Hm} : kBin2  o h x Q E y M = (wp (opBin o h x y M) Q E) := propext Iff.rfl
theorem e_kBin1 {P : Prg} {R : Rt} {κ : List (Nat × CloD)} (o : BOp) (h : Bool) (b : ME) (σ : Env) (Q : D → Hm → Prop) (E : Nat → D → Hm → Prop) {x : D} {M : Hm} : kBin1 P R κ o h b σ Q E x M = (wEx P R κ b σ M (kBin2 o h x Q E) E) := propext Iff.rfl
theorem e_kUn (o : UOp) (Q : D → Hm → Prop) (E : Nat → D → Hm → Prop) {x : D} {M : Hm} : kUn  o Q E x M = (wp (opUn o x M) Q E) := propext Iff.rfl
theorem e_kBl (Q : D → Hm → Prop) {b : Bool} {M : Hm} : kBl  Q b M = (Q (.bl b) M) := propext Iff.rfl
theorem e_kCmp2 (o : COp) (x : D) (Q : Bool → Hm → Prop) {y : D} {M : Hm} : kCmp2  o x Q y M = (wO (opCmp o x y M) M Q) := propext Iff.rfl
theorem e_kCmp1 {P : Prg} {R : Rt} {κ : List (Nat × CloD)} (o : COp) (b : ME) (σ : Env) (Q : Bool → Hm → Prop) (E : Nat → D → Hm → Prop) {x : D} {M : Hm} : kCmp1 P R κ o b σ Q E x M = (wEx P R κ b σ M (kCmp2 o x Q) E) := propext Iff.rfl
theorem e_kChn4 (p : COp) (y : D) (Q : Bool → Hm → Prop) {z : D} {M : Hm} : kChn4  p y Q z M = (wO (opCmp p y z M) M Q) := propext Iff.rfl
theorem e_kChn3 {P : Prg} {R : Rt} {κ : List (Nat × CloD)} (p : COp) (c : ME) (y : D) (σ : Env) (Q : Bool → Hm → Prop) (E : Nat → D → Hm → Prop) {k : Bool} {M : Hm} : kChn3 P R κ p c y σ Q E k M = (if k = true then wEx P R κ c σ M (kChn4 p y Q) E else Q false M) := propext Iff.rfl
theorem e_kChn2 {P : Prg} {R : Rt} {κ : List (Nat × CloD)} (o p : COp) (c : ME) (x : D) (σ : Env) (Q : Bool → Hm → Prop) (E : Nat → D → Hm → Prop) {y : D} {M : Hm} : kChn2 P R κ o p c x σ Q E y M = (wO (opCmp o x y M) M (kChn3 P R κ p c y σ Q E)) := propext Iff.rfl
theorem e_kChn1 {P : Prg} {R : Rt} {κ : List (Nat × CloD)} (o p : COp) (b c : ME) (σ : Env) (Q : Bool → Hm → Prop) (E : Nat → D → Hm → Prop) {x : D} {M : Hm} : kChn1 P R κ o p b c σ Q E x M = (wEx P R κ b σ M (kChn2 P R κ o p c x σ Q E) E) := propext Iff.rfl
theorem e_kNot (Q : Bool → Hm → Prop) {b : Bool} {M : Hm} : kNot  Q b M = (Q (!b) M) := propext Iff.rfl
theorem e_kIfe {P : Prg} {R : Rt} {κ : List (Nat × CloD)} (a b : ME) (σ : Env) (Q : D → Hm → Prop) (E : Nat → D → Hm → Prop) {k : Bool} {M : Hm} : kIfe P R κ a b σ Q E k M = (if k = true then wEx P R κ a σ M Q E else wEx P R κ b σ M Q E) := propext Iff.rfl
theorem e_kIfT {P : Prg} {R : Rt} {κ : List (Nat × CloD)} (a b : MQ) (σ : Env) (Q : Bool → Hm → Prop) (E : Nat → D → Hm → Prop) {k : Bool} {M : Hm} : kIfT P R κ a b σ Q E k M = (if k = true then wT P R κ a σ M Q E else wT P R κ b σ M Q E) := propext Iff.rfl
theorem e_kIx2 (x : D) (Q : D → Hm → Prop) {y : D} {M : Hm} : kIx2  x Q y M = (wO (opIx x y M) M Q) := propext Iff.rfl
theorem e_kIx1 {P : Prg} {R : Rt} {κ : List (Nat × CloD)} (b : ME) (σ : Env) (Q : D → Hm → Prop) (E : Nat → D → Hm → Prop) {x : D} {M : Hm} : kIx1 P R κ b σ Q E x M = (wEx P R κ b σ M (kIx2 x Q) E) := propext Iff.rfl
theorem e_kSl3 (h : Bool) (x : D) (l : Option Int) (Q : D → Hm → Prop) (E : Nat → D → Hm → Prop) {u : Option Int} {M : Hm} : kSl3  h x l Q E u M = (wp (opSl h x l u M) Q E) := propext Iff.rfl
theorem e_kSl2 {P : Prg} {R : Rt} {κ : List (Nat × CloD)} (h : Bool) (x : D) (hi : MP) (σ : Env) (Q : D → Hm → Prop) (E : Nat → D → Hm → Prop) {l : Option Int} {M : Hm} : kSl2 P R κ h x hi σ Q E l M = (wP P R κ hi σ M (kSl3 h x l Q E) E) := propext Iff.rfl
theorem e_kSl1 {P : Prg} {R : Rt} {κ : List (Nat × CloD)} (h : Bool) (lo hi : MP) (σ : Env) (Q : D → Hm → Prop) (E : Nat → D → Hm → Prop) {x : D} {M : Hm} : kSl1 P R κ h lo hi σ Q E x M = (wP P R κ lo σ M (kSl2 P R κ h x hi σ Q E) E) := propext Iff.rfl
theorem e_kCall {R : Rt} (g : Nat) (Q : D → Hm → Prop) (E : Nat → D → Hm → Prop) {a : List (Option D) × List (Nat × CloD)} {M : Hm} : kCall R g Q E a M = (wp (R.call g a.1 a.2 M) Q E) := propext Iff.rfl
theorem e_kA2 (d : D) (Q : List (Option D) × List (Nat × CloD) → Hm → Prop) {a : List (Option D) × List (Nat × CloD)} {M : Hm} : kA2  d Q a M = (Q (some d :: a.1, a.2) M) := propext Iff.rfl
theorem e_kA1 {P : Prg} {R : Rt} {κ : List (Nat × CloD)} (es : MEs) (j : Nat) (σ : Env) (Q : List (Option D) × List (Nat × CloD) → Hm → Prop) (E : Nat → D → Hm → Prop) {d : D} {M : Hm} : kA1 P R κ es j σ Q E d M = (wA P R κ es (j + 1) σ M (kA2 d Q) E) := propext Iff.rfl
theorem e_kAl (j : Nat) (c : CloD) (Q : List (Option D) × List (Nat × CloD) → Hm → Prop) {a : List (Option D) × List (Nat × CloD)} {M : Hm} : kAl  j c Q a M = (Q (none :: a.1, (j, c) :: a.2) M) := propext Iff.rfl
theorem e_kAL {P : Prg} {R : Rt} {κ : List (Nat × CloD)} (nps : Nat) (N : List Str) (body : ME) (es : MEs) (j : Nat) (σ : Env) (Q : List (Option D) × List (Nat × CloD) → Hm → Prop) (E : Nat → D → Hm → Prop) {ws : List D} {M : Hm} : kAL P R κ nps N body es j σ Q E ws M = (wA P R κ es (j + 1) σ M (kAl j ⟨nps, ws.map some, N.length, body⟩ Q) E) := propext Iff.rfl
theorem e_kEs2 (d : D) (Q : List D → Hm → Prop) {ds : List D} {M : Hm} : kEs2  d Q ds M = (Q (d :: ds) M) := propext Iff.rfl
theorem e_kEs1 {P : Prg} {R : Rt} {κ : List (Nat × CloD)} (es : MEs) (σ : Env) (Q : List D → Hm → Prop) (E : Nat → D → Hm → Prop) {d : D} {M : Hm} : kEs1 P R κ es σ Q E d M = (wEs P R κ es σ M (kEs2 d Q) E) := propext Iff.rfl
theorem e_kClo {R : Rt} (c : CloD) (Q : D → Hm → Prop) (E : Nat → D → Hm → Prop) {ds : List D} {M : Hm} : kClo R c Q E ds M = (wp (R.clo c ds M) Q E) := propext Iff.rfl
theorem e_kMake {R : Rt} (C : Nat) (Q : D → Hm → Prop) (E : Nat → D → Hm → Prop) {ds : List D} {M : Hm} : kMake R C Q E ds M = (wp (R.make C ds M) Q E) := propext Iff.rfl
theorem e_kFld {P : Prg} (f : Str) (Q : D → Hm → Prop) {x : D} {M : Hm} : kFld P f Q x M = (wO (getFld P f x M) M Q) := propext Iff.rfl
theorem e_kBi (b : Bi) (h : Bool) (Q : D → Hm → Prop) (E : Nat → D → Hm → Prop) {ds : List D} {M : Hm} : kBi  b h Q E ds M = (wp (biSem b h ds M) Q E) := propext Iff.rfl
theorem e_kBm2 (b : Bm) (x : D) (Q : D → Hm → Prop) (E : Nat → D → Hm → Prop) {ds : List D} {M : Hm} : kBm2  b x Q E ds M = (wp (bmSem b x ds M) Q E) := propext Iff.rfl
theorem e_kBm1 {P : Prg} {R : Rt} {κ : List (Nat × CloD)} (b : Bm) (es : MEs) (σ : Env) (Q : D → Hm → Prop) (E : Nat → D → Hm → Prop) {x : D} {M : Hm} : kBm1 P R κ b es σ Q E x M = (if bmOk b x M = true then wEs P R κ es σ M (kBm2 b x Q E) E else False) := propext Iff.rfl
theorem e_kIsi (ts : List Ty) (Q : D → Hm → Prop) {x : D} {M : Hm} : kIsi  ts Q x M = (wO (isAny M x ts) M (kBl Q)) := propext Iff.rfl
theorem e_kLc4 (o : Option D) (Q : List D → Hm → Prop) {r : List D} {M : Hm} : kLc4  o Q r M = (Q (o.toList ++ r) M) := propext Iff.rfl
theorem e_kLc3 {P : Prg} {R : Rt} {κ : List (Nat × CloD)} (elt : ME) (tg : MT) (ifs : MQs) (own : List Nat) (σ : Env) (ds : List D) (Q : List D → Hm → Prop) (E : Nat → D → Hm → Prop) {y : D} {M : Hm} : kLc3 P R κ elt tg ifs own σ ds Q E y M = (wLc P R κ elt tg ifs own σ ds M (kLc4 (some y) Q) E) := propext Iff.rfl
theorem e_kLc2 {P : Prg} {R : Rt} {κ : List (Nat × CloD)} (elt : ME) (tg : MT) (ifs : MQs) (own : List Nat) (σ σ' : Env) (ds : List D) (Q : List D → Hm → Prop) (E : Nat → D → Hm → Prop) {b : Bool} {M : Hm} : kLc2 P R κ elt tg ifs own σ σ' ds Q E b M = (if b = true then wEx P R κ elt σ' M (kLc3 P R κ elt tg ifs own σ ds Q E) E else wLc P R κ elt tg ifs own σ ds M Q E) := propext Iff.rfl
theorem e_kLc1 {P : Prg} {R : Rt} {κ : List (Nat × CloD)} (elt : ME) (tg : MT) (ifs : MQs) (own : List Nat) (σ : Env) (ds : List D) (Q : List D → Hm → Prop) (E : Nat → D → Hm → Prop) {σ' : Env} {M : Hm} : kLc1 P R κ elt tg ifs own σ ds Q E σ' M = (wTB P R κ true ifs σ' M (kLc2 P R κ elt tg ifs own σ σ' ds Q E) E) := propext Iff.rfl
theorem e_kIv (Q : Src → Hm → Prop) {x : D} {M : Hm} : kIv  Q x M = (wO (srcOf M x) M Q) := propext Iff.rfl
theorem e_kIr2 (x : D) (Q : Src → Hm → Prop) (E : Nat → D → Hm → Prop) {y : D} {M : Hm} : kIr2  x Q E y M = (wp (rng2D x y M) Q E) := propext Iff.rfl
theorem e_kIr1 {P : Prg} {R : Rt} {κ : List (Nat × CloD)} (b : ME) (σ : Env) (Q : Src → Hm → Prop) (E : Nat → D → Hm → Prop) {x : D} {M : Hm} : kIr1 P R κ b σ Q E x M = (wEx P R κ b σ M (kIr2 x Q E) E) := propext Iff.rfl
theorem e_kK3 (k : L2.Key) (v : D) (Q : List (L2.Key × D) → Hm → Prop) {r : List (L2.Key × D)} {M : Hm} : kK3  k v Q r M = (Q ((k, v) :: r) M) := propext Iff.rfl
theorem e_kK2 {P : Prg} {R : Rt} {κ : List (Nat × CloD)} (x : D) (r : MKs) (σ : Env) (Q : List (L2.Key × D) → Hm → Prop) (E : Nat → D → Hm → Prop) {y : D} {M : Hm} : kK2 P R κ x r σ Q E y M = (wO (keyD x) M fun k M => wK P R κ r σ M (kK3 k y Q) E) := propext Iff.rfl
theorem e_kK1 {P : Prg} {R : Rt} {κ : List (Nat × CloD)} (v : ME) (r : MKs) (σ : Env) (Q : List (L2.Key × D) → Hm → Prop) (E : Nat → D → Hm → Prop) {x : D} {M : Hm} : kK1 P R κ v r σ Q E x M = (wEx P R κ v σ M (kK2 P R κ x r σ Q E) E) := propext Iff.rfl
theorem e_kExpr (p : Po) (σ : Env) {x_0 : D} {M : Hm} : kExpr  p σ x_0 M = (p.N σ M) := propext Iff.rfl
theorem e_kAsg {P : Prg} {R : Rt} {κ : List (Nat × CloD)} (t : MT) (σ : Env) (p : Po) {d : D} {M : Hm} : kAsg P R κ t σ p d M = (wG P R κ t d σ M p.N) := propext Iff.rfl
theorem e_kG {P : Prg} {R : Rt} {κ : List (Nat × CloD)} (ts : MTs) (ds : List D) (Q : Env → Hm → Prop) {σ : Env} {M : Hm} : kG P R κ ts ds Q σ M = (wGs P R κ ts ds σ M Q) := propext Iff.rfl
theorem e_kSb2 (x d : D) (σ : Env) (Q : Env → Hm → Prop) {y : D} {M : Hm} : kSb2  x d σ Q y M = (wp (setSub x y d σ M) Q nE) := propext Iff.rfl
theorem e_kSb1 {P : Prg} {R : Rt} {κ : List (Nat × CloD)} (i : ME) (d : D) (σ : Env) (Q : Env → Hm → Prop) {x : D} {M : Hm} : kSb1 P R κ i d σ Q x M = (wEx P R κ i σ M (kSb2 x d σ Q) nE) := propext Iff.rfl
theorem e_kAt {P : Prg} (f : Str) (d : D) (σ : Env) (Q : Env → Hm → Prop) {x : D} {M : Hm} : kAt P f d σ Q x M = (wp (setAt P f x d σ M) Q nE) := propext Iff.rfl
theorem e_kPar {κ : List (Nat × CloD)} (is : List Nat) (σ : Env) (p : Po) {ds : List D} {M : Hm} : kPar κ is σ p ds M = (if is.all (free κ) = true then wO (setAll is ds σ) M p.N else False) := propext Iff.rfl
theorem e_kAug2 (o : BOp) (i : Nat) (x : D) (σ : Env) (p : Po) {y : D} {M : Hm} : kAug2  o i x σ p y M = (wps (augS o i x y σ M) p.N p.R p.B p.C p.E) := propext Iff.rfl
theorem e_kIf {P : Prg} {R : Rt} {κ : List (Nat × CloD)} (a b : MSs) (σ : Env) (p : Po) {k : Bool} {M : Hm} : kIf P R κ a b σ p k M = (if k = true then wXs P R κ a σ M p else wXs P R κ b σ M p) := propext Iff.rfl
theorem e_kForB {P : Prg} {R : Rt} {κ : List (Nat × CloD)} (t : MT) (b : MSs) (ds : List D) (p : Po) {σ : Env} {M : Hm} : kForB P R κ t b ds p σ M = (wXs P R κ b σ M (poFor P R κ t b ds p)) := propext Iff.rfl
theorem e_kWhl {P : Prg} {R : Rt} {κ : List (Nat × CloD)} (k : Nat) (t : MQ) (b : MSs) (σ : Env) (p : Po) {c : Bool} {M : Hm} : kWhl P R κ k t b σ p c M = (if c = true then wXs P R κ b σ M (poWhl P R κ k t b p) else p.N σ M) := propext Iff.rfl
theorem e_kRse (c : Nat) (σ : Env) (p : Po) {d : D} {M : Hm} : kRse  c σ p d M = (p.E c d σ M) := propext Iff.rfl
theorem po_whlN {P : Prg} {R : Rt} {κ : List (Nat × CloD)} {σ : Env} {M : Hm} {p : Po} {k : Nat} {t : MQ} {b : MSs} : (poWhl P R κ k t b p).N σ M = wWhl P R κ k t b σ M p := propext Iff.rfl
theorem po_whlR {P : Prg} {R : Rt} {κ : List (Nat × CloD)} {p : Po} {k : Nat} {t : MQ} {b : MSs} : (poWhl P R κ k t b p).R = p.R := (rfl)
theorem po_whlB {P : Prg} {R : Rt} {κ : List (Nat × CloD)} {p : Po} {k : Nat} {t : MQ} {b : MSs} : (poWhl P R κ k t b p).B = p.N := (rfl)
theorem po_whlC {P : Prg} {R : Rt} {κ : List (Nat × CloD)} {σ : Env} {M : Hm} {p : Po} {k : Nat} {t : MQ} {b : MSs} : (poWhl P R κ k t b p).C σ M = wWhl P R κ k t b σ M p := propext Iff.rfl
theorem po_whlE {P : Prg} {R : Rt} {κ : List (Nat × CloD)} {p : Po} {k : Nat} {t : MQ} {b : MSs} : (poWhl P R κ k t b p).E = p.E := (rfl)
theorem drop_1 {s0 : MS} {b : MSs} : MSs.drop 1 (.cons s0 b) = b := (rfl)
theorem drop_2 {s0 s1 : MS} {b : MSs} : MSs.drop 2 (.cons s0 (.cons s1 b)) = b := (rfl)
theorem drop_3 {s0 s1 s2 : MS} {b : MSs} : MSs.drop 3 (.cons s0 (.cons s1 (.cons s2 b))) = b := (rfl)
theorem drop_4 {s0 s1 s2 s3 : MS} {b : MSs} : MSs.drop 4 (.cons s0 (.cons s1 (.cons s2 (.cons s3 b)))) = b := (rfl)
theorem drop_5 {s0 s1 s2 s3 s4 : MS} {b : MSs} : MSs.drop 5 (.cons s0 (.cons s1 (.cons s2 (.cons s3 (.cons s4 b))))) = b := (rfl)
theorem drop_6 {s0 s1 s2 s3 s4 s5 : MS} {b : MSs} : MSs.drop 6 (.cons s0 (.cons s1 (.cons s2 (.cons s3 (.cons s4 (.cons s5 b)))))) = b := (rfl)
theorem drop_7 {s0 s1 s2 s3 s4 s5 s6 : MS} {b : MSs} : MSs.drop 7 (.cons s0 (.cons s1 (.cons s2 (.cons s3 (.cons s4 (.cons s5 (.cons s6 b))))))) = b := (rfl)
theorem drop_8 {s0 s1 s2 s3 s4 s5 s6 s7 : MS} {b : MSs} : MSs.drop 8 (.cons s0 (.cons s1 (.cons s2 (.cons s3 (.cons s4 (.cons s5 (.cons s6 (.cons s7 b)))))))) = b := (rfl)
theorem drop_9 {s0 s1 s2 s3 s4 s5 s6 s7 s8 : MS} {b : MSs} : MSs.drop 9 (.cons s0 (.cons s1 (.cons s2 (.cons s3 (.cons s4 (.cons s5 (.cons s6 (.cons s7 (.cons s8 b))))))))) = b := (rfl)
theorem drop_10 {s0 s1 s2 s3 s4 s5 s6 s7 s8 s9 : MS} {b : MSs} : MSs.drop 10 (.cons s0 (.cons s1 (.cons s2 (.cons s3 (.cons s4 (.cons s5 (.cons s6 (.cons s7 (.cons s8 (.cons s9 b)))))))))) = b := (rfl)
theorem drop_11 {s0 s1 s2 s3 s4 s5 s6 s7 s8 s9 s10 : MS} {b : MSs} : MSs.drop 11 (.cons s0 (.cons s1 (.cons s2 (.cons s3 (.cons s4 (.cons s5 (.cons s6 (.cons s7 (.cons s8 (.cons s9 (.cons s10 b))))))))))) = b := (rfl)
theorem drop_12 {s0 s1 s2 s3 s4 s5 s6 s7 s8 s9 s10 s11 : MS} {b : MSs} : MSs.drop 12 (.cons s0 (.cons s1 (.cons s2 (.cons s3 (.cons s4 (.cons s5 (.cons s6 (.cons s7 (.cons s8 (.cons s9 (.cons s10 (.cons s11 b)))))))))))) = b := (rfl)
end Mi

end
section
/-! M40: more rules: growing heaps, functions as values, dict objects, attributes. -/
namespace Mi
open PySem
section
variable {P : Prg} {R : Rt} {κ : List (Nat × CloD)} {σ : Env} {M : Hm} {E : Nat → D → Hm → Prop} {Q : D → Hm → Prop} {p : Po} {h : Bool} {n : Nat} {xs : List D}
theorem grow_of_wp {α : Type} {r : Res α} {d : α} (h : wp r (fun a M' => a = d ∧ ∃ X, M' = M ++ X) nE) : ∃ X, r = .ok d (M ++ X) := by
  cases r with
  | ok a M' => obtain ⟨rfl, X, rfl⟩ := h; exact ⟨X, rfl⟩
  | exc c v M' => exact False.elim h
  | bad => exact False.elim h
/-- a comprehension whose turns make objects and leave what is there -/
theorem wLc_grow {α : Type} {elt : ME} {tg : MT} {ifs : MQs} {own : List Nat} {g v : α → D} : ∀ {l : List α} {M : Hm} {Q : List D → Hm → Prop}, (∀ a ∈ l, ∀ (M : Hm) (Q : List D → Hm → Prop), (∀ X, Q [v a] (M ++ X)) → wLc P R κ elt tg ifs own σ [g a] M Q nE) → (∀ X, Q (l.map v) (M ++ X)) → wLc P R κ elt tg ifs own σ (l.map g) M Q E
  | [], M, Q, _, hq => by
    have := hq []
    rw [List.append_nil] at this
    exact this
  | a :: l, M, Q, hf, hq => by
    obtain ⟨X, h1⟩ := grow_of_wp (hf a List.mem_cons_self M (fun r M' => r = [v a] ∧ ∃ X, M' = M ++ X) fun X => ⟨rfl, X, rfl⟩)
    have h2 : lcTurn P R κ elt tg ifs own σ (g a) M = .ok (some (v a)) (M ++ X) := by
      have h1 : (lcTurn P R κ elt tg ifs own σ (g a) M).bind (fun o M => (Res.ok ([] : List D) M).bind fun r M => .ok (o.toList ++ r) M) = .ok [v a] (M ++ X) := h1
      cases hc : lcTurn P R κ elt tg ifs own σ (g a) M with
      | ok o M' =>
        rw [hc] at h1
        have h1 : Res.ok (o.toList ++ []) M' = .ok [v a] (M ++ X) := h1
        injection h1 with h5 h6
        rw [List.append_nil] at h5
        subst h6
        cases o with
        | none => cases h5
        | some z =>
          have h4 : [z] = [v a] := h5
          rw [(List.cons.inj h4).1]
      | exc c v M' => rw [hc] at h1; cases h1
      | bad => rw [hc] at h1; cases h1
    show wp ((lcTurn P R κ elt tg ifs own σ (g a) M).bind fun o M => (compL (lcTurn P R κ elt tg ifs own σ) (l.map g) M).bind fun r M => .ok (o.toList ++ r) M) Q E
    rw [h2, Res.bind_ok, wp_bind]
    refine wLc_grow (Q := fun r M => wp (Res.ok (v a :: r) M) Q E) (fun a ha => hf a (List.mem_cons_of_mem _ ha)) fun Y => ?_
    rw [List.append_assoc]
    exact hq (X ++ Y)
/-- .. with a test -/
theorem wLc_test {α : Type} {elt : ME} {tg : MT} {ifs : MQs} {own : List Nat} {g v : α → D} {c : α → Bool} : ∀ {l : List α} {M : Hm} {Q : List D → Hm → Prop}, (∀ a ∈ l, ∀ (M : Hm) (Q : List D → Hm → Prop), (∀ X, Q (if c a then [v a] else []) (M ++ X)) → wLc P R κ elt tg ifs own σ [g a] M Q nE) → (∀ X, Q ((l.filter c).map v) (M ++ X)) → wLc P R κ elt tg ifs own σ (l.map g) M Q E
  | [], M, Q, _, hq => by
    have := hq []
    rw [List.append_nil] at this
    exact this
  | a :: l, M, Q, hf, hq => by
    obtain ⟨X, h1⟩ := grow_of_wp (hf a List.mem_cons_self M (fun r M' => r = (if c a then [v a] else []) ∧ ∃ X, M' = M ++ X) fun X => ⟨rfl, X, rfl⟩)
    have h2 : lcTurn P R κ elt tg ifs own σ (g a) M = .ok (if c a then some (v a) else none) (M ++ X) := by
      have h1 : (lcTurn P R κ elt tg ifs own σ (g a) M).bind (fun o M => (Res.ok ([] : List D) M).bind fun r M => .ok (o.toList ++ r) M) = .ok (if c a then [v a] else []) (M ++ X) := h1
      cases hc : lcTurn P R κ elt tg ifs own σ (g a) M with
      | ok o M' =>
        rw [hc] at h1
        have h1 : Res.ok (o.toList ++ []) M' = .ok (if c a then [v a] else []) (M ++ X) := h1
        injection h1 with h5 h6
        rw [List.append_nil] at h5
        subst h6
        by_cases hca : c a = true
        · rw [if_pos hca] at h5 ⊢
          cases o with
          | none => cases h5
          | some z =>
            have h4 : [z] = [v a] := h5
            rw [(List.cons.inj h4).1]
        · rw [if_neg hca] at h5 ⊢
          cases o with
          | none => rfl
          | some z => cases h5
      | exc c v M' => rw [hc] at h1; cases h1
      | bad => rw [hc] at h1; cases h1
    show wp ((lcTurn P R κ elt tg ifs own σ (g a) M).bind fun o M => (compL (lcTurn P R κ elt tg ifs own σ) (l.map g) M).bind fun r M => .ok (o.toList ++ r) M) Q E
    rw [h2, Res.bind_ok, wp_bind]
    refine wLc_test (c := c) (Q := fun r M => wp (Res.ok ((if c a then some (v a) else none).toList ++ r) M) Q E) (fun a ha => hf a (List.mem_cons_of_mem _ ha)) fun Y => ?_
    rw [List.append_assoc]
    have := hq (X ++ Y)
    rw [List.filter_cons] at this
    by_cases hca : c a = true
    · rw [if_pos hca] at this ⊢; exact this
    · rw [if_neg hca] at this ⊢; exact this
def kFn (R : Rt) (g : Nat) (Q : D → Hm → Prop) (E : Nat → D → Hm → Prop) : List D → Hm → Prop := fun ds M => wp (R.call g (ds.map some) [] M) Q E
theorem kFn_e {g : Nat} {ds : List D} : kFn R g Q E ds M = wp (R.call g (ds.map some) [] M) Q E := propext Iff.rfl
theorem kCv_fn {i g : Nat} {es : MEs} (hs : slot σ i = some (.fn g)) (hg : P.fns[g]?.isSome = true) : kCv P R κ i es σ M Q E none = wEs P R κ es σ M (kFn R g Q E) E := by
  show wp (match slot σ i with | some (.fn g) => if P.fns[g]?.isSome = true then (evs P R κ es σ M).bind fun ds M => R.call g (ds.map some) [] M else .bad | _ => .bad) Q E = _
  rw [hs]
  show wp (if P.fns[g]?.isSome = true then _ else _) Q E = _
  rw [if_pos hg, wp_bind]
  rfl
/-! dict objects -/
def kSubD (k : L2.Key) (d : D) (σ : Env) (M : Hm) (n : Nat) (Q : Env → Hm → Prop) : Option MO → Prop
  | some (.dic ks vs) => ks.length < 16777216 ∧ Q σ (M.set n (.dic (kput k d ks vs).1 (kput k d ks vs).2))
  | _ => False
theorem g_subD {k : Str} {d : D} {Q : Env → Hm → Prop} : wp (setSub (.ref n) (.str k) d σ M) Q nE = kSubD (.inr k) d σ M n Q M[n]? := by
  unfold setSub
  cases hn : M[n]? with
  | none => simp only [hn]; rfl
  | some o => cases o with
    | lst xs => simp only [hn]; rfl
    | dic ks vs =>
      simp only [hn]
      show wp (if decide (ks.length < 16777216) = true then _ else _) Q nE = _
      by_cases hc : decide (ks.length < 16777216) = true
      · rw [if_pos hc]; exact propext ⟨fun z => ⟨of_decide_eq_true hc, z⟩, fun z => z.2⟩
      · rw [if_neg hc]; exact propext ⟨fun z => z.elim, fun z => hc (decide_eq_true z.1)⟩
    | ins C fs => simp only [hn]; rfl
theorem kSubD_d {k : L2.Key} {d : D} {ks : List L2.Key} {vs : List D} {Q : Env → Hm → Prop} : kSubD k d σ M n Q (some (.dic ks vs)) = (ks.length < 16777216 ∧ Q σ (M.set n (.dic (kput k d ks vs).1 (kput k d ks vs).2))) := propext Iff.rfl
def kInD (k : L2.Key) (M : Hm) (Q : Bool → Hm → Prop) : Option MO → Prop
  | some (.dic ks vs) => Q (dGet ks vs k).isSome M
  | _ => False
theorem c_inD {k : Str} {ks : List L2.Key} {vs : List D} {Q : Bool → Hm → Prop} (hn : M[n]? = some (.dic ks vs)) : wO (opCmp .isin (.str k) (.ref n) M) M Q = Q (dGet ks vs (.inr k)).isSome M := by
  show wO (inD (.str k) (.ref n) M) M Q = _
  unfold inD items? dict?
  simp only [hn]
  rfl
/-! attributes -/
def kAtR (P : Prg) (f : Str) (d : D) (σ : Env) (M : Hm) (n : Nat) (Q : Env → Hm → Prop) : Option MO → Prop
  | some (.ins C fs) => (P.clss[C]?.any (fun k => k.own.contains f) = true ∧ fs.length < 1000) ∧ Q σ (M.set n (.ins C (putFld f d fs)))
  | _ => False
theorem g_atR {f : Str} {d : D} {Q : Env → Hm → Prop} : wp (setAt P f (.ref n) d σ M) Q nE = kAtR P f d σ M n Q M[n]? := by
  unfold setAt
  cases hn : M[n]? with
  | none => simp only [hn]; rfl
  | some o => cases o with
    | ins C fs =>
      simp only [hn]
      show wp (if (P.clss[C]?.any (fun k => k.own.contains f) && decide (fs.length < 1000)) = true then _ else _) Q nE = _
      by_cases hc : (P.clss[C]?.any (fun k => k.own.contains f) && decide (fs.length < 1000)) = true
      · rw [if_pos hc]
        rw [Bool.and_eq_true, decide_eq_true_eq] at hc
        exact propext ⟨fun z => ⟨hc, z⟩, fun z => z.2⟩
      · rw [if_neg hc]
        rw [Bool.and_eq_true, decide_eq_true_eq] at hc
        exact propext ⟨fun z => z.elim, fun z => hc z.1⟩
    | _ => simp only [hn]; rfl
theorem kAtR_i {f : Str} {d : D} {C : Nat} {fs : List (Str × D)} {Q : Env → Hm → Prop} : kAtR P f d σ M n Q (some (.ins C fs)) = ((P.clss[C]?.any (fun k => k.own.contains f) = true ∧ fs.length < 1000) ∧ Q σ (M.set n (.ins C (putFld f d fs)))) := propext Iff.rfl
/-! closures, new objects -/
theorem r_clo {m : Nat} {c : CloD} {ds : List D} : wp ((rt P (m + 1)).clo c ds M) Q E = if ds.length = c.nps then wEx P (rt P m) [] c.body (startE c.size (ds.map some ++ c.caps)) M Q E else False := by
  show wp (if ds.length = c.nps then _ else _) Q E = _
  by_cases h : ds.length = c.nps
  · rw [if_pos h, if_pos h]; rfl
  · rw [if_neg h, if_neg h]; rfl
def kNew (a : Nat) (Q : D → Hm → Prop) : D → Hm → Prop := fun v M => match v with | .non => Q (.ref a) M | _ => False
theorem kNew_e {a : Nat} : kNew a Q .non M = Q (.ref a) M := propext Iff.rfl
theorem r_make {m C g : Nat} {ds : List D} (hC : P.clss[C]?.bind (·.init) = some g) : wp ((rt P (m + 1)).make C ds M) Q E = wp ((rt P m).call g (some (.ref M.length) :: ds.map some) [] (M ++ [.ins C []])) (kNew M.length Q) E := by
  show wp (match P.clss[C]?.bind (·.init) with | some g => _ | none => .bad) Q E = _
  rw [hC]
  show wp (Res.bind _ _) Q E = _
  rw [wp_bind]
  refine wp_iff fun v M' => ?_
  cases v <;> rfl
end
end Mi

end
namespace Mi.K05
local macro_rules | `(tactic| simp! only [$ls,*]) => `(tactic| (try simp only [↓drop_1, ↓drop_2, ↓drop_3, ↓drop_4, ↓drop_5, ↓drop_6, ↓drop_7, ↓drop_8, ↓drop_9, ↓drop_10, ↓drop_11, ↓drop_12, ↓po_whlN, ↓po_whlR, ↓po_whlB, ↓po_whlC, ↓po_whlE, ↓e_pE, ↓e_kTup, ↓e_kLst, ↓e_kDsp, ↓e_kBin2, ↓e_kBin1, ↓e_kUn, ↓e_kBl, ↓e_kCmp2, ↓e_kCmp1, ↓e_kChn4, ↓e_kChn3, ↓e_kChn2, ↓e_kChn1, ↓e_kNot, ↓e_kIfe, ↓e_kIfT, ↓e_kIx2, ↓e_kIx1, ↓e_kSl3, ↓e_kSl2, ↓e_kSl1, ↓e_kCall, ↓e_kA2, ↓e_kA1, ↓e_kAl, ↓e_kAL, ↓e_kEs2, ↓e_kEs1, ↓e_kClo, ↓e_kMake, ↓e_kFld, ↓e_kBi, ↓e_kBm2, ↓e_kBm1, ↓e_kIsi, ↓e_kLc4, ↓e_kLc3, ↓e_kLc2, ↓e_kLc1, ↓e_kIv, ↓e_kIr2, ↓e_kIr1, ↓e_kK3, ↓e_kK2, ↓e_kK1, ↓e_kExpr, ↓e_kAsg, ↓e_kG, ↓e_kSb2, ↓e_kSb1, ↓e_kAt, ↓e_kPar, ↓e_kAug2, ↓e_kIf, ↓e_kForB, ↓e_kWhl, ↓e_kRse, ↓wE_cst, ↓wE_var, ↓wE_glc, ↓wE_fnv, ↓wE_tup, ↓wE_lst, ↓wE_bin, ↓wE_un, ↓wE_cmp, ↓wE_chn, ↓wE_bop, ↓wE_not, ↓wE_ife, ↓wE_ix, ↓wE_sl, ↓wE_call, ↓wE_callv, ↓wE_make, ↓wE_fld, ↓wE_bi, ↓wE_bm, ↓wE_isi, ↓wE_lc, ↓wE_dsp, ↓wEs_nil, ↓wEs_cons, ↓wA_nil, ↓wA_cst, ↓wA_var, ↓wA_glc, ↓wA_fnv, ↓wA_tup, ↓wA_lst, ↓wA_bin, ↓wA_un, ↓wA_cmp, ↓wA_bop, ↓wA_not, ↓wA_ife, ↓wA_ix, ↓wA_sl, ↓wA_call, ↓wA_callv, ↓wA_make, ↓wA_meth, ↓wA_fld, ↓wA_bi, ↓wA_bm, ↓wA_isi, ↓wA_lc, ↓wA_dsp, ↓wA_lam, ↓wP_no, ↓wP_some, ↓wB_one, ↓wB_cons, ↓wT_val, ↓wT_cmp, ↓wT_chn, ↓wT_not, ↓wT_bop, ↓wT_ife, ↓wTB_nil, ↓wTB_cons, ↓wK_nil, ↓wK_cons, ↓wI_val, ↓wI_rng1, ↓wI_rng2, ↓wG_nm, ↓wG_tp1, ↓wG_tp2, ↓wG_tp3, ↓wG_tp4, ↓wGs_nil, ↓wGs_cons, ↓wG_sb, ↓wG_at, ↓wXs_nil, ↓wXs_cons, ↓wX_expr, ↓wX_asg, ↓wX_par, ↓wX_aug, ↓wX_ife, ↓wX_fr, ↓wX_whl, ↓wX_ret, ↓wX_retn, ↓wX_rse, ↓wX_tr, ↓wX_brk, ↓wX_cnt, ↓wX_pas, ↓wO_some, ↓wO_none, ↓wp_ok, ↓wp_exc, ↓wp_bad, ↓wps_nxt, ↓wps_ret, ↓wps_exc, ↓wps_bad, ↓kLc_items, ↓kFor_items, ↓wLc_nil, ↓wFor_nil, ↓kB1_t, ↓kB1_f, ↓kTB1_t, ↓kTB1_f, ↓kVal_bl, ↓kNotV_bl, ↓kPi_int, ↓kIr_int, ↓kAug_some, ↓kCv_some, ↓augS_add, ↓augS_sub, ↓po_seqN, ↓po_seqR, ↓po_seqB, ↓po_seqC, ↓po_seqE, ↓po_topN, ↓po_topR, ↓po_topE, ↓po_forN, ↓po_forR, ↓po_forB, ↓po_forC, ↓po_forE, ↓po_trN, ↓po_trR, ↓po_trB, ↓po_trC, ↓po_trE, ↓setAll_nil, ↓setAll_cons, ↓wipe_nil, ↓wipe_cons, ↓free_nil, ↓bnot_t, ↓bnot_f, ↓tf_eq, ↓ft_eq, ↓tt_eq, ↓ff_eq, ↓ofStr_inj, ↓o_add, ↓o_sub, ↓o_mul, ↓o_fdiv, ↓o_mod, ↓o_pow, ↓o_shl, ↓o_shr, ↓o_band, ↓o_bor, ↓o_bxor, ↓o_strs, ↓o_tups, ↓o_lsts, ↓o_neg, ↓o_inv, ↓c_eqi, ↓c_nei, ↓c_lti, ↓c_lei, ↓c_gti, ↓c_gei, ↓c_eqs, ↓c_nes, ↓c_eqb, ↓c_neb, ↓c_eqn, ↓c_nen, ↓c_eqns, ↓c_eqsn, ↓c_eqni, ↓c_eqin, ↓c_eqis, ↓c_eqsi, ↓c_isn, ↓c_isi, ↓c_isb, ↓c_iss, ↓c_ist, ↓c_isl, ↓c_isr, ↓c_inn, ↓c_ini, ↓c_inb, ↓c_ins, ↓c_int, ↓c_inl, ↓c_inr, ↓c_int_, ↓c_inl_, ↓c_nint_, ↓eqF_ss, ↓eqF_ii, ↓eqF_ns, ↓eqF_nn, ↓eqF_sn, ↓eqF_is, ↓eqF_si, ↓eqF_in, ↓eqF_ni, ↓flat_s, ↓flat_i, ↓flat_n, ↓flat_b, ↓x_tup, ↓x_lst, ↓x_flst, ↓x_dic, ↓s_tup, ↓s_lst, ↓b_len, ↓l_tup, ↓l_lst, ↓l_flst, ↓l_str, ↓b_abs, ↓b_int, ↓b_intb, ↓b_tup, ↓b_tupl, ↓b_lstt, ↓b_lstl, ↓b_lstf, ↓b_sum, ↓b_all, ↓b_any, ↓b_dict, ↓r_tup, ↓r_lst, ↓r_flst, ↓r_rng2, ↓slot_0, ↓set_0, ↓slot_1, ↓set_1, ↓slot_2, ↓set_2, ↓slot_3, ↓set_3, ↓slot_4, ↓set_4, ↓slot_5, ↓set_5, ↓slot_6, ↓set_6, ↓slot_7, ↓set_7, ↓slot_8, ↓set_8, ↓slot_9, ↓set_9, ↓slot_10, ↓set_10, ↓slot_11, ↓set_11, ↓slot_12, ↓set_12, ↓slot_13, ↓set_13, ↓slot_14, ↓set_14, ↓slot_15, ↓set_15, ↓slot_16, ↓set_16, ↓slot_17, ↓set_17, ↓slot_18, ↓set_18, ↓slot_19, ↓set_19, ↓atI_0, ↓atI_1, ↓atI_2, ↓atI_3, ↓atI_4, ↓atI_5, ↓atI_6, ↓atI_7, ↓atI_8, ↓atI_9, ↓atI_10, ↓atI_11, ↓atI_12, ↓ixN_0, ↓ixN_1, ↓ixN_2, ↓ixN_3, ↓ixN_4, ↓ixN_5, ↓x_refR, ↓kIxR_l, ↓l_refR, ↓kLenR_l, ↓g_subR, ↓kSubR_l, ↓kSub2_e, ↓b_tupR, ↓kTupR_l, ↓m_appR, ↓kAppR_l, ↓m_okR, ↓m_okP, ↓m_popR, ↓kPopR_l, ↓kPop2_e, ↓augL_R, ↓kAugL_l, ↓isLstO_l, ↓m_set_set, ↓cut_to1, ↓cut_from1, ↓cut_from2, ↓cut_from3, ↓cut_12, ↓cut_last, ↓ldrop_1, ↓ldrop_2, ↓ldrop_3, ↓ints_nil, ↓ints_cons, ↓bls_nil, ↓bls_cons, ↓omap, ↓reduceIte, decide_true, decide_false, Bool.and_true, Bool.true_and, Bool.and_false, Bool.false_and, Bool.or_true, Bool.true_or, Bool.or_false, Bool.false_or, List.all_cons, List.all_nil, List.any_cons, List.any_nil, List.sum_cons, List.sum_nil,  true_and, and_true, and_self, or_true, true_or, or_false, false_or, and_false, false_and, not_true_eq_false, not_false_eq_true,  nc0, nc1, nc2, nc3, nc4, nc5, nc6, nc7, nc8, nc9, nc10, nc11, nc12, nc13, nc14, nc15, nc16, List.length_cons, List.length_nil, Nat.reduceAdd, Nat.reduceSub, Nat.reduceLeDiff, Nat.reduceLT, Nat.reduceEqDiff, Int.reduceLE, Int.reduceLT, Int.reduceNeg, Int.reduceAdd, Int.reduceSub, Int.reduceMul, Int.reducePow, Int.reduceToNat, Int.reduceEq, Int.reduceNe, String.reduceEq, Nat.zero_add, $ls,*]))
local macro_rules | `(tactic| simp! only [$ls,*] at $h:ident) => `(tactic| (try simp only [↓drop_1, ↓drop_2, ↓drop_3, ↓drop_4, ↓drop_5, ↓drop_6, ↓drop_7, ↓drop_8, ↓drop_9, ↓drop_10, ↓drop_11, ↓drop_12, ↓po_whlN, ↓po_whlR, ↓po_whlB, ↓po_whlC, ↓po_whlE, ↓e_pE, ↓e_kTup, ↓e_kLst, ↓e_kDsp, ↓e_kBin2, ↓e_kBin1, ↓e_kUn, ↓e_kBl, ↓e_kCmp2, ↓e_kCmp1, ↓e_kChn4, ↓e_kChn3, ↓e_kChn2, ↓e_kChn1, ↓e_kNot, ↓e_kIfe, ↓e_kIfT, ↓e_kIx2, ↓e_kIx1, ↓e_kSl3, ↓e_kSl2, ↓e_kSl1, ↓e_kCall, ↓e_kA2, ↓e_kA1, ↓e_kAl, ↓e_kAL, ↓e_kEs2, ↓e_kEs1, ↓e_kClo, ↓e_kMake, ↓e_kFld, ↓e_kBi, ↓e_kBm2, ↓e_kBm1, ↓e_kIsi, ↓e_kLc4, ↓e_kLc3, ↓e_kLc2, ↓e_kLc1, ↓e_kIv, ↓e_kIr2, ↓e_kIr1, ↓e_kK3, ↓e_kK2, ↓e_kK1, ↓e_kExpr, ↓e_kAsg, ↓e_kG, ↓e_kSb2, ↓e_kSb1, ↓e_kAt, ↓e_kPar, ↓e_kAug2, ↓e_kIf, ↓e_kForB, ↓e_kWhl, ↓e_kRse, ↓wE_cst, ↓wE_var, ↓wE_glc, ↓wE_fnv, ↓wE_tup, ↓wE_lst, ↓wE_bin, ↓wE_un, ↓wE_cmp, ↓wE_chn, ↓wE_bop, ↓wE_not, ↓wE_ife, ↓wE_ix, ↓wE_sl, ↓wE_call, ↓wE_callv, ↓wE_make, ↓wE_fld, ↓wE_bi, ↓wE_bm, ↓wE_isi, ↓wE_lc, ↓wE_dsp, ↓wEs_nil, ↓wEs_cons, ↓wA_nil, ↓wA_cst, ↓wA_var, ↓wA_glc, ↓wA_fnv, ↓wA_tup, ↓wA_lst, ↓wA_bin, ↓wA_un, ↓wA_cmp, ↓wA_bop, ↓wA_not, ↓wA_ife, ↓wA_ix, ↓wA_sl, ↓wA_call, ↓wA_callv, ↓wA_make, ↓wA_meth, ↓wA_fld, ↓wA_bi, ↓wA_bm, ↓wA_isi, ↓wA_lc, ↓wA_dsp, ↓wA_lam, ↓wP_no, ↓wP_some, ↓wB_one, ↓wB_cons, ↓wT_val, ↓wT_cmp, ↓wT_chn, ↓wT_not, ↓wT_bop, ↓wT_ife, ↓wTB_nil, ↓wTB_cons, ↓wK_nil, ↓wK_cons, ↓wI_val, ↓wI_rng1, ↓wI_rng2, ↓wG_nm, ↓wG_tp1, ↓wG_tp2, ↓wG_tp3, ↓wG_tp4, ↓wGs_nil, ↓wGs_cons, ↓wG_sb, ↓wG_at, ↓wXs_nil, ↓wXs_cons, ↓wX_expr, ↓wX_asg, ↓wX_par, ↓wX_aug, ↓wX_ife, ↓wX_fr, ↓wX_whl, ↓wX_ret, ↓wX_retn, ↓wX_rse, ↓wX_tr, ↓wX_brk, ↓wX_cnt, ↓wX_pas, ↓wO_some, ↓wO_none, ↓wp_ok, ↓wp_exc, ↓wp_bad, ↓wps_nxt, ↓wps_ret, ↓wps_exc, ↓wps_bad, ↓kLc_items, ↓kFor_items, ↓wLc_nil, ↓wFor_nil, ↓kB1_t, ↓kB1_f, ↓kTB1_t, ↓kTB1_f, ↓kVal_bl, ↓kNotV_bl, ↓kPi_int, ↓kIr_int, ↓kAug_some, ↓kCv_some, ↓augS_add, ↓augS_sub, ↓po_seqN, ↓po_seqR, ↓po_seqB, ↓po_seqC, ↓po_seqE, ↓po_topN, ↓po_topR, ↓po_topE, ↓po_forN, ↓po_forR, ↓po_forB, ↓po_forC, ↓po_forE, ↓po_trN, ↓po_trR, ↓po_trB, ↓po_trC, ↓po_trE, ↓setAll_nil, ↓setAll_cons, ↓wipe_nil, ↓wipe_cons, ↓free_nil, ↓bnot_t, ↓bnot_f, ↓tf_eq, ↓ft_eq, ↓tt_eq, ↓ff_eq, ↓ofStr_inj, ↓o_add, ↓o_sub, ↓o_mul, ↓o_fdiv, ↓o_mod, ↓o_pow, ↓o_shl, ↓o_shr, ↓o_band, ↓o_bor, ↓o_bxor, ↓o_strs, ↓o_tups, ↓o_lsts, ↓o_neg, ↓o_inv, ↓c_eqi, ↓c_nei, ↓c_lti, ↓c_lei, ↓c_gti, ↓c_gei, ↓c_eqs, ↓c_nes, ↓c_eqb, ↓c_neb, ↓c_eqn, ↓c_nen, ↓c_eqns, ↓c_eqsn, ↓c_eqni, ↓c_eqin, ↓c_eqis, ↓c_eqsi, ↓c_isn, ↓c_isi, ↓c_isb, ↓c_iss, ↓c_ist, ↓c_isl, ↓c_isr, ↓c_inn, ↓c_ini, ↓c_inb, ↓c_ins, ↓c_int, ↓c_inl, ↓c_inr, ↓c_int_, ↓c_inl_, ↓c_nint_, ↓eqF_ss, ↓eqF_ii, ↓eqF_ns, ↓eqF_nn, ↓eqF_sn, ↓eqF_is, ↓eqF_si, ↓eqF_in, ↓eqF_ni, ↓flat_s, ↓flat_i, ↓flat_n, ↓flat_b, ↓x_tup, ↓x_lst, ↓x_flst, ↓x_dic, ↓s_tup, ↓s_lst, ↓b_len, ↓l_tup, ↓l_lst, ↓l_flst, ↓l_str, ↓b_abs, ↓b_int, ↓b_intb, ↓b_tup, ↓b_tupl, ↓b_lstt, ↓b_lstl, ↓b_lstf, ↓b_sum, ↓b_all, ↓b_any, ↓b_dict, ↓r_tup, ↓r_lst, ↓r_flst, ↓r_rng2, ↓slot_0, ↓set_0, ↓slot_1, ↓set_1, ↓slot_2, ↓set_2, ↓slot_3, ↓set_3, ↓slot_4, ↓set_4, ↓slot_5, ↓set_5, ↓slot_6, ↓set_6, ↓slot_7, ↓set_7, ↓slot_8, ↓set_8, ↓slot_9, ↓set_9, ↓slot_10, ↓set_10, ↓slot_11, ↓set_11, ↓slot_12, ↓set_12, ↓slot_13, ↓set_13, ↓slot_14, ↓set_14, ↓slot_15, ↓set_15, ↓slot_16, ↓set_16, ↓slot_17, ↓set_17, ↓slot_18, ↓set_18, ↓slot_19, ↓set_19, ↓atI_0, ↓atI_1, ↓atI_2, ↓atI_3, ↓atI_4, ↓atI_5, ↓atI_6, ↓atI_7, ↓atI_8, ↓atI_9, ↓atI_10, ↓atI_11, ↓atI_12, ↓ixN_0, ↓ixN_1, ↓ixN_2, ↓ixN_3, ↓ixN_4, ↓ixN_5, ↓x_refR, ↓kIxR_l, ↓l_refR, ↓kLenR_l, ↓g_subR, ↓kSubR_l, ↓kSub2_e, ↓b_tupR, ↓kTupR_l, ↓m_appR, ↓kAppR_l, ↓m_okR, ↓m_okP, ↓m_popR, ↓kPopR_l, ↓kPop2_e, ↓augL_R, ↓kAugL_l, ↓isLstO_l, ↓m_set_set, ↓cut_to1, ↓cut_from1, ↓cut_from2, ↓cut_from3, ↓cut_12, ↓cut_last, ↓ldrop_1, ↓ldrop_2, ↓ldrop_3, ↓ints_nil, ↓ints_cons, ↓bls_nil, ↓bls_cons, ↓omap, ↓reduceIte, decide_true, decide_false, Bool.and_true, Bool.true_and, Bool.and_false, Bool.false_and, Bool.or_true, Bool.true_or, Bool.or_false, Bool.false_or, List.all_cons, List.all_nil, List.any_cons, List.any_nil, List.sum_cons, List.sum_nil,  true_and, and_true, and_self, or_true, true_or, or_false, false_or, and_false, false_and, not_true_eq_false, not_false_eq_true,  nc0, nc1, nc2, nc3, nc4, nc5, nc6, nc7, nc8, nc9, nc10, nc11, nc12, nc13, nc14, nc15, nc16, List.length_cons, List.length_nil, Nat.reduceAdd, Nat.reduceSub, Nat.reduceLeDiff, Nat.reduceLT, Nat.reduceEqDiff, Int.reduceLE, Int.reduceLT, Int.reduceNeg, Int.reduceAdd, Int.reduceSub, Int.reduceMul, Int.reducePow, Int.reduceToNat, Int.reduceEq, Int.reduceNe, String.reduceEq, Nat.zero_add, $ls,*] at $h:ident))
/-! K05m8: draws. -/
section
open PySem
def Tape (M : Hm) (t : Nat) : Prop := ∃ (ns : List Int) (pos rest seed : Int), M[t]? = some (.lst [.lst (ns.map D.int), .int pos, .int rest, .int seed]) ∧ 0 ≤ pos ∧ 0 ≤ rest
structure Fr (t : Nat) (M M' : Hm) : Prop where
  len : M.length ≤ M'.length
  old : ∀ i, i < M.length → i ≠ t → M'[i]? = M[i]?
  tape : Tape M' t
theorem set_get {M : Hm} {t : Nat} {o o' : MO} (h : M[t]? = some o) : (M.set t o')[t]? = some o' := by
  rw [List.getElem?_set_self (List.getElem?_eq_some_iff.mp h).1]
theorem Fr.set {M M' : Hm} {t : Nat} {ns : List Int} {pos rest seed : Int} (l : M'.length = M.length) (h : M'[t]? = some (.lst [.lst (ns.map D.int), .int pos, .int rest, .int seed])) (h1 : 0 ≤ pos) (h2 : 0 ≤ rest) (o : ∀ i, i ≠ t → M'[i]? = M[i]?) : Fr t M M' :=
  ⟨by omega, fun i _ hi => o i hi, ns, pos, rest, seed, h, h1, h2⟩
theorem wif {c : Prop} [Decidable c] {A B : Prop} (h1 : c → A) (h2 : ¬ c → B) : if decide c = true then A else B := by
  by_cases h : c
  · rw [if_pos (decide_eq_true h)]; exact h1 h
  · rw [if_neg (by simpa using h)]; exact h2 h
theorem wifn {c : Prop} [Decidable c] {A B : Prop} (h1 : ¬ c → A) (h2 : c → B) : if (!decide c) = true then A else B := by
  by_cases h : c
  · rw [if_neg (by simpa using h)]; exact h2 h
  · rw [if_pos (by simpa using h)]; exact h1 h
section
variable {M : Hm} {t n : Nat} {Q : D → Hm → Prop} {E : Nat → D → Hm → Prop}
theorem next_wp {m : Int} (h : Tape M t) (hm : 0 < m) (h64 : m < 1000) (hq : ∀ (k : Int) (M' : Hm), 0 ≤ k → k < m → Fr t M M' → Q (.int k) M') :
    wp ((rt prg (n + 1)).call g__law_next [some (.ref t), some (.int m)] [] M) Q E := by
  obtain ⟨ns, pos, rest, seed, hM, hp, hr⟩ := h
  have hS : ∀ o, (M.set t o)[t]? = some o := fun o => set_get hM
  have hO : ∀ o i, i ≠ t → (M.set t o)[i]? = M[i]? := fun o i hi => List.getElem?_set_ne (Ne.symm hi)
  have hb := fun x => And.intro (Int.emod_nonneg x (by omega : m ≠ 0)) (Int.emod_lt_of_pos x hm)
  rw [call__law_next_2, wX_top]
  simp! only [b__law_next, hM, hS]
  by_cases h0 : rest = 0
  · subst h0
    simp! only [b__law_next_3, hM, hS]
    refine wif (fun hl => ?_) (fun hl => ?_)
    · have hat : ∃ z : Int, L2.atI (ns.map D.int) pos = some (.int z) := by
        rw [List.length_map] at hl
        obtain ⟨k, rfl⟩ : ∃ k : Nat, pos = (k : Int) := ⟨pos.toNat, by omega⟩
        refine ⟨ns[k]'(by omega), L2.atI_nat ?_⟩
        rw [List.getElem?_map, List.getElem?_eq_getElem (by omega)]
        rfl
      obtain ⟨z, hz⟩ := hat
      have hz0 : 0 ≤ (if z < 0 then -z else z) := by split <;> omega
      simp! only [b__law_next_2, b__law_next_1, hM, hS, hz]
      generalize (if z < 0 then -z else z) = c at hz0
      refine wif (fun hc => ⟨hm, hq _ _ (hb _).1 (hb _).2 (Fr.set (by simp) (hS _) (by omega) (by omega) (hO _))⟩)
        (fun hc => ⟨⟨hm, by omega⟩, hm, hq _ _ (hb _).1 (hb _).2 (Fr.set (by simp) (hS _) (by omega) (Int.ediv_nonneg hz0 (by omega)) (hO _))⟩)
    · simp! only [hM, hS, b__law_next_1]
      exact ⟨hm, hq _ _ (hb _).1 (hb _).2 (Fr.set (by simp) (hS _) (by omega) (by omega) (hO _))⟩
  · simp! only [h0, hM, hS]
    refine ⟨⟨hm, by omega⟩, hm, hq _ _ (hb rest).1 (hb rest).2 (Fr.set (by simp) (hS _) hp (Int.ediv_nonneg hr (by omega)) (hO _))⟩
theorem Fr.trans {M1 M2 : Hm} (h : Fr t M M1) (h2 : Fr t M1 M2) : Fr t M M2 := ⟨Nat.le_trans h.len h2.len, fun i hi hne => by rw [h2.old i (Nat.lt_of_lt_of_le hi h.len) hne, h.old i hi hne], h2.tape⟩
theorem draw2 {c : Prop} [Decidable c] {m1 m2 : Int} (h : Tape M t) (h1 : 0 < m2) (h2 : m2 ≤ m1) (h3 : m1 < 1000) (hq : ∀ (k : Int) (M' : Hm), 0 ≤ k → k < m1 → (¬ c → k < m2) → Fr t M M' → Q (.int k) M') :
    if decide c = true then wp ((rt prg (n + 1)).call g__law_next [some (.ref t), some (.int m1)] [] M) Q E else wp ((rt prg (n + 1)).call g__law_next [some (.ref t), some (.int m2)] [] M) Q E :=
  wif (fun hc => next_wp h (by omega) h3 fun k M' a b F => hq k M' a b (fun z => absurd hc z) F) (fun hc => next_wp h h1 (by omega) fun k M' a b F => hq k M' a (by omega) (fun _ => b) F)
end
/-! ### what is drawn -/
def okN : List Str := ["a", "b", "c", "r", "s", "p", "q", "zz"]
def Ex.Nm : Ex → Prop
  | .tf _ => True
  | .num i => 0 ≤ i ∧ i ≤ 255
  | .var x => x ∈ okN
  | .at x e => x ∈ okN ∧ e.Nm
  | .no e => e.Nm
  | .op _ a b => a.Nm ∧ b.Nm
def Ex.sz : Ex → Nat
  | .tf _ => 1
  | .num _ => 1
  | .var _ => 1
  | .at _ e => e.sz + 1
  | .no e => e.sz + 1
  | .op _ a b => a.sz + b.sz + 1
structure DrE (vs : List Va) (k : Ki) (d : Nat) (e : Ex) : Prop where
  ty : ∀ q, ty vs e q = .ok k
  deep : e.deep ≤ d + 1
  sz : e.sz + 1 ≤ 2 ^ (d + 1)
  nm : e.Nm
structure Nms where
  ws : List Str
  bs : List Str
  rs : List (Str × Int)
  vs : List Va
  wOk : ∀ x ∈ ws, x ∈ okN ∧ ∃ r, findV vs x = some r ∧ r.k = .word
  bOk : ∀ x ∈ bs, x ∈ okN ∧ ∃ r, findV vs x = some r ∧ r.k = .bit
  rOk : ∀ x ∈ rs, x.1 ∈ okN ∧ 0 < x.2 ∧ x.2 ≤ 8 ∧ ∃ r, findV vs x.1 = some r ∧ r.k = .row
  len : ws.length ≤ 10 ∧ bs.length ≤ 10 ∧ rs.length ≤ 10
  wne : ∀ M : Hm, opCmp .ne (.lst (ws.map D.str)) (.lst []) M = some (!decide (ws = []))
  bne : ∀ M : Hm, opCmp .ne (.lst (bs.map D.str)) (.lst []) M = some (!decide (bs = []))
  rne : ∀ M : Hm, opCmp .ne (.lst (rs.map fun r => D.tup [.str r.1, .int r.2])) (.lst []) M = some (!decide (rs = []))
def Nms.wD (N : Nms) : D := .lst (N.ws.map D.str)
def Nms.bD (N : Nms) : D := .lst (N.bs.map D.str)
def Nms.rD (N : Nms) : D := .lst (N.rs.map fun r => D.tup [.str r.1, .int r.2])
theorem at_map {α : Type} {xs : List α} {f : α → D} {k : Int} (h0 : 0 ≤ k) (h1 : k < xs.length) : ∃ x ∈ xs, L2.atI (xs.map f) k = some (f x) := by
  obtain ⟨j, rfl⟩ : ∃ j : Nat, k = (j : Int) := ⟨k.toNat, by omega⟩
  refine ⟨xs[j]'(by omega), List.getElem_mem _, L2.atI_nat ?_⟩
  rw [List.getElem?_map, List.getElem?_eq_getElem (by omega)]
  rfl
theorem len_pos {α : Type} {xs : List α} (h : ¬ xs = []) : (0 : Int) < xs.length := by
  cases xs with
  | nil => exact absurd rfl h
  | cons x xs => simp
theorem dr_num {vs : List Va} {i : Int} {d : Nat} (h0 : 0 ≤ i) (h1 : i ≤ 255) : DrE vs .word d (.num i) := ⟨fun _ => rfl, by simp [Ex.deep], by
  have : 2 ^ 1 ≤ 2 ^ (d + 1) := Nat.pow_le_pow_right (by omega) (by omega)
  simpa [Ex.sz] using this, h0, h1⟩
theorem dr_tf {vs : List Va} {b : Bool} {d : Nat} : DrE vs .bit d (.tf b) := ⟨fun _ => rfl, by simp [Ex.deep], by
  have : 2 ^ 1 ≤ 2 ^ (d + 1) := Nat.pow_le_pow_right (by omega) (by omega)
  simpa [Ex.sz] using this, trivial⟩
theorem dr_var {vs : List Va} {x : Str} {r : Va} {d : Nat} {k : Ki} (hx : x ∈ okN) (h : findV vs x = some r) (hk : r.k = k) (hr : k ≠ .row) : DrE vs k d (.var x) := ⟨fun q => by
  subst hk
  show (match (match findV vs x with | some r => if r.k = Ki.row then none else some r.k | none => none) with | some t => Except.ok t | none => .error q) = _
  simp only [h, hr, if_false], by simp [Ex.deep], by
  have : 2 ^ 1 ≤ 2 ^ (d + 1) := Nat.pow_le_pow_right (by omega) (by omega)
  simpa [Ex.sz] using this, hx⟩
theorem dr_at {vs : List Va} {x : Str} {r : Va} {d : Nat} {e : Ex} (hx : x ∈ okN) (h : findV vs x = some r) (hk : r.k = .row) (he : DrE vs .word d e) : DrE vs .word (d + 1) (.at x e) := ⟨fun q => by
  show (match ty vs e (q ++ [0]) with
    | .error r => Except.error r
    | .ok t => match (match findV vs x with | some r => if r.k = Ki.row then (if [t] = [Ki.word] then some Ki.word else none) else none | none => none) with | some t => .ok t | none => .error q) = _
  simp only [he.ty, h, hk, if_true], by have := he.deep; simp [Ex.deep]; omega, by
  have := he.sz
  rw [Nat.pow_succ]
  simp only [Ex.sz]
  have h2 : 1 ≤ 2 ^ (d + 1) := Nat.one_le_two_pow
  omega, hx, he.nm⟩
theorem dr_at0 {vs : List Va} {x : Str} {r : Va} {d : Nat} {i : Int} (hx : x ∈ okN) (h : findV vs x = some r) (hk : r.k = .row) (h0 : 0 ≤ i) (h1 : i ≤ 255) (hd : 1 ≤ d) : DrE vs .word d (.at x (.num i)) := by
  obtain ⟨j, rfl⟩ : ∃ j, d = j + 1 := ⟨d - 1, by omega⟩
  exact dr_at hx h hk (dr_num h0 h1)
theorem dr_op {vs : List Va} {o : Op} {d : Nat} {a b : Ex} (ha : DrE vs o.due d a) (hb : DrE vs o.due d b) : DrE vs o.res (d + 1) (.op o a b) := ⟨fun q => by
  show (match ty vs a (q ++ [0]) with
    | .error r => Except.error r
    | .ok t => match ty vs b (q ++ [1]) with
      | .error r => .error r
      | .ok u => match (if [t, u].all (fun t => decide (t = o.due)) then some o.res else none) with | some t => .ok t | none => .error q) = _
  simp [ha.ty, hb.ty], by have := ha.deep; have := hb.deep; simp [Ex.deep]; omega, by
  have := ha.sz
  have := hb.sz
  rw [Nat.pow_succ]
  simp only [Ex.sz]
  omega, ha.nm, hb.nm⟩
theorem dr_no {vs : List Va} {d : Nat} {a : Ex} (ha : DrE vs .bit d a) : DrE vs .bit (d + 1) (.no a) := ⟨fun q => by
  show (match ty vs a (q ++ [0]) with
    | .error r => Except.error r
    | .ok t => match (if [t].all (fun t => decide (t = Ki.bit)) then some Ki.bit else none) with | some t => .ok t | none => .error q) = _
  simp [ha.ty], by have := ha.deep; simp [Ex.deep]; omega, by
  have := ha.sz
  rw [Nat.pow_succ]
  simp only [Ex.sz]
  have h2 : 1 ≤ 2 ^ (d + 1) := Nat.one_le_two_pow
  omega, ha.nm⟩
/-- one of a few, by a draw -/
theorem int_cases5 {k : Int} (h0 : 0 ≤ k) (h1 : k < 5) : k = 0 ∨ k = 1 ∨ k = 2 ∨ k = 3 ∨ k = 4 := by omega
theorem int_cases7 {k : Int} (h0 : 0 ≤ k) (h1 : k < 7) : k = 0 ∨ k = 1 ∨ k = 2 ∨ k = 3 ∨ k = 4 ∨ k = 5 ∨ k = 6 := by omega
theorem int_cases2 {k : Int} (h0 : 0 ≤ k) (h1 : k < 2) : k = 0 ∨ k = 1 := by omega

def wop : Int → Op := fun k => if k = 0 then .add else if k = 1 then .sub else if k = 2 then .and else if k = 3 then .or else .xor
variable {t : Nat}
theorem draw2N {deep : Nat} {m1 m2 : Int} {A B : Prop} {M : Hm} {Q : D → Hm → Prop} {E : Nat → D → Hm → Prop} {n : Nat} (ha : A = wp ((rt prg (n + 1)).call g__law_next [some (.ref t), some (.int m1)] [] M) Q E) (hb : B = wp ((rt prg (n + 1)).call g__law_next [some (.ref t), some (.int m2)] [] M) Q E) (h : Tape M t) (h1 : 0 < m2) (h2 : m2 ≤ m1) (h3 : m1 < 1000) (hq : ∀ (k : Int) (M' : Hm), 0 ≤ k → k < m1 → (k < m2 ∨ 1 ≤ deep) → Fr t M M' → Q (.int k) M') :
    if decide ((0 : Int) < (deep : Int)) = true then A else B := by
  rw [ha, hb]
  exact draw2 h h1 h2 h3 fun k M' a b c F => hq k M' a b (by
    by_cases hd : (0 : Int) < deep
    · exact Or.inr (by omega)
    · exact Or.inl (c hd)) F
theorem pick_sum {k : Int} (h0 : 0 ≤ k) (h1 : k < 5) : ∃ o : Op, o.due = .word ∧ o.res = .word ∧ L2.atI ([.str "add", .str "sub", .str "and", .str "or", .str "xor"] : List D) k = some (.str o.s) := by
  rcases int_cases5 h0 h1 with rfl | rfl | rfl | rfl | rfl
  · exact ⟨.add, rfl, rfl, atI_0⟩
  · exact ⟨.sub, rfl, rfl, atI_1⟩
  · exact ⟨.and, rfl, rfl, atI_2⟩
  · exact ⟨.or, rfl, rfl, atI_3⟩
  · exact ⟨.xor, rfl, rfl, atI_4⟩
theorem pick_num {k : Int} (h0 : 0 ≤ k) (h1 : k < 7) : ∃ i : Int, 0 ≤ i ∧ i ≤ 255 ∧ L2.atI ([.int 0, .int 1, .int 2, .int 3, .int 5, .int 200, .int 255] : List D) k = some (.int i) := by
  rcases int_cases7 h0 h1 with rfl | rfl | rfl | rfl | rfl | rfl | rfl
  · exact ⟨_, by decide, by decide, atI_0⟩
  · exact ⟨_, by decide, by decide, atI_1⟩
  · exact ⟨_, by decide, by decide, atI_2⟩
  · exact ⟨_, by decide, by decide, atI_3⟩
  · exact ⟨_, by decide, by decide, atI_4⟩
  · exact ⟨_, by decide, by decide, atI_5⟩
  · exact ⟨_, by decide, by decide, atI_6⟩
theorem word_wp (N : Nms) : ∀ (deep n : Nat) {M : Hm} {Q : D → Hm → Prop} {E : Nat → D → Hm → Prop}, deep + 2 ≤ n → Tape M t → (∀ (e : Ex) (M' : Hm), DrE N.vs .word deep e → Fr t M M' → Q e.d M') →
    wp ((rt prg n).call g__law_word [some (.ref t), some (.int (deep : Int)), some N.wD, some N.bD, some N.rD] [] M) Q E := by
  intro deep
  induction deep with
  | zero =>
    intro n M Q E hn h hq
    obtain ⟨m, rfl⟩ : ∃ m, n = m + 2 := ⟨n - 2, by omega⟩
    rw [call__law_word_5, wX_top]
    simp! only [b__law_word]
    refine next_wp h (by decide) (by decide) fun kd M1 h0 h1 F1 => ?_
    have two : wXs prg (rt prg (m + 1)) [] (b__law_word.drop 2) [some (.ref t), some (.int 0), some N.wD, some N.bD, some N.rD, some (.int kd), none, none, none, none] M1 (poTop Q E) := by
      simp! only [b__law_word, b__law_word_2, decide_eq_true h1]
      refine next_wp F1.tape (by decide) (by decide) fun k M2 k0 k1 F2 => ?_
      obtain ⟨i, i0, i1, ei⟩ := pick_num k0 k1
      simp! only [ei]
      exact hq (.num _) _ (dr_num i0 i1) (F1.trans F2)
    simp! only [b__law_word, Nms.wD, N.wne] at two
    simp! only [Nms.wD, N.wne]
    refine wif (fun h2 => ?_) (fun h2 => ?_)
    · simp! only [N.wne]
      refine wifn (fun hw => ?_) (fun hw => ?_)
      · simp! only [b__law_word_3, List.length_map]
        refine next_wp F1.tape (len_pos hw) (by have := N.len; omega) fun k M2 k0 k1 F2 => ?_
        obtain ⟨x, hx, ex⟩ := at_map (f := D.str) k0 k1
        obtain ⟨hx1, r, hr, hk⟩ := N.wOk x hx
        simp! only [ex]
        exact hq (.var x) _ (dr_var hx1 hr hk (by decide)) (F1.trans F2)
      · exact two
    · simp! only [wO_some]
      exact two
  | succ deep ih =>
    intro n M Q E hn h hq
    obtain ⟨m, rfl⟩ : ∃ m, n = m + 2 := ⟨n - 2, by omega⟩
    have hd : decide ((0 : Int) < ((deep + 1 : Nat) : Int)) = true := decide_eq_true (by omega)
    have e1 : ((deep + 1 : Nat) : Int) - 1 = (deep : Int) := by omega
    rw [call__law_word_5, wX_top]
    simp! only [b__law_word, hd]
    refine next_wp h (by decide) (by decide) fun kd M1 h0 h1 F1 => ?_
    have two : wXs prg (rt prg (m + 1)) [] (b__law_word.drop 4) [some (.ref t), some (.int ((deep + 1 : Nat) : Int)), some N.wD, some N.bD, some N.rD, some (.int kd), none, none, none, none] M1 (poTop Q E) := by
      simp! only [b__law_word]
      refine next_wp F1.tape (by decide) (by decide) fun k M2 k0 k1 F2 => ?_
      obtain ⟨o, o1, o2, eo⟩ := pick_sum k0 k1
      simp! only [b__law_word, e1, eo]
      refine ih (m + 1) (by omega) F2.tape fun e M3 D3 F3 => ?_
      simp! only [e1]
      refine ih (m + 1) (by omega) F3.tape fun e' M4 D4 F4 => ?_
      simp! only [wO_some]
      exact hq (.op o e e') _ (o2 ▸ dr_op (o1 ▸ D3) (o1 ▸ D4)) (((F1.trans F2).trans F3).trans F4)
    have row : ¬ N.rs = [] → wXs prg (rt prg (m + 1)) [] b__law_word_1 [some (.ref t), some (.int ((deep + 1 : Nat) : Int)), some N.wD, some N.bD, some N.rD, some (.int kd), none, none, none, none] M1 (poSeq prg (rt prg (m + 1)) [] (b__law_word.drop 4) (poTop Q E)) := by
      intro hr
      simp! only [b__law_word_1, Nms.rD, List.length_map]
      refine next_wp F1.tape (len_pos hr) (by have := N.len; omega) fun k M2 k0 k1 F2 => ?_
      obtain ⟨x, hx, ex⟩ := at_map (f := fun r : Str × Int => D.tup [.str r.1, .int r.2]) k0 k1
      obtain ⟨hx1, hx2, hx3, r, hr, hk⟩ := N.rOk x hx
      simp! only [ex]
      refine next_wp F2.tape (by decide) (by decide) fun k M3 k0 k1 F3 => ?_
      simp! only [wO_some]
      refine wif (fun hk0 => ?_) (fun hk0 => ?_)
      · refine next_wp F3.tape hx2 (by omega) fun k M4 k0 k1 F4 => ?_
        simp! only [wO_some]
        exact hq (.at x.1 (.num k)) _ (dr_at hx1 hr hk (dr_num k0 (by omega))) (((F1.trans F2).trans F3).trans F4)
      · simp! only [e1]
        refine ih (m + 1) (by omega) F3.tape fun e M4 D4 F4 => ?_
        simp! only [wO_some]
        exact hq (.at x.1 e) _ (dr_at hx1 hr hk D4) (((F1.trans F2).trans F3).trans F4)
    have late : ¬ (kd < 2 ∧ ¬ N.ws = []) → wXs prg (rt prg (m + 1)) [] (b__law_word.drop 2) [some (.ref t), some (.int ((deep + 1 : Nat) : Int)), some N.wD, some N.bD, some N.rD, some (.int kd), none, none, none, none] M1 (poTop Q E) := by
      intro hn2
      simp! only [b__law_word, N.rne, Nms.wD, Nms.rD, Nms.bD] at two
      simp! only [b__law_word, N.rne, Nms.wD, Nms.rD, Nms.bD] at row
      simp! only [b__law_word, N.rne, Nms.wD, Nms.rD, Nms.bD]
      refine wif (fun h3 => ?_) (fun h3 => ?_)
      · simp! only [b__law_word_2]
        refine next_wp F1.tape (by decide) (by decide) fun k M2 k0 k1 F2 => ?_
        obtain ⟨i, i0, i1, ei⟩ := pick_num k0 k1
        simp! only [ei]
        exact hq (.num _) _ (dr_num i0 i1) (F1.trans F2)
      · refine wif (fun h5 => ?_) (fun h5 => two)
        exact wifn (fun hr => row hr) (fun hr => two)
    simp! only [b__law_word, N.wne, Nms.wD, Nms.rD, Nms.bD] at late
    simp! only [N.wne, Nms.wD, Nms.rD, Nms.bD]
    refine wif (fun h2 => wifn (fun hw => ?_) (fun hw => late fun z => z.2 hw)) (fun h2 => late fun z => h2 z.1)
    simp! only [b__law_word_3, List.length_map]
    refine next_wp F1.tape (len_pos hw) (by have := N.len; omega) fun k M2 k0 k1 F2 => ?_
    obtain ⟨x, hx, ex⟩ := at_map (f := D.str) k0 k1
    obtain ⟨hx1, r, hr, hk⟩ := N.wOk x hx
    simp! only [ex]
    exact hq (.var x) _ (dr_var hx1 hr hk (by decide)) (F1.trans F2)
end
/-! K05m9: draws of bits, blocks. -/
section
open PySem
variable {t : Nat}
theorem pick_tf {k : Int} (h0 : 0 ≤ k) (h1 : k < 2) : ∃ b : Bool, L2.atI ([.str "true", .str "false"] : List D) k = some (.str (tfS b)) := by
  rcases int_cases2 h0 h1 with rfl | rfl
  · exact ⟨true, atI_0⟩
  · exact ⟨false, atI_1⟩
theorem pick_ls {k : Int} (h0 : 0 ≤ k) (h1 : k < 2) : ∃ o : Op, o.due = .word ∧ o.res = .bit ∧ L2.atI ([.str "less", .str "same"] : List D) k = some (.str o.s) := by
  rcases int_cases2 h0 h1 with rfl | rfl
  · exact ⟨.less, rfl, rfl, atI_0⟩
  · exact ⟨.same, rfl, rfl, atI_1⟩
theorem pick_be {k : Int} (h0 : 0 ≤ k) (h1 : k < 2) : ∃ o : Op, o.due = .bit ∧ o.res = .bit ∧ L2.atI ([.str "both", .str "either"] : List D) k = some (.str o.s) := by
  rcases int_cases2 h0 h1 with rfl | rfl
  · exact ⟨.both, rfl, rfl, atI_0⟩
  · exact ⟨.either, rfl, rfl, atI_1⟩
theorem bit_wp (N : Nms) : ∀ (deep n : Nat) {M : Hm} {Q : D → Hm → Prop} {E : Nat → D → Hm → Prop}, deep + 2 ≤ n → Tape M t → (∀ (e : Ex) (M' : Hm), DrE N.vs .bit deep e → Fr t M M' → Q e.d M') →
    wp ((rt prg n).call g__law_bit [some (.ref t), some (.int (deep : Int)), some N.wD, some N.bD, some N.rD] [] M) Q E := by
  intro deep
  induction deep with
  | zero =>
    intro n M Q E hn h hq
    obtain ⟨m, rfl⟩ : ∃ m, n = m + 2 := ⟨n - 2, by omega⟩
    rw [call__law_bit_5, wX_top]
    simp! only [b__law_bit]
    refine next_wp h (by decide) (by decide) fun kd M1 h0 h1 F1 => ?_
    have two : wXs prg (rt prg (m + 1)) [] (b__law_bit.drop 2) [some (.ref t), some (.int 0), some N.wD, some N.bD, some N.rD, some (.int kd)] M1 (poTop Q E) := by
      simp! only [b__law_bit, b__law_bit_3, decide_eq_true h1]
      refine next_wp F1.tape (by decide) (by decide) fun k M2 k0 k1 F2 => ?_
      obtain ⟨b, eb⟩ := pick_tf k0 k1
      simp! only [eb]
      exact hq (.tf _) _ dr_tf (F1.trans F2)
    simp! only [b__law_bit, Nms.bD, N.bne] at two
    simp! only [Nms.bD, N.bne]
    refine wif (fun h2 => wifn (fun hw => ?_) (fun hw => two)) (fun h2 => two)
    simp! only [b__law_bit_4, List.length_map]
    refine next_wp F1.tape (len_pos hw) (by have := N.len; omega) fun k M2 k0 k1 F2 => ?_
    obtain ⟨x, hx, ex⟩ := at_map (f := D.str) k0 k1
    obtain ⟨hx1, r, hr, hk⟩ := N.bOk x hx
    simp! only [ex]
    exact hq (.var x) _ (dr_var hx1 hr hk (by decide)) (F1.trans F2)
  | succ deep ih =>
    intro n M Q E hn h hq
    obtain ⟨m, rfl⟩ : ∃ m, n = m + 2 := ⟨n - 2, by omega⟩
    have hd : decide ((0 : Int) < ((deep + 1 : Nat) : Int)) = true := decide_eq_true (by omega)
    have e1 : ((deep + 1 : Nat) : Int) - 1 = (deep : Int) := by omega
    rw [call__law_bit_5, wX_top]
    simp! only [b__law_bit, hd]
    refine next_wp h (by decide) (by decide) fun kd M1 h0 h1 F1 => ?_
    have late : wXs prg (rt prg (m + 1)) [] (b__law_bit.drop 2) [some (.ref t), some (.int ((deep + 1 : Nat) : Int)), some N.wD, some N.bD, some N.rD, some (.int kd)] M1 (poTop Q E) := by
      simp! only [b__law_bit]
      refine wif (fun h2 => ?_) (fun h2 => wif (fun h3 => ?_) fun h3 => wif (fun h4 => ?_) fun h4 => ?_)
      · simp! only [b__law_bit_3]
        refine next_wp F1.tape (by decide) (by decide) fun k M2 k0 k1 F2 => ?_
        obtain ⟨b, eb⟩ := pick_tf k0 k1
        simp! only [eb]
        exact hq (.tf _) _ dr_tf (F1.trans F2)
      · simp! only [b__law_bit_2]
        refine next_wp F1.tape (by decide) (by decide) fun k M2 k0 k1 F2 => ?_
        obtain ⟨o, o1, o2, eo⟩ := pick_ls k0 k1
        simp! only [e1, eo]
        refine word_wp N deep (m + 1) (by omega) F2.tape fun e M3 D3 F3 => ?_
        simp! only [e1]
        refine word_wp N deep (m + 1) (by omega) F3.tape fun e' M4 D4 F4 => ?_
        simp! only [wO_some]
        exact hq (.op o e e') _ (o2 ▸ dr_op (o1 ▸ D3) (o1 ▸ D4)) (((F1.trans F2).trans F3).trans F4)
      · simp! only [b__law_bit_1, e1]
        refine ih (m + 1) (by omega) F1.tape fun e M3 D3 F3 => ?_
        simp! only [wO_some]
        exact hq (.no e) _ (dr_no D3) (F1.trans F3)
      · simp! only [e1]
        refine next_wp F1.tape (by decide) (by decide) fun k M2 k0 k1 F2 => ?_
        obtain ⟨o, o1, o2, eo⟩ := pick_be k0 k1
        simp! only [e1, eo]
        refine ih (m + 1) (by omega) F2.tape fun e M3 D3 F3 => ?_
        simp! only [e1]
        refine ih (m + 1) (by omega) F3.tape fun e' M4 D4 F4 => ?_
        simp! only [wO_some]
        exact hq (.op o e e') _ (o2 ▸ dr_op (o1 ▸ D3) (o1 ▸ D4)) (((F1.trans F2).trans F3).trans F4)
    simp! only [b__law_bit, N.bne, Nms.wD, Nms.rD, Nms.bD] at late
    simp! only [N.bne, Nms.wD, Nms.rD, Nms.bD]
    refine wif (fun h2 => wifn (fun hw => ?_) (fun hw => late)) (fun h2 => late)
    simp! only [b__law_bit_4, List.length_map]
    refine next_wp F1.tape (len_pos hw) (by have := N.len; omega) fun k M2 k0 k1 F2 => ?_
    obtain ⟨x, hx, ex⟩ := at_map (f := D.str) k0 k1
    obtain ⟨hx1, r, hr, hk⟩ := N.bOk x hx
    simp! only [ex]
    exact hq (.var x) _ (dr_var hx1 hr hk (by decide)) (F1.trans F2)
end
/-! K05m10: draws of blocks. -/
section
open PySem
variable {t : Nat}
theorem Tape.lt {M : Hm} (h : Tape M t) : t < M.length := by
  obtain ⟨_, _, _, _, e, _⟩ := h
  exact (List.getElem?_eq_some_iff.mp e).1
theorem Fr.refl {M : Hm} (h : Tape M t) : Fr t M M := ⟨Nat.le_refl _, fun _ _ _ => rfl, h⟩
theorem Tape.app {M X : Hm} (h : Tape M t) : Tape (M ++ X) t := by
  have hl := h.lt
  obtain ⟨a, b, c, d, e, h1, h2⟩ := h
  exact ⟨a, b, c, d, by rw [List.getElem?_append_left hl]; exact e, h1, h2⟩
theorem Fr.app {M X : Hm} (h : Tape M t) : Fr t M (M ++ X) := ⟨by simp, fun i hi _ => List.getElem?_append_left hi, h.app⟩
def Ex.ok (e : Ex) : Prop := e.deep ≤ 6 ∧ e.sz ≤ 24 ∧ e.Nm
def Sts.ofL : List St → Sts
  | [] => .nil
  | s :: l => .cons s (Sts.ofL l)
def Sts.toL : Sts → List St
  | .nil => []
  | .cons s r => s :: r.toL
theorem ofL_toL : ∀ b : Sts, Sts.ofL b.toL = b
  | .nil => rfl
  | .cons s r => by show Sts.cons s (Sts.ofL r.toL) = _; rw [ofL_toL r]
theorem ofL_ds : ∀ l : List St, (Sts.ofL l).ds = l.map St.d
  | [] => rfl
  | s :: l => by show s.d :: (Sts.ofL l).ds = _; rw [ofL_ds l]; rfl
theorem ofL_len : ∀ l : List St, (Sts.ofL l).len = l.length
  | [] => rfl
  | s :: l => by show (Sts.ofL l).len + 1 = _; rw [ofL_len l]; rfl
mutual
/-- is a statement, with so many more about it -/
def St.ok : Nat → St → Prop
  | _, .set x e => x ∈ okN ∧ e.ok
  | _, .put x a e => x ∈ okN ∧ a.ok ∧ e.ok
  | n, .iff c a b => c.ok ∧ 1 ≤ n ∧ a.len ≤ 12 ∧ b.len ≤ 12 ∧ a.ok (n - 1) ∧ b.ok (n - 1)
  | n, .whl c a => c.ok ∧ 1 ≤ n ∧ a.len ≤ 12 ∧ a.ok (n - 1)
  | _, .call x => x ∈ okN
  | _, .stop => True
  | _, .shw e => e.ok
def Sts.ok : Nat → Sts → Prop
  | _, .nil => True
  | n, .cons s r => s.ok n ∧ r.ok n
end
mutual
def St.cnt : St → Nat
  | .iff _ a b => 1 + (a.cnt + b.cnt)
  | .whl _ a => 1 + a.cnt
  | _ => 1
def Sts.cnt : Sts → Nat
  | .nil => 0
  | .cons s r => s.cnt + r.cnt
end
def cntM : Nat → Nat
  | 0 => 1
  | d + 1 => 1 + 3 * cntM d
structure GoodS (vs : List Va) (bs : List (Option Str)) (d : Nat) (s : St) : Prop where
  own : stF vs bs s = none
  inn : ∀ q k, inF vs bs q k s = none
  ok : s.ok d
  cnt : s.cnt ≤ cntM d
theorem cntM_pos (d : Nat) : 1 ≤ cntM d := by cases d <;> simp [cntM]
variable {vs : List Va} {bs : List (Option Str)}
theorem ofL_fit {d : Nat} : ∀ {l : List St}, (∀ s ∈ l, GoodS vs bs d s) → ∀ q k, blF vs bs q k (Sts.ofL l) = none
  | [], _, q, k => by cases k <;> rfl
  | s :: l, h, q, k => by
    have hs := h s List.mem_cons_self
    show (match stF vs bs s with
      | some f => some (.tup [pathD (q ++ [k]), f])
      | none => match inF vs bs q k s with
        | some f => some f
        | none => blF vs bs q (k + 1) (Sts.ofL l)) = none
    rw [hs.own, hs.inn q k]
    exact ofL_fit (fun s hs => h s (List.mem_cons_of_mem _ hs)) q (k + 1)
theorem ofL_ok {d : Nat} : ∀ {l : List St}, (∀ s ∈ l, s.ok d) → (Sts.ofL l).ok d
  | [], _ => trivial
  | s :: l, h => ⟨h s List.mem_cons_self, ofL_ok fun s hs => h s (List.mem_cons_of_mem _ hs)⟩
theorem ofL_cnt {c : Nat} : ∀ {l : List St}, (∀ s ∈ l, s.cnt ≤ c) → (Sts.ofL l).cnt ≤ l.length * c
  | [], _ => Nat.zero_le _
  | s :: l, h => by
    have h1 := h s List.mem_cons_self
    have h2 := ofL_cnt fun s hs => h s (List.mem_cons_of_mem _ hs)
    show s.cnt + (Sts.ofL l).cnt ≤ (l.length + 1) * c
    rw [Nat.add_mul]
    omega
theorem DrE.ok {k : Ki} {d : Nat} {e : Ex} (h : DrE vs k d e) (hd : d ≤ 3) : e.ok := ⟨by have := h.deep; omega, by
  have h1 := h.sz
  have : 2 ^ (d + 1) ≤ 2 ^ 4 := Nat.pow_le_pow_right (by omega) (by omega)
  omega, h.nm⟩
theorem ty_parts1 {k : Ki} {d : Nat} {e : Ex} (h : DrE vs k d e) : partsF vs 0 [e] [k] = none := by
  show (match ty vs e [] with
    | .error z => some (D.tup [.str "part", .int ((0 : Nat) : Int), pathD z])
    | .ok t => if t = k then partsF vs 1 [] [] else some (.tup [.str "type", .int ((0 : Nat) : Int)])) = none
  simp only [h.ty, if_true]
  rfl
theorem ty_parts2 {k k' : Ki} {d : Nat} {e e' : Ex} (h : DrE vs k d e) (h' : DrE vs k' d e') : partsF vs 0 [e, e'] [k, k'] = none := by
  show (match ty vs e [] with
    | .error z => some (D.tup [.str "part", .int ((0 : Nat) : Int), pathD z])
    | .ok t => if t = k then partsF vs 1 [e'] [k'] else some (.tup [.str "type", .int ((0 : Nat) : Int)])) = none
  simp only [h.ty, if_true]
  show (match ty vs e' [] with
    | .error z => some (D.tup [.str "part", .int ((1 : Nat) : Int), pathD z])
    | .ok t => if t = k' then partsF vs 2 [] [] else some (.tup [.str "type", .int ((1 : Nat) : Int)])) = none
  simp only [h'.ty, if_true]
  rfl
theorem good_set {x : Str} {r : Va} {k : Ki} {e : Ex} {d d2 : Nat} (hx : x ∈ okN) (h : findV vs x = some r) (hk : r.k = k) (hr : k ≠ .row) (he : DrE vs k d2 e) (h2 : d2 ≤ 3) : GoodS vs bs d (.set x e) := ⟨by
  show (match findV vs x with | some r => if r.k = .row then some (.tup [.str "name", .str x]) else partsF vs 0 [e] [r.k] | none => some (.tup [.str "name", .str x])) = none
  simp only [h, hk, hr, if_false]
  exact ty_parts1 he, fun _ _ => rfl, ⟨hx, he.ok h2⟩, cntM_pos d⟩
theorem good_put {x : Str} {r : Va} {a e : Ex} {d d2 : Nat} (hx : x ∈ okN) (h : findV vs x = some r) (hk : r.k = .row) (ha : DrE vs .word d2 a) (he : DrE vs .word d2 e) (h2 : d2 ≤ 3) : GoodS vs bs d (.put x a e) := ⟨by
  show (match findV vs x with | some r => if r.k = .row then partsF vs 0 [a, e] [.word, .word] else some (.tup [.str "name", .str x]) | none => some (.tup [.str "name", .str x])) = none
  simp only [h, hk, if_true]
  exact ty_parts2 ha he, fun _ _ => rfl, ⟨hx, ha.ok h2, he.ok h2⟩, cntM_pos d⟩
theorem good_shw {e : Ex} {d d2 : Nat} (he : DrE vs .word d2 e) (h2 : d2 ≤ 3) : GoodS vs bs d (.shw e) := ⟨ty_parts1 he, fun _ _ => rfl, he.ok h2, cntM_pos d⟩
theorem good_stop {d : Nat} : GoodS vs bs d .stop := ⟨rfl, fun _ _ => rfl, trivial, cntM_pos d⟩
theorem good_call {x : Str} {d : Nat} (hx : x ∈ okN) (h : some x ∈ bs) : GoodS vs bs d (.call x) := ⟨by
  show (if some x ∈ bs then none else some _) = none
  rw [if_pos h], fun _ _ => rfl, hx, cntM_pos d⟩
theorem good_if {c : Ex} {a b : List St} {d d2 : Nat} (hc : DrE vs .bit d2 c) (h2 : d2 ≤ 3) (ha : ∀ s ∈ a, GoodS vs bs d s) (la : a.length ≤ 2) (hb : ∀ s ∈ b, GoodS vs bs d s) (lb : b.length ≤ 1) : GoodS vs bs (d + 1) (.iff c (Sts.ofL a) (Sts.ofL b)) := ⟨ty_parts1 hc, fun q k => by
  show (match blF vs bs (q ++ [k, 0]) 0 (Sts.ofL a) with | some f => some f | none => blF vs bs (q ++ [k, 1]) 0 (Sts.ofL b)) = none
  rw [ofL_fit ha]
  exact ofL_fit hb _ _, ⟨hc.ok h2, by omega, by rw [ofL_len]; omega, by rw [ofL_len]; omega, ofL_ok fun s hs => (ha s hs).ok, ofL_ok fun s hs => (hb s hs).ok⟩, by
  have h1 := ofL_cnt fun s hs => (ha s hs).cnt
  have h3 := ofL_cnt fun s hs => (hb s hs).cnt
  have h4 : a.length * cntM d ≤ 2 * cntM d := Nat.mul_le_mul_right _ la
  have h5 : b.length * cntM d ≤ 1 * cntM d := Nat.mul_le_mul_right _ lb
  show 1 + ((Sts.ofL a).cnt + (Sts.ofL b).cnt) ≤ 1 + 3 * cntM d
  omega⟩
theorem good_whl {c : Ex} {a : List St} {d d2 : Nat} (hc : DrE vs .bit d2 c) (h2 : d2 ≤ 3) (ha : ∀ s ∈ a, GoodS vs bs d s) (la : a.length ≤ 2) : GoodS vs bs (d + 1) (.whl c (Sts.ofL a)) := ⟨ty_parts1 hc, fun q k => ofL_fit ha _ _, ⟨hc.ok h2, by omega, by rw [ofL_len]; omega, ofL_ok fun s hs => (ha s hs).ok⟩, by
  have h1 := ofL_cnt fun s hs => (ha s hs).cnt
  have h4 : a.length * cntM d ≤ 2 * cntM d := Nat.mul_le_mul_right _ la
  show 1 + (Sts.ofL a).cnt ≤ 1 + 3 * cntM d
  omega⟩
structure BInv (t f : Nat) (M0 M : Hm) (acc : List St) : Prop where
  len : M0.length ≤ f
  at' : M[f]? = some (.lst (acc.map St.d))
  tape : Tape M t
  ne : f ≠ t
  old : ∀ i, i < M0.length → i ≠ t → M[i]? = M0[i]?
theorem BInv.fr {f : Nat} {M0 M M' : Hm} {acc : List St} (h : BInv t f M0 M acc) (F : Fr t M M') : BInv t f M0 M' acc := by
  have hf := (List.getElem?_eq_some_iff.mp h.at').1
  exact ⟨h.len, by rw [F.old f hf h.ne]; exact h.at', F.tape, h.ne, fun i hi hne => by rw [F.old i (by have := h.len; omega) hne]; exact h.old i hi hne⟩
theorem BInv.add {f : Nat} {M0 M : Hm} {acc : List St} (h : BInv t f M0 M acc) (s : St) : BInv t f M0 (M.set f (.lst (acc.map St.d ++ [s.d]))) (acc ++ [s]) := by
  have hf := (List.getElem?_eq_some_iff.mp h.at').1
  refine ⟨h.len, by rw [List.getElem?_set_self hf, List.map_append]; rfl, ?_, h.ne, fun i hi hne => ?_⟩
  · obtain ⟨a, b, c, d, e, h1, h2⟩ := h.tape
    exact ⟨a, b, c, d, by rw [List.getElem?_set_ne h.ne]; exact e, h1, h2⟩
  · rw [List.getElem?_set_ne (by have := h.len; omega)]
    exact h.old i hi hne
theorem BInv.out {f : Nat} {M0 M : Hm} {acc : List St} (h : BInv t f M0 M acc) : Fr t M0 M := ⟨by
  have hf := (List.getElem?_eq_some_iff.mp h.at').1
  have := h.len
  omega, h.old, h.tape⟩
end
/-! K05m11: draws of blocks, the walk. -/
section
open PySem
variable {t : Nat}
structure Prcs (bs : List (Option Str)) where
  ps : List Str
  ok : ∀ x ∈ ps, x ∈ okN ∧ some x ∈ bs
  len : ps.length ≤ 10
  ne : ∀ M : Hm, opCmp .ne (.lst (ps.map D.str)) (.lst []) M = some (!decide (ps = []))
def BlkSpec (t : Nat) (N : Nms) {bs : List (Option Str)} (pr : Prcs bs) (deep : Nat) : Prop := ∀ (n : Nat) {many : Int} {M : Hm} {Q : D → Hm → Prop} {E : Nat → D → Hm → Prop}, deep + 6 ≤ n → 0 ≤ many → many ≤ 100 → Tape M t →
    (∀ (l : List St) (M' : Hm), (∀ s ∈ l, GoodS N.vs bs deep s) → l.length ≤ many.toNat → Fr t M M' → Q (.tup (l.map St.d)) M') →
    wp ((rt prg n).call g__law_block [some (.ref t), some (.int many), some (.int (deep : Int)), some (.tup [N.wD, N.bD, N.rD]), some (.lst (pr.ps.map D.str))] [] M) Q E
abbrev blkσ (t f : Nat) (many deep : Int) (N : Nms) (ps : List Str) (o9 o10 o11 o12 o13 : Option D) : Env := [some (.ref t), some (.int many), some (.int deep), some (.tup [N.wD, N.bD, N.rD]), some (.lst (ps.map D.str)), some N.wD, some N.bD, some N.rD, some (.ref f), o9, o10, o11, o12, o13]
theorem block_step (N : Nms) {bs : List (Option Str)} (pr : Prcs bs) (deep : Nat) (ih : ∀ d, deep = d + 1 → BlkSpec t N pr d) : BlkSpec t N pr deep := by
  intro n many M Q E hn hm0 hm h hq
  obtain ⟨m, rfl⟩ : ∃ m, n = m + 2 := ⟨n - 2, by omega⟩
  rw [call__law_block_5, wX_top]
  simp! only [b__law_block]
  refine next_wp (Tape.app h) (by omega) (by omega) fun k M1 k0 k1 F1 => ?_
  simp! only [wO_some]
  refine ⟨by omega, ?_⟩
  have I0 : BInv t M.length M M1 [] := by
    have ht := h.lt
    exact ⟨Nat.le_refl _, by rw [F1.old _ (by simp) (by omega)]; exact app_at, F1.tape, by omega, fun i hi hne => by rw [F1.old i (by simp; omega) hne, List.getElem?_append_left hi]⟩
  have hlen : (rngD 0 k.toNat).length ≤ many.toNat := by unfold rngD; rw [List.length_map, List.length_range]; omega
  -- the loop, from any state on
  have loop : ∀ (ds : List D) (acc : List St) (M' : Hm) (o9 o10 o11 o12 o13 : Option D), (∀ s ∈ acc, GoodS N.vs bs deep s) → acc.length + ds.length ≤ many.toNat → BInv t M.length M M' acc →
      wFor prg (rt prg (m + 1)) [] (.nm 9) b__law_block_15 ds (blkσ t M.length many deep N pr.ps o9 o10 o11 o12 o13) M' (poSeq prg (rt prg (m + 1)) [] (b__law_block.drop 3) (poTop Q E)) := by
    intro ds
    induction ds with
    | nil =>
      intro acc M' o9 o10 o11 o12 o13 hg hl I
      simp! only [b__law_block, I.at']
      exact hq acc M' hg (by simpa using hl) I.out
    | cons d ds ihd =>
      intro acc M' o9 o10 o11 o12 o13 hg hl I
      simp only [List.length_cons] at hl
      simp only [wFor_cons]
      simp! only [b__law_block_15]
      refine next_wp I.tape (by decide) (by decide) fun kd M2 kd0 kd1 F2 => ?_
      have I2 := I.fr F2
      have cont : ∀ (s : St) (M3 : Hm) (o11 o12 o13 : Option D), GoodS N.vs bs deep s → BInv t M.length M M3 (acc ++ [s]) → wFor prg (rt prg (m + 1)) [] (.nm 9) b__law_block_15 ds (blkσ t M.length many deep N pr.ps (some d) (some (.int kd)) o11 o12 o13) M3 (poSeq prg (rt prg (m + 1)) [] (b__law_block.drop 3) (poTop Q E)) := by
        intro s M3 o11 o12 o13 gs I3
        refine ihd (acc ++ [s]) M3 _ _ _ _ _ (fun s' hs' => ?_) (by rw [List.length_append]; simp; omega) I3
        rcases List.mem_append.mp hs' with hs' | hs'
        · exact hg s' hs'
        · rw [List.mem_singleton.mp hs']; exact gs
      have hacc : acc.length ≤ 16777215 := by omega
      let C : Po → Prop := fun p => ∀ (s : St) (M3 : Hm) (o11 o12 o13 : Option D), GoodS N.vs bs deep s → BInv t M.length M M3 (acc ++ [s]) → p.N (blkσ t M.length many deep N pr.ps (some d) (some (.int kd)) o11 o12 o13) M3
      have seq : ∀ p, C p → C (poSeq prg (rt prg (m + 1)) [] .nil p) := fun p hp s M3 a b c g J => hp s M3 a b c g J
      have lw := N.len
      have L1 : ∀ p, C p → ¬ N.ws = [] → wXs prg (rt prg (m + 1)) [] b__law_block_1 (blkσ t M.length many deep N pr.ps (some d) (some (.int kd)) o11 o12 o13) M2 p := by
        intro p hp hw
        simp! only [b__law_block_1, I2.at', Nms.wD, List.length_map]
        refine next_wp F2.tape (len_pos hw) (by omega) fun k M3 k0 k1 F3 => ?_
        obtain ⟨x, hx, ex⟩ := at_map (f := D.str) k0 k1
        obtain ⟨hx1, r, hr, hk⟩ := N.wOk x hx
        simp! only [ex]
        refine word_wp N 2 (m + 1) (by omega) F3.tape fun e M4 D4 F4 => ?_
        have J := (I2.fr F3).fr F4
        simp! only [J.at', List.length_map]
        exact ⟨hacc, hp (.set x e) _ _ _ _ (good_set hx1 hr hk (by decide) D4 (by decide)) (J.add (.set x e))⟩
      have L2 : ∀ p, C p → ¬ N.bs = [] → wXs prg (rt prg (m + 1)) [] b__law_block_2 (blkσ t M.length many deep N pr.ps (some d) (some (.int kd)) o11 o12 o13) M2 p := by
        intro p hp hw
        simp! only [b__law_block_2, I2.at', Nms.bD, List.length_map]
        refine next_wp F2.tape (len_pos hw) (by omega) fun k M3 k0 k1 F3 => ?_
        obtain ⟨x, hx, ex⟩ := at_map (f := D.str) k0 k1
        obtain ⟨hx1, r, hr, hk⟩ := N.bOk x hx
        simp! only [ex]
        refine bit_wp N 2 (m + 1) (by omega) F3.tape fun e M4 D4 F4 => ?_
        have J := (I2.fr F3).fr F4
        simp! only [J.at', List.length_map]
        exact ⟨hacc, hp (.set x e) _ _ _ _ (good_set hx1 hr hk (by decide) D4 (by decide)) (J.add (.set x e))⟩
      have L3 : ∀ p, C p → ¬ N.rs = [] → wXs prg (rt prg (m + 1)) [] b__law_block_3 (blkσ t M.length many deep N pr.ps (some d) (some (.int kd)) o11 o12 o13) M2 p := by
        intro p hp hw
        simp! only [b__law_block_3, I2.at', Nms.rD, List.length_map]
        refine next_wp F2.tape (len_pos hw) (by omega) fun k M3 k0 k1 F3 => ?_
        obtain ⟨x, hx, ex⟩ := at_map (f := fun r : Str × Int => D.tup [.str r.1, .int r.2]) k0 k1
        obtain ⟨hx1, hx2, hx3, r, hr, hk⟩ := N.rOk x hx
        simp! only [ex]
        refine next_wp F3.tape (by decide) (by decide) fun k M4 k0 k1 F4 => ?_
        simp! only [wO_some]
        have J := (I2.fr F3).fr F4
        refine wif (fun hk0 => ?_) (fun hk0 => ?_)
        · refine next_wp F4.tape hx2 (by omega) fun k M5 k0 k1 F5 => ?_
          have J := J.fr F5
          simp! only [J.at', isLstO]
          refine word_wp N 1 (m + 1) (by omega) F5.tape fun e M6 D6 F6 => ?_
          have J := J.fr F6
          simp! only [J.at', List.length_map]
          exact ⟨hacc, hp (.put x.1 (.num k) e) _ _ _ _ (good_put hx1 hr hk (dr_num k0 (by omega)) D6 (by decide)) (J.add (.put x.1 (.num k) e))⟩
        · refine word_wp N 1 (m + 1) (by omega) F4.tape fun a M5 D5 F5 => ?_
          have J := J.fr F5
          simp! only [J.at', isLstO]
          refine word_wp N 1 (m + 1) (by omega) F5.tape fun e M6 D6 F6 => ?_
          have J := J.fr F6
          simp! only [J.at', List.length_map]
          exact ⟨hacc, hp (.put x.1 a e) _ _ _ _ (good_put hx1 hr hk D5 D6 (by decide)) (J.add (.put x.1 a e))⟩
      have L4 : ∀ p, C p → 1 ≤ deep → wXs prg (rt prg (m + 1)) [] b__law_block_4 (blkσ t M.length many deep N pr.ps (some d) (some (.int kd)) o11 o12 o13) M2 p := by
        intro p hp hd
        obtain ⟨d', rfl⟩ : ∃ d', deep = d' + 1 := ⟨deep - 1, by omega⟩
        have e1 : ((d' + 1 : Nat) : Int) - 1 = (d' : Int) := by omega
        simp! only [b__law_block_4, I2.at', e1]
        refine bit_wp N 2 (m + 1) (by omega) F2.tape fun c M3 D3 F3 => ?_
        simp! only [e1]
        refine ih d' rfl (m + 1) (by omega) (by decide) (by decide) F3.tape fun a M4 ga la F4 => ?_
        simp! only [e1]
        refine ih d' rfl (m + 1) (by omega) (by decide) (by decide) F4.tape fun b M5 gb lb F5 => ?_
        have J := ((I2.fr F3).fr F4).fr F5
        simp! only [J.at', List.length_map]
        refine ⟨hacc, ?_⟩
        have := hp (.iff c (Sts.ofL a) (Sts.ofL b)) _ o11 o12 o13 (good_if D3 (by decide) ga la gb lb) (J.add _)
        have e : St.d (.iff c (Sts.ofL a) (Sts.ofL b)) = .tup [.str "if", c.d, .tup (a.map St.d), .tup (b.map St.d)] := by rw [← ofL_ds, ← ofL_ds]; rfl
        rw [e] at this
        exact this
      have L5 : ∀ p, C p → 1 ≤ deep → wXs prg (rt prg (m + 1)) [] b__law_block_5 (blkσ t M.length many deep N pr.ps (some d) (some (.int kd)) o11 o12 o13) M2 p := by
        intro p hp hd
        obtain ⟨d', rfl⟩ : ∃ d', deep = d' + 1 := ⟨deep - 1, by omega⟩
        have e1 : ((d' + 1 : Nat) : Int) - 1 = (d' : Int) := by omega
        simp! only [b__law_block_5, I2.at', e1]
        refine bit_wp N 2 (m + 1) (by omega) F2.tape fun c M3 D3 F3 => ?_
        simp! only [e1]
        refine ih d' rfl (m + 1) (by omega) (by decide) (by decide) F3.tape fun a M4 ga la F4 => ?_
        have J := (I2.fr F3).fr F4
        simp! only [J.at', List.length_map]
        refine ⟨hacc, ?_⟩
        have := hp (.whl c (Sts.ofL a)) _ o11 o12 o13 (good_whl D3 (by decide) ga la) (J.add _)
        have e : St.d (.whl c (Sts.ofL a)) = .tup [.str "while", c.d, .tup (a.map St.d)] := by rw [← ofL_ds]; rfl
        rw [e] at this
        exact this
      have L6 : ∀ p, C p → ¬ pr.ps = [] → wXs prg (rt prg (m + 1)) [] b__law_block_6 (blkσ t M.length many deep N pr.ps (some d) (some (.int kd)) o11 o12 o13) M2 p := by
        intro p hp hw
        simp! only [b__law_block_6, I2.at', List.length_map]
        refine next_wp F2.tape (len_pos hw) (by have := pr.len; omega) fun k M3 k0 k1 F3 => ?_
        obtain ⟨x, hx, ex⟩ := at_map (f := D.str) k0 k1
        obtain ⟨hx1, hx2⟩ := pr.ok x hx
        have J := I2.fr F3
        simp! only [ex, J.at', List.length_map]
        exact ⟨hacc, hp (.call x) _ _ _ _ (good_call hx1 hx2) (J.add (.call x))⟩
      have L8 : ∀ p M3, C p → Fr t M2 M3 → wXs prg (rt prg (m + 1)) [] b__law_block_8 (blkσ t M.length many deep N pr.ps (some d) (some (.int kd)) o11 o12 o13) M3 p := by
        intro p M3 hp F3
        have J := I2.fr F3
        simp! only [b__law_block_8, J.at']
        refine word_wp N 2 (m + 1) (by omega) F3.tape fun e M4 D4 F4 => ?_
        have J := J.fr F4
        simp! only [J.at', List.length_map]
        exact ⟨hacc, hp (.shw e) _ _ _ _ (good_shw D4 (by decide)) (J.add (.shw e))⟩
      have L9 : ∀ p, C p → wXs prg (rt prg (m + 1)) [] b__law_block_9 (blkσ t M.length many deep N pr.ps (some d) (some (.int kd)) o11 o12 o13) M2 p := by
        intro p hp
        simp! only [b__law_block_9]
        refine wif (fun h8 => ?_) (fun h8 => L8 _ M2 (seq p hp) (Fr.refl F2.tape))
        refine next_wp F2.tape (by decide) (by decide) fun k M3 k0 k1 F3 => ?_
        have J := I2.fr F3
        simp! only [wO_some]
        refine wif (fun h8 => ?_) (fun h8 => L8 _ M3 (seq p hp) F3)
        simp! only [b__law_block_7, J.at', List.length_map]
        exact ⟨hacc, hp .stop _ _ _ _ good_stop (J.add .stop)⟩
      have L10 : ∀ p, C p → wXs prg (rt prg (m + 1)) [] b__law_block_10 (blkσ t M.length many deep N pr.ps (some d) (some (.int kd)) o11 o12 o13) M2 p := by
        intro p hp
        simp! only [b__law_block_10, pr.ne]
        exact wif (fun h8 => wifn (fun hw => L6 _ (seq p hp) hw) (fun hw => L9 _ (seq p hp))) (fun h8 => L9 _ (seq p hp))
      have L11 : ∀ p, C p → wXs prg (rt prg (m + 1)) [] b__law_block_11 (blkσ t M.length many deep N pr.ps (some d) (some (.int kd)) o11 o12 o13) M2 p := by
        intro p hp
        simp! only [b__law_block_11]
        exact wif (fun h8 => wif (fun hw => L5 _ (seq p hp) (by omega)) (fun hw => L10 _ (seq p hp))) (fun h8 => L10 _ (seq p hp))
      have L12 : ∀ p, C p → wXs prg (rt prg (m + 1)) [] b__law_block_12 (blkσ t M.length many deep N pr.ps (some d) (some (.int kd)) o11 o12 o13) M2 p := by
        intro p hp
        simp! only [b__law_block_12]
        exact wif (fun h8 => wif (fun hw => L4 _ (seq p hp) (by omega)) (fun hw => L11 _ (seq p hp))) (fun h8 => L11 _ (seq p hp))
      have L13 : ∀ p, C p → wXs prg (rt prg (m + 1)) [] b__law_block_13 (blkσ t M.length many deep N pr.ps (some d) (some (.int kd)) o11 o12 o13) M2 p := by
        intro p hp
        simp! only [Nms.wD, Nms.bD, Nms.rD] at L3
        simp! only [Nms.wD, Nms.bD, Nms.rD] at L12
        simp! only [b__law_block_13, N.rne, Nms.wD, Nms.bD, Nms.rD]
        exact wif (fun h8 => wifn (fun hw => L3 _ (seq p hp) hw) (fun hw => L12 _ (seq p hp))) (fun h8 => L12 _ (seq p hp))
      have L14 : ∀ p, C p → wXs prg (rt prg (m + 1)) [] b__law_block_14 (blkσ t M.length many deep N pr.ps (some d) (some (.int kd)) o11 o12 o13) M2 p := by
        intro p hp
        simp! only [Nms.wD, Nms.bD, Nms.rD] at L2
        simp! only [Nms.wD, Nms.bD, Nms.rD] at L13
        simp! only [b__law_block_14, N.bne, Nms.wD, Nms.bD, Nms.rD]
        exact wif (fun h8 => wifn (fun hw => L2 _ (seq p hp) hw) (fun hw => L13 _ (seq p hp))) (fun h8 => L13 _ (seq p hp))
      simp! only [Nms.wD, Nms.bD, Nms.rD] at L1
      simp! only [Nms.wD, Nms.bD, Nms.rD] at L14
      simp! only [N.wne, Nms.wD, Nms.bD, Nms.rD]
      have hc : C (poFor prg (rt prg (m + 1)) [] (.nm 9) b__law_block_15 ds (poSeq prg (rt prg (m + 1)) [] (b__law_block.drop 3) (poTop Q E))) := fun s M3 a b c g J => cont s M3 a b c g J
      exact wif (fun h8 => wifn (fun hw => L1 _ (seq _ hc) hw) (fun hw => L14 _ (seq _ hc))) (fun h8 => L14 _ (seq _ hc))
  exact loop _ [] M1 _ _ _ _ _ (fun _ h => absurd h List.not_mem_nil) (by simpa using hlen) I0
end
/-! K05m12: counts. -/
section
open PySem
variable {t : Nat}
theorem block_wp (N : Nms) {bs : List (Option Str)} (pr : Prcs bs) : ∀ deep, BlkSpec t N pr deep
  | 0 => block_step N pr 0 fun d h => by omega
  | d + 1 => block_step N pr (d + 1) fun d' h => by
    have : d = d' := by omega
    subst this
    exact block_wp N pr d
theorem ds_toL : ∀ b : Sts, b.ds = b.toL.map St.d
  | .nil => rfl
  | .cons s r => by show s.d :: r.ds = s.d :: r.toL.map St.d; rw [ds_toL r]
theorem toL_cnt : ∀ b : Sts, b.cnt = (b.toL.map St.cnt).sum
  | .nil => rfl
  | .cons s r => by show s.cnt + r.cnt = _; rw [toL_cnt r]; rfl
theorem toL_len : ∀ b : Sts, b.toL.length = b.len
  | .nil => rfl
  | .cons s r => by show r.toL.length + 1 = _; rw [toL_len r]; rfl
theorem toL_ok {d : Nat} : ∀ {b : Sts}, b.ok d → ∀ s ∈ b.toL, s.ok d
  | .nil, _, s, hs => absurd hs List.not_mem_nil
  | .cons s r, h, s', hs => by
    rcases List.mem_cons.mp hs with rfl | hs
    · exact h.1
    · exact toL_ok h.2 s' hs
theorem sum_cast : ∀ l : List Nat, ((l.sum : Nat) : Int) = (l.map fun n : Nat => ((n : Nat) : Int)).sum
  | [] => rfl
  | n :: l => by
    rw [List.sum_cons, List.map_cons, List.sum_cons, ← sum_cast l]
    omega
/-- one more level -/
theorem many_step (d m : Nat) (ih : ∀ (b : Sts) (M : Hm), 1 ≤ d → b.ok (d - 1) → b.len ≤ 12 → (rt prg m).call g__law_many [some (.tup b.ds)] [] M = .ok (.int (b.cnt : Int)) M) (b : Sts) (M : Hm) (hb : b.ok d) (hl : b.len ≤ 1000) :
    (rt prg (m + 1)).call g__law_many [some (.tup b.ds)] [] M = .ok (.int (b.cnt : Int)) M := by
  refine eq_of_wp ?_
  rw [call__law_many_1, wX_top]
  simp! only [b__law_many]
  refine ⟨by rw [ds_len]; omega, ?_⟩
  rw [ds_toL]
  refine wLc_map (v := fun s : St => .int (s.cnt : Int)) (fun s hs Q hq => ?_) ?_
  · have ho := toL_ok hb s hs
    cases s with
    | set x e => simp only [wLc_cons]; simp! only [St.d]; exact hq
    | put x a e => simp only [wLc_cons]; simp! only [St.d]; exact hq
    | call x => simp only [wLc_cons]; simp! only [St.d]; exact hq
    | stop => simp only [wLc_cons]; simp! only [St.d]; exact hq
    | shw e => simp only [wLc_cons]; simp! only [St.d]; exact hq
    | iff c a b =>
      obtain ⟨h0, h1, h2, h3, h4, h5⟩ := ho
      simp! only [wLc_cons, St.d, ih a _ h1 h4 h2, ih b _ h1 h5 h3]
      exact hq
    | whl c a =>
      obtain ⟨h0, h1, h2, h4⟩ := ho
      simp! only [wLc_cons, St.d, ih a _ h1 h4 h2]
      exact hq
  · simp! only [ints_map]
    rw [toL_cnt, sum_cast, List.map_map]
    rfl
end
/-! K05m13: programs. -/
section
open PySem
variable {t : Nat}
def PyOk (k : Nat) (x : D) : Prop := ∃ p, x.py = some p ∧ p.canLay0 = true ∧ p.depth ≤ k
theorem pyOk_int {i : Int} {k : Nat} : PyOk k (.int i) := ⟨.int i, rfl, by simp [PyData.canLay0], by simp [PyData.depth]⟩
theorem pyOk_str {s : Str} {k : Nat} (h : PyData.strOk s = true) : PyOk k (.str s) := ⟨.str s, rfl, by simpa [PyData.canLay0] using h, by simp [PyData.depth]⟩
theorem pysOk {k : Nat} : ∀ {xs : List D}, (∀ x ∈ xs, PyOk k x) → ∃ ps, D.pys xs = some ps ∧ PyData.canLayAll0 ps = true ∧ PyData.depthAll ps ≤ k
  | [], _ => ⟨[], rfl, by simp [PyData.canLayAll0], by simp [PyData.depthAll]⟩
  | x :: xs, h => by
    obtain ⟨p, h1, h2, h3⟩ := h x List.mem_cons_self
    obtain ⟨ps, g1, g2, g3⟩ := pysOk fun y hy => h y (List.mem_cons_of_mem _ hy)
    refine ⟨p :: ps, ?_, by simp [PyData.canLayAll0, h2, g2], by simp [PyData.depthAll]; omega⟩
    show (match D.py x, D.pys xs with | some p, some ps => some (p :: ps) | _, _ => none) = _
    rw [h1, g1]
theorem pyOk_tup {k : Nat} {xs : List D} (h : ∀ x ∈ xs, PyOk k x) : PyOk (k + 1) (.tup xs) := by
  obtain ⟨ps, g1, g2, g3⟩ := pysOk h
  exact ⟨.tuple ps, by show (D.pys xs).map _ = _; rw [g1]; rfl, by simpa [PyData.canLay0] using g2, by simp [PyData.depth]; omega⟩
theorem ne_nil_eq {M : Hm} {x : D} {xs : List D} (hx : cont M x = .lst xs) (hs : eqS x (.lst []) = none) (h : ∀ x ∈ xs, PyOk 60 x) : opCmp .ne x (.lst []) M = some (!decide (xs = [])) := by
  obtain ⟨ps, g1, g2, g3⟩ := pysOk h
  show (eqD x (.lst []) M).map _ = _
  have e : eqD x (.lst []) M = some (decide (xs = [])) := by
    unfold eqD
    rw [hs, hx]
    have e1 : (D.lst xs).py = some (.list ps) := by show (D.pys xs).map _ = _; rw [g1]; rfl
    have e2 : (cont M (.lst [])).py = some (.list []) := rfl
    rw [e1, e2]
    have e3 : SeqAt.shaped (.list ps) = true := by
      unfold SeqAt.shaped
      rw [Bool.and_eq_true]
      exact ⟨by simpa [PyData.canLay0] using g2, by simp [PyData.depth]; omega⟩
    show (if (SeqAt.shaped (.list ps) && SeqAt.shaped (.list [])) = true then some (PyData.eqv (.list ps) (.list [])) else none) = _
    rw [e3, if_pos (by rfl)]
    cases xs with
    | nil => cases g1; rfl
    | cons y ys =>
      have : ∃ q qs, ps = q :: qs := by
        have g1 : (match D.py y, D.pys ys with | some p, some ps => some (p :: ps) | _, _ => none) = some ps := g1
        split at g1
        · injection g1 with g1; exact ⟨_, _, g1.symm⟩
        · cases g1
      obtain ⟨q, qs, rfl⟩ := this
      simp [PyData.eqv, PyData.eqvAll]
  rw [e]
  rfl
theorem ne_lst {M : Hm} {xs : List D} (h : ∀ x ∈ xs, PyOk 60 x) : opCmp .ne (.lst xs) (.lst []) M = some (!decide (xs = [])) := ne_nil_eq (by rfl) (by rfl) h
theorem ne_ref {M : Hm} {n : Nat} {xs : List D} (hn : M[n]? = some (.lst xs)) (h : ∀ x ∈ xs, PyOk 60 x) : opCmp .ne (.ref n) (.lst []) M = some (!decide (xs = [])) := ne_nil_eq (by
  unfold cont
  simp only [hn]) (by rfl) h
theorem okN_str : ∀ x ∈ okN, PyData.strOk x = true := by decide +kernel
theorem ne_map {α : Type} {M : Hm} {f : α → D} {l : List α} (h : ∀ a ∈ l, PyOk 60 (f a)) : opCmp .ne (.lst (l.map f)) (.lst []) M = some (!decide (l = [])) := by
  rw [ne_lst fun x hx => by obtain ⟨a, ha, rfl⟩ := List.mem_map.mp hx; exact h a ha]
  congr 2
  cases l <;> simp
theorem ne_strs {M : Hm} {l : List Str} (h : ∀ x ∈ l, x ∈ okN) : opCmp .ne (.lst (l.map D.str)) (.lst []) M = some (!decide (l = [])) := ne_map fun x hx => pyOk_str (okN_str x (h x hx))
theorem ne_rows {M : Hm} {l : List (Str × Int)} (h : ∀ x ∈ l, x.1 ∈ okN) : opCmp .ne (.lst (l.map fun r => D.tup [.str r.1, .int r.2])) (.lst []) M = some (!decide (l = [])) := ne_map fun x hx => pyOk_tup (k := 59) (by
  intro y hy
  rcases List.mem_cons.mp hy with rfl | hy
  · exact pyOk_str (okN_str _ (h x hx))
  · rw [List.mem_singleton.mp hy]; exact pyOk_int)
/-! variables -/
structure VOk (r : Va) : Prop where
  nm : r.x ∈ okN
  v : match r.k with
    | .word => ∃ i : Int, r.v = .int i ∧ 0 ≤ i ∧ i ≤ 255
    | .bit => ∃ i : Int, r.v = .int i ∧ 0 ≤ i ∧ i ≤ 1
    | .row => ∃ l : List Int, r.v = .tup (l.map D.int) ∧ 1 ≤ l.length ∧ l.length ≤ 8 ∧ ∀ i ∈ l, 0 ≤ i ∧ i ≤ 255
abbrev lpσ (t : Nat) (w b r v : Option D) (o7 o8 o9 o10 o11 o12 o13 o14 o15 : Option D) : Env := [some (.ref t), some (.int 4), some (.int 2), w, b, r, v, o7, o8, o9, o10, o11, o12, o13, o14, o15]
section
variable {m : Nat} {M : Hm} {E : Nat → D → Hm → Prop}
theorem vars_wp (k : Ki) (hk : k ≠ .row) (b : Int) (hb : b = 6 ∧ k = .word ∨ b = 2 ∧ k = .bit) (w bb r v : Option D) (o7 o8 o9 o10 o11 o12 o13 o14 o15 : Option D) : ∀ (ws : List Str) {M : Hm} {Q : List D → Hm → Prop}, (∀ x ∈ ws, x ∈ okN) → Tape M t →
    (∀ (vas : List Va) (M' : Hm), Fr t M M' → vas.map (·.x) = ws → (∀ r ∈ vas, VOk r ∧ r.k = k) → Q (vas.map Va.d) M') →
    wLc prg (rt prg (m + 1)) [] (.tup (.cons (.cst (.str k.s)) (.cons (.var 7) (.cons (.call g__law_next (.cons (.var 0) (.cons (.cst (.int b)) .nil))) .nil)))) (.nm 7) .nil [7] (lpσ t w bb r v o7 o8 o9 o10 o11 o12 o13 o14 o15) (ws.map D.str) M Q E
  | [], M, Q, _, h, hq => hq [] M (Fr.refl h) rfl (fun r hr => absurd hr List.not_mem_nil)
  | x :: ws, M, Q, hn, h, hq => by
    simp only [List.map_cons, wLc_cons]
    simp! only [wO_some]
    refine next_wp h (by omega) (by omega) fun i M1 i0 i1 F1 => ?_
    simp! only [wO_some]
    refine vars_wp k hk b hb w bb r v o7 o8 o9 o10 o11 o12 o13 o14 o15 ws (fun y hy => hn y (List.mem_cons_of_mem _ hy)) F1.tape fun vas M2 F2 hx hv => ?_
    simp! only [wO_some]
    refine hq (⟨k, x, .int i⟩ :: vas) M2 (F1.trans F2) (by rw [List.map_cons, hx]) fun r hr => ?_
    rcases List.mem_cons.mp hr with rfl | hr
    · refine ⟨⟨hn x List.mem_cons_self, ?_⟩, rfl⟩
      rcases hb with ⟨rfl, rfl⟩ | ⟨rfl, rfl⟩
      · exact ⟨i, rfl, i0, by omega⟩
      · exact ⟨i, rfl, i0, by omega⟩
    · exact hv r hr
theorem ints_wp (σ : Env) (h0 : slot (wipeE σ [8]) 0 = some (.ref t)) : ∀ (ds : List D) {M : Hm} {Q : List D → Hm → Prop}, Tape M t →
    (∀ (l : List Int) (M' : Hm), Fr t M M' → l.length = ds.length → (∀ i ∈ l, 0 ≤ i ∧ i ≤ 255) → Q (l.map D.int) M') →
    wLc prg (rt prg (m + 1)) [] (.call g__law_next (.cons (.var 0) (.cons (.cst (.int 9)) .nil))) (.nm 8) .nil [8] σ ds M Q E
  | [], M, Q, h, hq => hq [] M (Fr.refl h) rfl (fun r hr => absurd hr List.not_mem_nil)
  | x :: ds, M, Q, h, hq => by
    have e : slot ((σ.set 8 none).set 8 (some x)) 0 = some (.ref t) := by
      rw [← h0]
      unfold slot
      rw [List.getElem?_set_ne (by decide)]
      rfl
    simp only [wLc_cons]
    simp! only [e]
    refine next_wp h (by omega) (by omega) fun i M1 i0 i1 F1 => ?_
    simp! only [wO_some]
    refine ints_wp σ h0 ds F1.tape fun l M2 F2 hl hv => ?_
    simp! only [wO_some]
    refine hq (i :: l) M2 (F1.trans F2) (by simp [hl]) fun j hj => ?_
    rcases List.mem_cons.mp hj with rfl | hj
    · exact ⟨i0, by omega⟩
    · exact hv j hj
end
end
/-! K05m14: programs, the walk. -/
section
open PySem
variable {t : Nat}
section
variable {m : Nat}
theorem rows_wp (w bb r v : Option D) {E : Nat → D → Hm → Prop} : ∀ (o7 o8 o9 o10 o11 o12 o13 o14 o15 : Option D) (rs : List (Str × Int)) {M : Hm} {Q : List D → Hm → Prop}, (∀ x ∈ rs, x.1 ∈ okN ∧ 1 ≤ x.2 ∧ x.2 ≤ 8) → Tape M t →
    (∀ (vas : List Va) (M' : Hm), Fr t M M' → vas.map (·.x) = rs.map (·.1) → (∀ r ∈ vas, VOk r ∧ r.k = .row) → Q (vas.map Va.d) M') →
    wLc prg (rt prg (m + 1)) [] (.tup (.cons (.cst (.str "row")) (.cons (.var 7) (.cons (.bi .tuple false (.cons (.lc false (.call g__law_next (.cons (.var 0) (.cons (.cst (.int 9)) .nil))) (.nm 8) (.rng1 (.var 9)) .nil [8]) .nil)) .nil)))) (.tp (.cons (.nm 7) (.cons (.nm 9) .nil))) .nil [7, 9] (lpσ t w bb r v o7 o8 o9 o10 o11 o12 o13 o14 o15) (rs.map fun r => D.tup [.str r.1, .int r.2]) M Q E
  | o7, o8, o9, o10, o11, o12, o13, o14, o15, [], M, Q, _, h, hq => hq [] M (Fr.refl h) rfl (fun r hr => absurd hr List.not_mem_nil)
  | o7, o8, o9, o10, o11, o12, o13, o14, o15, x :: rs, M, Q, hn, h, hq => by
    obtain ⟨hx1, hx2, hx3⟩ := hn x List.mem_cons_self
    simp only [List.map_cons, wLc_cons]
    simp! only [wO_some]
    refine ⟨by omega, by unfold rngD; rw [List.length_map, List.length_range]; omega, ?_⟩
    refine ints_wp _ rfl _ h fun l M1 F1 hl hv => ?_
    have hl2 : l.length = x.2.toNat := by rw [hl]; unfold rngD; rw [List.length_map, List.length_range]
    simp! only [wO_some]
    refine rows_wp w bb r v o7 o8 o9 o10 o11 o12 o13 o14 o15 rs (fun y hy => hn y (List.mem_cons_of_mem _ hy)) F1.tape fun vas M2 F2 hx hv2 => ?_
    simp! only [wO_some]
    refine hq (⟨.row, x.1, .tup (l.map D.int)⟩ :: vas) M2 (F1.trans F2) (by rw [List.map_cons, hx]; rfl) fun r hr => ?_
    rcases List.mem_cons.mp hr with rfl | hr
    · exact ⟨⟨hx1, l, rfl, by omega, by omega, hv⟩, rfl⟩
    · exact hv2 r hr
end
def PFit (vs : List Va) : List (Option Str) → List (Str × List St) → Prop
  | _, [] => True
  | bs, x :: r => (∀ s ∈ x.2, GoodS vs bs 1 s) ∧ x.2.length ≤ 2 ∧ PFit vs (bs ++ [some x.1]) r
theorem pfit_snoc {vs : List Va} {x : Str} {l : List St} : ∀ {bs : List (Option Str)} {prs : List (Str × List St)}, PFit vs bs prs → (∀ s ∈ l, GoodS vs (bs ++ prs.map fun p => some p.1) 1 s) → l.length ≤ 2 → PFit vs bs (prs ++ [(x, l)])
  | bs, [], _, h2, h3 => ⟨by simpa using h2, h3, trivial⟩
  | bs, p :: r, h1, h2, h3 => ⟨h1.1, h1.2.1, pfit_snoc h1.2.2 (by simpa using h2) h3⟩
def lstCnt (l : List St) : Nat := (l.map St.cnt).sum
theorem ofL_cnt' : ∀ l : List St, (Sts.ofL l).cnt = lstCnt l
  | [] => rfl
  | s :: l => by show s.cnt + (Sts.ofL l).cnt = _; rw [ofL_cnt' l]; rfl
structure DrP (vs : List Va) (prs : List (Str × List St)) (body : List St) : Prop where
  vok : ∀ r ∈ vs, VOk r
  vnd : (vs.map (·.x)).Nodup
  vlen : vs.length ≤ 4
  vrow : (vs.filter fun r => decide (r.k = .row)).length ≤ 2
  pnm : ∃ k, prs.map (·.1) = (["p", "q"] : List Str).take k
  pfit : PFit vs [] prs
  bgood : ∀ s ∈ body, GoodS vs (prs.map fun p => some p.1) 2 s
  blen : body.length ≤ 4
  cnt : (prs.map fun p => lstCnt p.2).sum + lstCnt body ≤ 56
def prsDL (prs : List (Str × List St)) : D := .tup (prs.map fun p => .tup [.str p.1, .tup (p.2.map St.d)])
theorem cut_map {l : List Str} {k : Int} (h : 0 ≤ k) : cutD (l.map D.str) none (some k) = (l.take k.toNat).map D.str := by
  obtain ⟨j, rfl⟩ : ∃ j : Nat, k = (j : Int) := ⟨k.toNat, by omega⟩
  rw [cut_to, List.map_take]
  rfl
theorem findV_in {A : List Va} {x : Str} (h : x ∈ A.map (·.x)) : ∃ r ∈ A, r.x = x ∧ findV A x = some r := by
  induction A with
  | nil => cases h
  | cons a A ih =>
    by_cases e : a.x = x
    · exact ⟨a, List.mem_cons_self, e, by unfold findV; rw [List.find?_cons_of_pos (by simpa using e)]⟩
    · rw [List.map_cons, List.mem_cons] at h
      rcases h with h | h
      · exact absurd h.symm e
      · obtain ⟨r, h1, h2, h3⟩ := ih h
        exact ⟨r, List.mem_cons_of_mem _ h1, h2, by unfold findV; rw [List.find?_cons_of_neg (by simpa using e)]; exact h3⟩
theorem findV_out {A : List Va} {x : Str} (h : x ∉ A.map (·.x)) : findV A x = none := by
  unfold findV
  rw [List.find?_eq_none]
  intro r hr
  simp only [decide_eq_true_eq]
  rintro rfl
  exact h (List.mem_map.mpr ⟨r, hr, rfl⟩)
theorem findV_app {A B : List Va} {x : Str} : findV (A ++ B) x = (findV A x).or (findV B x) := by
  unfold findV
  rw [List.find?_append]
/-- the names of what is declared -/
theorem nms_of {ws bs : List Str} {rs : List (Str × Int)} {A B C : List Va} (hw : ∀ x ∈ ws, x ∈ (["a", "b"] : List Str)) (hb : ∀ x ∈ bs, x ∈ (["c"] : List Str)) (hr : ∀ x ∈ rs, x.1 ∈ (["r"] : List Str) ∧ 1 ≤ x.2 ∧ x.2 ≤ 8)
    (hA : A.map (·.x) = ws) (hB : B.map (·.x) = bs) (hC : C.map (·.x) = rs.map (·.1)) (kA : ∀ r ∈ A, r.k = .word) (kB : ∀ r ∈ B, r.k = .bit) (kC : ∀ r ∈ C, r.k = .row) (l1 : ws.length ≤ 2) (l2 : bs.length ≤ 1) (l3 : rs.length ≤ 1) :
    ∃ N : Nms, N.ws = ws ∧ N.bs = bs ∧ N.rs = rs ∧ N.vs = A ++ B ++ C := by
  have ow : ∀ x ∈ (["a", "b"] : List Str), x ∈ okN := by decide +kernel
  have ob : ∀ x ∈ (["c"] : List Str), x ∈ okN := by decide +kernel
  have or' : ∀ x ∈ (["r"] : List Str), x ∈ okN := by decide +kernel
  have d1 : ∀ x ∈ (["c"] : List Str), x ∉ (["a", "b"] : List Str) := by decide +kernel
  have d2 : ∀ x ∈ (["r"] : List Str), x ∉ (["a", "b"] : List Str) := by decide +kernel
  have d3 : ∀ x ∈ (["r"] : List Str), x ∉ (["c"] : List Str) := by decide +kernel
  refine ⟨⟨ws, bs, rs, A ++ B ++ C, fun x hx => ⟨ow x (hw x hx), ?_⟩, fun x hx => ⟨ob x (hb x hx), ?_⟩, fun x hx => ⟨or' _ (hr x hx).1, by have := (hr x hx).2.1; omega, (hr x hx).2.2, ?_⟩, by omega, fun M => ne_strs fun x hx => ow x (hw x hx), fun M => ne_strs fun x hx => ob x (hb x hx), fun M => ne_rows fun x hx => or' _ (hr x hx).1⟩, rfl, rfl, rfl, rfl⟩
  · obtain ⟨r, h1, h2, h3⟩ := findV_in (A := A) (x := x) (by rw [hA]; exact hx)
    exact ⟨r, by rw [findV_app, findV_app, h3]; rfl, kA r h1⟩
  · have n1 : findV A x = none := findV_out (by rw [hA]; exact fun h => d1 x (hb x hx) (hw x h))
    obtain ⟨r, h1, h2, h3⟩ := findV_in (A := B) (x := x) (by rw [hB]; exact hx)
    exact ⟨r, by rw [findV_app, findV_app, n1, h3]; rfl, kB r h1⟩
  · have n1 : findV A x.1 = none := findV_out (by rw [hA]; exact fun h => d2 _ (hr x hx).1 (hw _ h))
    have n2 : findV B x.1 = none := findV_out (by rw [hB]; exact fun h => d3 _ (hr x hx).1 (hb _ h))
    obtain ⟨r, h1, h2, h3⟩ := findV_in (A := C) (x := x.1) (by rw [hC]; exact List.mem_map.mpr ⟨x, hx, rfl⟩)
    exact ⟨r, by rw [findV_app, findV_app, n1, n2, h3]; rfl, kC r h1⟩
theorem take_names {l : List Str} {k : Int} (h : 0 ≤ k) (hd : l.Nodup) : ∃ ws : List Str, (∀ x ∈ ws, x ∈ l) ∧ ws.length ≤ l.length ∧ ws.Nodup ∧ (∃ j, ws = l.take j) ∧ cutD (l.map D.str) none (some k) = ws.map D.str :=
  ⟨l.take k.toNat, fun x hx => List.mem_of_mem_take hx, by rw [List.length_take]; omega, hd.sublist (List.take_sublist _ _), ⟨_, rfl⟩, cut_map h⟩
theorem vars_nd {ws bs : List Str} {rs : List (Str × Int)} {A B C : List Va} (hw : ∀ x ∈ ws, x ∈ (["a", "b"] : List Str)) (hb : ∀ x ∈ bs, x ∈ (["c"] : List Str)) (hr : ∀ x ∈ rs, x.1 ∈ (["r"] : List Str)) (nw : ws.Nodup) (nb : bs.Nodup) (nr : (rs.map (·.1)).Nodup)
    (hA : A.map (·.x) = ws) (hB : B.map (·.x) = bs) (hC : C.map (·.x) = rs.map (·.1)) : ((A ++ B ++ C).map (·.x)).Nodup := by
  have d1 : ∀ x ∈ (["c"] : List Str), x ∉ (["a", "b"] : List Str) := by decide +kernel
  have d2 : ∀ x ∈ (["r"] : List Str), x ∉ (["a", "b"] : List Str) := by decide +kernel
  have d3 : ∀ x ∈ (["r"] : List Str), x ∉ (["c"] : List Str) := by decide +kernel
  rw [List.map_append, List.map_append, hA, hB, hC, List.nodup_append, List.nodup_append]
  refine ⟨⟨nw, nb, fun x hx y hy e => ?_⟩, nr, fun x hx y hy e => ?_⟩
  · subst e
    exact d1 x (hb x hy) (hw x hx)
  · subst e
    obtain ⟨z, hz, rfl⟩ := List.mem_map.mp hy
    rcases List.mem_append.mp hx with hx | hx
    · exact d2 _ (hr z hz) (hw _ hx)
    · exact d3 _ (hr z hz) (hb _ hx)
theorem cnt_good {vs : List Va} {bs : List (Option Str)} {d : Nat} {l : List St} (h : ∀ s ∈ l, GoodS vs bs d s) : lstCnt l ≤ l.length * cntM d := by
  rw [← ofL_cnt']
  exact ofL_cnt fun s hs => (h s hs).cnt
theorem pfit_cnt {vs : List Va} : ∀ {prs : List (Str × List St)} {bs : List (Option Str)}, PFit vs bs prs → (prs.map fun p => lstCnt p.2).sum ≤ prs.length * 8
  | [], _, _ => Nat.zero_le _
  | p :: r, bs, h => by
    have h1 := cnt_good h.1
    have h2 := pfit_cnt h.2.2
    have h3 : p.2.length * cntM 1 ≤ 2 * cntM 1 := Nat.mul_le_mul_right _ h.2.1
    have h4 : cntM 1 = 4 := rfl
    rw [List.map_cons, List.sum_cons, List.length_cons]
    omega
theorem many_eq : ∀ (d : Nat) (m : Nat) (b : Sts) (M : Hm), b.ok d → b.len ≤ 1000 → d + 1 ≤ m → (rt prg m).call g__law_many [some (.tup b.ds)] [] M = .ok (.int (b.cnt : Int)) M
  | 0, m, b, M, hb, hl, hm => by
    obtain ⟨m, rfl⟩ : ∃ j, m = j + 1 := ⟨m - 1, by omega⟩
    exact many_step 0 m (fun b M h => by omega) b M hb hl
  | d + 1, m, b, M, hb, hl, hm => by
    obtain ⟨m, rfl⟩ : ∃ j, m = j + 1 := ⟨m - 1, by omega⟩
    exact many_step (d + 1) m (fun b M _ ho hl => many_eq d m b M ho (by omega) (by omega)) b M hb hl
theorem many_l {d m : Nat} {l : List St} {M : Hm} (h : ∀ s ∈ l, s.ok d) (hl : l.length ≤ 1000) (hm : d + 1 ≤ m) : (rt prg m).call g__law_many [some (.tup (l.map St.d))] [] M = .ok (.int (lstCnt l : Int)) M := by
  have := many_eq d m (Sts.ofL l) M (ofL_ok h) (by rw [ofL_len]; omega) hm
  rw [ofL_ds, ofL_cnt'] at this
  exact this
theorem pfit_ok {vs : List Va} : ∀ {prs : List (Str × List St)} {bs : List (Option Str)}, PFit vs bs prs → ∀ p ∈ prs, (∀ s ∈ p.2, s.ok 1) ∧ p.2.length ≤ 2
  | [], _, _, p, hp => absurd hp List.not_mem_nil
  | q :: r, bs, h, p, hp => by
    rcases List.mem_cons.mp hp with rfl | hp
    · exact ⟨fun s hs => (h.1 s hs).ok, h.2.1⟩
    · exact pfit_ok h.2.2 p hp
theorem program_wp {n : Nat} {M : Hm} {Q : D → Hm → Prop} {E : Nat → D → Hm → Prop} (hn : 12 ≤ n) (h : Tape M t)
    (hq : ∀ (vs : List Va) (prs : List (Str × List St)) (body : List St) (M' : Hm), DrP vs prs body → Fr t M M' → Q (.tup [.str "prog", .tup (vs.map Va.d), prsDL prs, .tup (body.map St.d)]) M') :
    wp ((rt prg n).call g__law_program [some (.ref t), some (.int 4), some (.int 2)] [] M) Q E := by
  obtain ⟨m, rfl⟩ : ∃ m, n = m + 2 := ⟨n - 2, by omega⟩
  rw [call__law_program_3, wX_top]
  simp! only [b__law_program]
  refine next_wp h (by decide) (by decide) fun kw M1 w0 w1 F1 => ?_
  obtain ⟨ws, hw, lw, nw, -, ew⟩ := take_names (l := ["a", "b"]) w0 (by decide +kernel)
  have ew : cutD [.str "a", .str "b"] none (some kw) = ws.map D.str := ew
  simp! only [ew]
  refine next_wp F1.tape (by decide) (by decide) fun kb M2 b0 b1 F2 => ?_
  obtain ⟨bs, hb, lb, nb, -, eb⟩ := take_names (l := ["c"]) b0 (by decide +kernel)
  have eb : cutD [.str "c"] none (some kb) = bs.map D.str := eb
  simp! only [eb, ew]
  refine next_wp F2.tape (by decide) (by decide) fun kr M3 r0 r1 F3 => ?_
  have F3 := (F1.trans F2).trans F3
  have rest : ∀ (rs : List (Str × Int)) (M4 : Hm), (∀ x ∈ rs, x.1 ∈ (["r"] : List Str) ∧ 1 ≤ x.2 ∧ x.2 ≤ 8) → rs.length ≤ 1 → Fr t M M4 →
      wXs prg (rt prg (m + 1)) [] (b__law_program.drop 2) (lpσ t (some (.lst (ws.map D.str))) (some (.lst (bs.map D.str))) (some (.lst (rs.map fun r => D.tup [.str r.1, .int r.2]))) none none none none none none none none none none) M4 (poTop Q E) := by
    intro rs M4 hr lr F4
    simp! only [b__law_program]
    refine ⟨by rw [List.length_map]; simp only [List.length_cons, List.length_nil] at lw; omega, ?_⟩
    refine vars_wp .word (by decide) 6 (Or.inl ⟨rfl, rfl⟩) _ _ _ _ _ _ _ _ _ _ _ _ _ ws (fun x hx => (by decide +kernel : ∀ x ∈ (["a", "b"] : List Str), x ∈ okN) x (hw x hx)) F4.tape fun A M5 F5 hA kA => ?_
    simp! only [wO_some]
    refine ⟨by rw [List.length_map]; simp only [List.length_cons, List.length_nil] at lb; omega, ?_⟩
    refine vars_wp .bit (by decide) 2 (Or.inr ⟨rfl, rfl⟩) _ _ _ _ _ _ _ _ _ _ _ _ _ bs (fun x hx => (by decide +kernel : ∀ x ∈ (["c"] : List Str), x ∈ okN) x (hb x hx)) F5.tape fun B M6 F6 hB kB => ?_
    simp! only [wO_some]
    have la : A.length = ws.length := by rw [← hA, List.length_map]
    have lb2 : B.length = bs.length := by rw [← hB, List.length_map]
    simp only [List.length_cons, List.length_nil] at lw lb
    refine ⟨by rw [List.length_map, List.length_map]; omega, by rw [List.length_map]; omega, ?_⟩
    refine rows_wp _ _ _ _ _ _ _ _ _ _ _ _ _ rs (fun x hx => ⟨(by decide +kernel : ∀ x ∈ (["r"] : List Str), x ∈ okN) _ (hr x hx).1, (hr x hx).2⟩) F6.tape fun C M7 F7 hC kC => ?_
    have lc : C.length = rs.length := by rw [← List.length_map (f := fun r : Va => r.x), hC, List.length_map]
    simp! only [wO_some]
    refine ⟨by simp only [List.length_append, List.length_map]; omega, ?_⟩
    obtain ⟨N, rfl, rfl, rfl, eN⟩ := nms_of hw hb hr hA hB hC (fun r h => (kA r h).2) (fun r h => (kB r h).2) (fun r h => (kC r h).2) lw lb lr
    refine next_wp F7.tape (by decide) (by decide) fun kp M8 p0 p1 F8 => ?_
    obtain ⟨pn, hpn, lpn, npn, ⟨jp, ejp⟩, ep⟩ := take_names (l := ["p", "q"]) p0 (by decide +kernel)
    have ep : cutD [.str "p", .str "q"] none (some kp) = pn.map D.str := ep
    have okp : ∀ x ∈ pn, x ∈ okN := fun x hx => (by decide +kernel : ∀ x ∈ (["p", "q"] : List Str), x ∈ okN) x (hpn x hx)
    simp only [List.length_cons, List.length_nil] at lpn
    simp! only [ep]
    have F8 := (((F4.trans F5).trans F6).trans F7).trans F8
    obtain ⟨vs, hvs⟩ : ∃ vs, vs = A ++ B ++ C := ⟨_, rfl⟩
    rw [← hvs] at eN
    have ev : D.tup (A.map Va.d ++ B.map Va.d ++ C.map Va.d) = .tup (vs.map Va.d) := by rw [hvs, List.map_append, List.map_append]
    simp! only [ev]
    have fin : ∀ (prs : List (Str × List St)) (M9 : Hm) (o7 o12 o13 : Option D), PFit vs [] prs → prs.map (·.1) = pn → Fr t M M9 →
        wXs prg (rt prg (m + 1)) [] (b__law_program.drop 6) (lpσ t (some N.wD) (some N.bD) (some N.rD) (some (.tup (vs.map Va.d))) o7 none none (some (.tup [N.wD, N.bD, N.rD])) (some (prsDL prs)) o12 o13 none none) M9 (poTop Q E) := by
      intro prs M9 o7 o12 o13 pf en F9
      have lp : prs.length ≤ 2 := by rw [← List.length_map (f := fun p : Str × List St => p.1), en]; omega
      simp! only [b__law_program, prsDL]
      refine ⟨by rw [List.length_map]; omega, ?_⟩
      refine wLc_map (v := fun p : Str × List St => .str p.1) (fun p _ Q hq => by simp only [wLc_cons]; simp! only [wO_some]; exact hq) ?_
      have em : prs.map (fun p : Str × List St => D.str p.1) = pn.map D.str := by rw [← en, List.map_map]; rfl
      simp! only [em]
      refine block_wp N (⟨pn, fun x hx => ⟨okp x hx, by rw [← en] at hx; obtain ⟨p, hp, rfl⟩ := List.mem_map.mp hx; exact List.mem_map.mpr ⟨p, hp, rfl⟩⟩, by omega, fun M => ne_strs okp⟩ : Prcs (prs.map fun p => some p.1)) 2 (m + 1) (by omega) (by decide) (by decide) F9.tape fun l M10 gl ll F10 => ?_
      simp! only [wO_some]
      refine ⟨by rw [List.length_map]; omega, ?_⟩
      refine wLc_map (v := fun p : Str × List St => .int (lstCnt p.2 : Int)) (fun p hp Q hq => by
        have ho := pfit_ok pf p hp
        simp only [wLc_cons]
        simp! only [many_l ho.1 (by omega) (by omega : 1 + 1 ≤ m + 1)]
        exact hq) ?_
      simp! only [ints_map]
      have es : (prs.map fun p : Str × List St => ((lstCnt p.2 : Nat) : Int)).sum = (((prs.map fun p => lstCnt p.2).sum : Nat) : Int) := by rw [sum_cast, List.map_map]; rfl
      have lc8 := pfit_cnt pf
      generalize hs : (prs.map fun p => lstCnt p.2).sum = S at es lc8
      simp! only [es, List.length_map]
      refine ⟨by simp only [show Int.toNat 4 = 4 from rfl] at ll; omega, ?_⟩
      rw [eN] at gl
      have cut : ∀ (ds : List D) (l : List St) (o15 : Option D), (∀ s ∈ l, GoodS vs (prs.map fun p => some p.1) 2 s) → l.length ≤ 4 → (S + lstCnt l ≤ 56 ∨ l.length ≤ ds.length) →
          wFor prg (rt prg (m + 1)) [] (.nm 15) b__law_program_1 ds (lpσ t (some N.wD) (some N.bD) (some N.rD) (some (.tup (vs.map Va.d))) o7 none none (some (.tup [N.wD, N.bD, N.rD])) (some (prsDL prs)) o12 (some (.tup (l.map St.d))) (some (.int (56 - (S : Int)))) o15) M10 (poSeq prg (rt prg (m + 1)) [] (b__law_program.drop 8) (poTop Q E)) := by
        intro ds
        induction ds with
        | nil =>
          intro l o15 gl ll hor
          simp! only [b__law_program]
          refine hq vs prs l M10 ⟨?_, ?_, ?_, ?_, ⟨jp, by rw [en, ejp]⟩, pf, gl, ll, ?_⟩ (F9.trans F10)
          · intro r hr
            rw [hvs] at hr
            rcases List.mem_append.mp hr with hr | hr
            · rcases List.mem_append.mp hr with hr | hr
              · exact (kA r hr).1
              · exact (kB r hr).1
            · exact (kC r hr).1
          · rw [hvs]
            exact vars_nd hw hb (fun x hx => (hr x hx).1) nw nb (by
              match N.rs, lr with
              | [], _ => exact List.nodup_nil
              | [a], _ => simp) hA hB hC
          · rw [hvs, List.length_append, List.length_append]; omega
          · have fA : A.filter (fun r => decide (r.k = .row)) = [] := by
              rw [List.filter_eq_nil_iff]
              intro r hr
              rw [(kA r hr).2]
              decide
            have fB : B.filter (fun r => decide (r.k = .row)) = [] := by
              rw [List.filter_eq_nil_iff]
              intro r hr
              rw [(kB r hr).2]
              decide
            rw [hvs, List.filter_append, List.filter_append, fA, fB]
            have := List.length_filter_le (fun r : Va => decide (r.k = .row)) C
            simp only [List.nil_append]
            omega
          · rw [hs]
            rcases hor with h | h
            · exact h
            · have : l = [] := List.length_eq_zero_iff.mp (by simpa using h)
              subst this
              show S + 0 ≤ 56
              omega
        | cons d ds ihd =>
          intro l o15 gl ll hor
          simp only [wFor_cons]
          simp! only [b__law_program_1, many_l (fun s hs => (gl s hs).ok) (by omega : l.length ≤ 1000) (by omega : 2 + 1 ≤ m + 1)]
          refine wif (fun hc => ?_) (fun hc => ?_)
          · simp! only [cut_last]
            have := ihd l.dropLast (some d) (fun s hs => gl s (List.dropLast_subset l hs)) (by rw [List.length_dropLast]; omega) (Or.inr (by
              rw [List.length_dropLast]
              simp only [List.length_cons] at hor
              omega))
            rw [List.map_dropLast] at this
            simp only [b__law_program_1] at this
            exact this
          · simp! only [wO_some]
            have := ihd l (some d) gl ll (Or.inl (by omega))
            simp only [b__law_program_1] at this
            exact this
      have := cut (rngD 0 (l.length : Int).toNat) l none gl (by simpa using ll) (Or.inr (by unfold rngD; rw [List.length_map, List.length_range]; simp))
      exact this
    have loop : ∀ (rest : List Str) (prs : List (Str × List St)) (M9 : Hm) (o7 o12 o13 : Option D), PFit vs [] prs → prs.map (·.1) ++ rest = pn → Fr t M M9 →
        wFor prg (rt prg (m + 1)) [] (.nm 7) b__law_program_2 (rest.map D.str) (lpσ t (some N.wD) (some N.bD) (some N.rD) (some (.tup (vs.map Va.d))) o7 none none (some (.tup [N.wD, N.bD, N.rD])) (some (prsDL prs)) o12 o13 none none) M9 (poSeq prg (rt prg (m + 1)) [] (b__law_program.drop 6) (poTop Q E)) := by
      intro rest
      induction rest with
      | nil =>
        intro prs M9 o7 o12 o13 pf en F9
        exact fin prs M9 o7 o12 o13 pf (by simpa using en) F9
      | cons x rest ih =>
        intro prs M9 o7 o12 o13 pf en F9
        have lp : prs.length + 1 ≤ 2 := by
          have := congrArg List.length en
          simp at this
          omega
        simp only [List.map_cons, wFor_cons]
        simp! only [b__law_program_2, prsDL]
        refine ⟨by rw [List.length_map]; omega, ?_⟩
        refine wLc_map (v := fun p : Str × List St => .str p.1) (fun p _ Q hq => by simp only [wLc_cons]; simp! only [wO_some]; exact hq) ?_
        have em : prs.map (fun p : Str × List St => D.str p.1) = (prs.map (·.1)).map D.str := by rw [List.map_map]; rfl
        simp! only [em]
        have okq : ∀ x ∈ prs.map (fun p : Str × List St => p.1), x ∈ okN := fun x hx => okp x (by rw [← en]; exact List.mem_append_left _ hx)
        refine block_wp N (⟨prs.map (·.1), fun x hx => ⟨okq x hx, ?_⟩, by rw [List.length_map]; omega, fun M => ne_strs okq⟩ : Prcs (prs.map fun p => some p.1)) 1 (m + 1) (by omega) (by decide) (by decide) F9.tape fun l M10 gl ll F10 => ?_
        · obtain ⟨p, hp, rfl⟩ := List.mem_map.mp hx
          exact List.mem_map.mpr ⟨p, hp, rfl⟩
        · simp! only [List.length_map]
          refine ⟨by omega, ?_⟩
          have := ih (prs ++ [(x, l)]) M10 (some (.str x)) o12 o13 (pfit_snoc pf (by rw [eN] at gl; exact gl) (by simpa using ll)) (by rw [← en]; simp) (F9.trans F10)
          unfold prsDL at this
          rw [List.map_append] at this
          simp only [b__law_program_2] at this
          exact this
    exact loop pn [] M8 none none none trivial rfl F8
  simp! only [b__law_program] at rest
  simp! only [ew, eb]
  refine wif (fun h0 => ?_) (fun h0 => ?_)
  · refine next_wp F3.tape (by decide) (by decide) fun k M4 k0 k1 F4 => ?_
    simp! only [ew, eb]
    exact rest [("r", 1 + k)] M4 (fun x hx => by rw [List.mem_singleton.mp hx]; exact ⟨List.mem_singleton.mpr rfl, by show 1 ≤ 1 + k; omega, by show 1 + k ≤ 8; omega⟩) (Nat.le_refl 1) (F3.trans F4)
  · exact rest [] M3 (fun x hx => absurd hx List.not_mem_nil) (by decide) F3
end
/-! K05n2: the law's own faults. -/
section
open PySem
variable {vs : List Va} {bs : List (Option Str)}
section
variable {n : Nat} {M : Hm} {Q : D → Hm → Prop} {E : Nat → D → Hm → Prop}
theorem ltype_wp (e : Ex) (q : List Nat) (hn : e.deep ≤ n) (hq : q.length + e.deep ≤ 900) (h : ∀ X, Q (tyL' (ty vs e q)) (M ++ X)) : wp ((rt prg n).call g__law_type [some (kdD vs), some e.d, some (pathD q)] [] M) Q E := by
  obtain ⟨X, e⟩ := law_type_eq (vs := vs) e n q M hn hq
  rw [e]
  exact h X
theorem ki_s (u d : Ki) : (u.s = d.s) = (u = d) := by
  cases u <;> cases d <;> simp [Ki.s, ofStr_inj]
theorem ki_row (u : Ki) : (u.s = Str.ofString "row") = (u = .row) := ki_s u .row
theorem kd_notin (x : Str) : opCmp .notin (.str x) (kdD vs) M = some (!(findV vs x).isSome) := by
  show (opCmp .isin (.str x) (kdD vs) M).map _ = _
  rw [kd_in]
  rfl
abbrev wrσ (vs : List Va) (s : D) (b : Nat) (kd : Str) (ps ds : List D) (o6 o7 : Option D) : Env := [some (kdD vs), some s, some (.ref b), some (.str kd), some (.tup ps), some (.lst ds), o6, o7]
theorem wrong_loop {m b : Nat} {s : D} {kd : Str} {es : List Ex} {ds : List Ki} {p : Po} : ∀ (es' : List Ex) (ds' : List Ki) (k : Nat) (M : Hm) (o6 o7 : Option D), (∀ j e, es'[j]? = some e → (es.map Ex.d)[k + j]? = some e.d) → (∀ j d, ds'[j]? = some d → (ds.map fun d => D.str d.s)[k + j]? = some (.str d.s)) → es'.length = ds'.length → (∀ e ∈ es', e.deep ≤ m ∧ e.deep ≤ 900) →
    (∀ X, match partsF vs k es' ds' with | some f => p.R f (M ++ X) | none => ∀ o6 o7, p.N (wrσ vs s b kd (es.map Ex.d) (ds.map fun d => D.str d.s) o6 o7) (M ++ X)) →
    wFor prg (rt prg m) [] (.nm 6) b__law_wrong_3 (rngD (k : Int) es'.length) (wrσ vs s b kd (es.map Ex.d) (ds.map fun d => D.str d.s) o6 o7) M p
  | [], ds', k, M, o6, o7, _, _, _, _, h => by
    have := h []
    rw [List.append_nil] at this
    cases ds' <;> exact this o6 o7
  | e :: es', [], k, M, o6, o7, _, _, hl, _, h => by cases hl
  | e :: es', d :: ds', k, M, o6, o7, h1, h2, hl, hn, h => by
    have hx : L2.atI (es.map Ex.d) ((k : Nat) : Int) = some e.d := L2.atI_nat (h1 0 e rfl)
    have hy : L2.atI (ds.map fun d => D.str d.s) ((k : Nat) : Int) = some (.str d.s) := L2.atI_nat (h2 0 d rfl)
    have pe : partsF vs k (e :: es') (d :: ds') = (match ty vs e [] with
      | .error z => some (.tup [.str "part", .int ((k : Nat) : Int), pathD z])
      | .ok t => if t = d then partsF vs (k + 1) es' ds' else some (.tup [.str "type", .int ((k : Nat) : Int)])) := rfl
    rw [pe] at h
    show wFor prg (rt prg m) [] (.nm 6) b__law_wrong_3 (rngD (k : Int) (es'.length + 1)) _ M p
    rw [rngD_cons]
    simp only [wFor_cons]
    simp! only [b__law_wrong_3, hx, hy]
    refine ltype_wp e [] (hn e List.mem_cons_self).1 (by simpa using (hn e List.mem_cons_self).2) fun X => ?_
    cases ht : ty vs e [] with
    | error z =>
      rw [ht] at h
      simp! only [tyL', b__law_wrong_2]
      exact h X
    | ok u =>
      rw [ht] at h
      simp! only [tyL', b__law_wrong_1, hy, ki_s]
      refine wifn (fun hd => ?_) (fun hd => ?_)
      · have := h X
        simp only [hd, if_false] at this
        exact this
      · have := wrong_loop es' ds' (k + 1) (M ++ X) (some (.int ((k : Nat) : Int))) (some (tyL' (.ok u))) (fun j e' he => by
          have := h1 (j + 1) e' he
          rw [show k + (j + 1) = k + 1 + j from by omega] at this
          exact this) (fun j d' hd' => by
          have := h2 (j + 1) d' hd'
          rw [show k + (j + 1) = k + 1 + j from by omega] at this
          exact this) (by simpa using hl) (fun e' he => hn e' (List.mem_cons_of_mem _ he)) (fun Y => by
          have := h (X ++ Y)
          simp only [hd, if_true] at this
          rw [List.append_assoc]
          exact this)
        simp only [b__law_wrong_3] at this
        exact this
theorem wrong_wp {b : Nat} (hb : M[b]? = some (.lst (bs.map nmD))) (s : St) (hn : ∀ e ∈ s.exs, e.deep + 1 ≤ n ∧ e.deep ≤ 900) (h1 : 1 ≤ n) (h : ∀ X, Q (optD (stF vs bs s)) (M ++ X)) : wp ((rt prg n).call g__law_wrong [some (kdD vs), some s.d, some (.ref b)] [] M) Q E := by
  obtain ⟨m, rfl⟩ : ∃ j, n = j + 1 := ⟨n - 1, by omega⟩
  have h0 := h []
  rw [List.append_nil] at h0
  rw [call__law_wrong_3, wX_top]
  have one : ∀ (e : Ex) (d : Ki) (kd : Str), (∀ e' ∈ [e], e'.deep ≤ m ∧ e'.deep ≤ 900) → (∀ X, Q (optD (partsF vs 0 [e] [d])) (M ++ X)) → wFor prg (rt prg m) [] (.nm 6) b__law_wrong_3 (rngD 0 1) (wrσ vs s.d b kd [e.d] [.str d.s] none none) M (poSeq prg (rt prg m) [] (b__law_wrong.drop 6) (poTop Q E)) := by
    intro e d kd he hp
    refine wrong_loop (es := [e]) (ds := [d]) [e] [d] 0 M none none (fun j x hx => ?_) (fun j x hx => ?_) rfl he (fun X => ?_)
    · rw [Nat.zero_add, List.getElem?_map, hx]; rfl
    · rw [Nat.zero_add, List.getElem?_map, hx]; rfl
    · have := hp X
      cases hf : partsF vs 0 [e] [d] with
      | some f => rw [hf] at this; exact this
      | none =>
        rw [hf] at this
        intro o6 o7
        simp! only [b__law_wrong]
        exact this
  cases s with
  | stop => simp! only [b__law_wrong, St.d, b__law_wrong_8]; exact h0
  | call x =>
    simp! only [b__law_wrong, St.d, b__law_wrong_7, in_before hb x]
    have e : optD (stF vs bs (.call x)) = if some x ∈ bs then .non else .tup [.str "call", .str x] := by
      show optD (if some x ∈ bs then none else some _) = _
      by_cases hx : some x ∈ bs <;> simp only [hx, if_true, if_false] <;> rfl
    rw [e] at h0
    refine wif (fun hx => ?_) (fun hx => ?_)
    · rw [if_pos hx] at h0; exact h0
    · rw [if_neg hx] at h0
      simp! only [wO_some]
      exact h0
  | shw e =>
    simp! only [b__law_wrong, St.d, b__law_wrong_4]
    exact one e .word _ (fun e' he => by have := hn e' he; omega) h
  | iff c a b' =>
    simp! only [b__law_wrong, St.d]
    exact one c .bit _ (fun e' he => by have := hn e' he; omega) h
  | whl c a =>
    simp! only [b__law_wrong, St.d]
    exact one c .bit _ (fun e' he => by have := hn e' he; omega) h
  | set x e =>
    have hs : stF vs bs (.set x e) = (match findV vs x with | some r => if r.k = .row then some (.tup [.str "name", .str x]) else partsF vs 0 [e] [r.k] | none => some (.tup [.str "name", .str x])) := rfl
    rw [hs] at h
    simp! only [b__law_wrong, St.d, b__law_wrong_6, kd_notin]
    cases hf : findV vs x with
    | none =>
      rw [hf] at h
      simp! only [Option.isSome_none, b__law_wrong_5]
      have := h []
      rw [List.append_nil] at this
      exact this
    | some r =>
      rw [hf] at h
      by_cases hk : r.k = .row
      · simp only [hk, if_true] at h
        simp! only [Option.isSome_some, kd_ix hf, ki_row, hk, b__law_wrong_5, ki_s]
        have := h []
        rw [List.append_nil] at this
        exact this
      · simp only [hk, if_false] at h
        simp! only [Option.isSome_some, kd_ix hf, ki_row, hk, b__law_wrong_5, ki_s]
        exact one e r.k _ (fun e' he => by have := hn e' he; omega) h
  | put x a e =>
    have hs : stF vs bs (.put x a e) = (match findV vs x with | some r => if r.k = .row then partsF vs 0 [a, e] [.word, .word] else some (.tup [.str "name", .str x]) | none => some (.tup [.str "name", .str x])) := rfl
    rw [hs] at h
    simp! only [b__law_wrong, St.d, b__law_wrong_6, kd_notin]
    cases hf : findV vs x with
    | none =>
      rw [hf] at h
      simp! only [Option.isSome_none, b__law_wrong_5]
      have := h []
      rw [List.append_nil] at this
      exact this
    | some r =>
      rw [hf] at h
      by_cases hk : r.k = .row
      · simp only [hk, if_true] at h
        simp! only [Option.isSome_some, kd_ix hf, ki_row, hk, b__law_wrong_5, ki_s]
        refine wrong_loop (m := m) (es := [a, e]) (ds := [.word, .word]) [a, e] [.word, .word] 0 M none none (fun j x hx => ?_) (fun j x hx => ?_) rfl (fun e' he => by have := hn e' (show e' ∈ [a, e] from he); omega) (fun X => ?_)
        · rw [Nat.zero_add, List.getElem?_map, hx]; rfl
        · rw [Nat.zero_add, List.getElem?_map, hx]; rfl
        · have := h X
          cases hf : partsF vs 0 [a, e] [.word, .word] with
          | some f => rw [hf] at this; exact this
          | none =>
            rw [hf] at this
            intro o6 o7
            simp! only [wO_some]
            exact this
      · simp only [hk, if_false] at h
        simp! only [Option.isSome_some, kd_ix hf, ki_row, hk, b__law_wrong_5, ki_s]
        have := h []
        rw [List.append_nil] at this
        exact this
theorem app_get {M X : Hm} {i : Nat} {o : MO} (h : M[i]? = some o) : (M ++ X)[i]? = some o := by
  rw [List.getElem?_append_left (List.getElem?_eq_some_iff.mp h).1]
  exact h
abbrev lfσ (vs : List Va) (ds : List D) (b : Nat) (q : List Nat) (o4 o5 o6 o7 o8 : Option D) : Env := [some (kdD vs), some (.tup ds), some (.ref b), some (pathD q), o4, o5, o6, o7, o8]
theorem path_add2 {q : List Nat} {k j : Nat} {M : Hm} (hq : q.length ≤ 1000) : opBin .add false (pathD q) (.tup [.int ((k : Nat) : Int), .int ((j : Nat) : Int)]) M = .ok (pathD (q ++ [k, j])) M := by
  unfold pathD
  rw [tup_add (by rw [List.length_map]; simp; omega), List.map_append]
  rfl
theorem need_len (b : Sts) : b.len ≤ b.need := len_need b
theorem ind_opt {f : Option D} (hf : ∀ d, f = some d → ∃ xs, d = .tup xs) {M : Hm} {Q : Bool → Hm → Prop} : wO (opCmp .isnot (optD f) .non M) M Q = Q f.isSome M := by
  cases f with
  | none => rfl
  | some d =>
    obtain ⟨xs, rfl⟩ := hf d rfl
    rfl
def FaultSpec (vs : List Va) (bs : List (Option Str)) (b n : Nat) : Prop := ∀ (blk : Sts) (q : List Nat) {M : Hm} {Q : D → Hm → Prop} {E : Nat → D → Hm → Prop}, M[b]? = some (.lst (bs.map nmD)) → blk.need ≤ n → q.length + 2 * n ≤ 900 → (∀ X, Q (optD (blF vs bs q 0 blk)) (M ++ X)) →
  wp ((rt prg n).call g__law_fault [some (kdD vs), some (.tup blk.ds), some (.ref b), some (pathD q)] [] M) Q E
theorem fault_turn {m b : Nat} (ih : FaultSpec vs bs b m) {M : Hm} (hb : M[b]? = some (.lst (bs.map nmD))) {ds : List D} {q : List Nat} {k : Nat} {s : St} {p : Po} (hk : ds[k]? = some s.d) (hs : s.need ≤ m) (hq : q.length + 2 * m + 2 ≤ 900) (o4 o5 o6 o7 o8 : Option D)
    (h : ∀ X, match turnF vs bs q k s with | some f => p.R f (M ++ X) | none => ∀ o5 o6 o7 o8, p.N (lfσ vs ds b q (some (.int ((k : Nat) : Int))) o5 o6 o7 o8) (M ++ X)) :
    wXs prg (rt prg m) [] b__law_fault_4 (lfσ vs ds b q (some (.int ((k : Nat) : Int))) o5 o6 o7 o8) M p := by
  have hx : L2.atI ds ((k : Nat) : Int) = some s.d := L2.atI_nat hk
  have hexs := need_exs s
  simp! only [b__law_fault_4, hx]
  refine wrong_wp hb s (fun e he => by have := hexs.1 e he; omega) (by have := hexs.2; omega) fun X => ?_
  have hX := h X
  unfold turnF at hX
  cases ho : stF vs bs s with
  | some f =>
    obtain ⟨ys, rfl⟩ := stF_tup ho
    rw [ho] at hX
    simp! only [optD, b__law_fault_3, path_add (show q.length ≤ 1000 by omega)]
    exact hX
  | none =>
    rw [ho] at hX
    have hp0 : ∀ M, opBin .add false (pathD q) (.tup [.int ((k : Nat) : Int), .int 0]) M = .ok (pathD (q ++ [k, 0])) M := fun M => path_add2 (j := 0) (by omega)
    have hp1 : ∀ M, opBin .add false (pathD q) (.tup [.int ((k : Nat) : Int), .int 1]) M = .ok (pathD (q ++ [k, 1])) M := fun M => path_add2 (j := 1) (by omega)
    have r1 : rngD 0 1 = [.int 0] := rfl
    have r2 : rngD 0 2 = [.int 0, .int 1] := rfl
    cases s with
    | set x e => simp! only [optD, hx, St.d, show rngD 0 0 = [] from rfl]; exact hX _ _ _ _
    | put x a e => simp! only [optD, hx, St.d, show rngD 0 0 = [] from rfl]; exact hX _ _ _ _
    | call x => simp! only [optD, hx, St.d, show rngD 0 0 = [] from rfl]; exact hX _ _ _ _
    | stop => simp! only [optD, hx, St.d, show rngD 0 0 = [] from rfl]; exact hX _ _ _ _
    | shw e => simp! only [optD, hx, St.d, show rngD 0 0 = [] from rfl]; exact hX _ _ _ _
    | whl c a =>
      simp only [St.need] at hs
      simp! only [optD, hx, St.d, r1]
      simp only [wFor_cons]
      simp! only [b__law_fault_2, hp0]
      refine ih a (q ++ [k, 0]) (app_get hb) (by omega) (by simp; omega) fun Y => ?_
      have hY := h (X ++ Y)
      unfold turnF at hY
      rw [ho] at hY
      have hY : match blF vs bs (q ++ [k, 0]) 0 a with | some f => p.R f (M ++ (X ++ Y)) | none => ∀ o5 o6 o7 o8, p.N (lfσ vs ds b q (some (.int ((k : Nat) : Int))) o5 o6 o7 o8) (M ++ (X ++ Y)) := hY
      rw [List.append_assoc]
      simp! only [ind_opt (fun d hd => blF_tup vs bs a _ _ d hd)]
      cases hb1 : blF vs bs (q ++ [k, 0]) 0 a with
      | some f =>
        rw [hb1] at hY
        simp! only [Option.isSome_some, b__law_fault_1, optD]
        exact hY
      | none =>
        rw [hb1] at hY
        simp! only [Option.isSome_none, wFor_nil]
        exact hY _ _ _ _
    | iff c a a' =>
      simp only [St.need] at hs
      simp! only [optD, hx, St.d, r2]
      simp only [wFor_cons]
      simp! only [b__law_fault_2, hp0]
      refine ih a (q ++ [k, 0]) (app_get hb) (by omega) (by simp; omega) fun Y => ?_
      have hY := h (X ++ Y)
      unfold turnF at hY
      rw [ho] at hY
      have hY : match (match blF vs bs (q ++ [k, 0]) 0 a with | some f => some f | none => blF vs bs (q ++ [k, 1]) 0 a') with | some f => p.R f (M ++ (X ++ Y)) | none => ∀ o5 o6 o7 o8, p.N (lfσ vs ds b q (some (.int ((k : Nat) : Int))) o5 o6 o7 o8) (M ++ (X ++ Y)) := hY
      rw [List.append_assoc]
      simp! only [ind_opt (fun d hd => blF_tup vs bs a _ _ d hd)]
      cases hb1 : blF vs bs (q ++ [k, 0]) 0 a with
      | some f =>
        rw [hb1] at hY
        simp! only [Option.isSome_some, b__law_fault_1, optD]
        exact hY
      | none =>
        simp! only [Option.isSome_none]
        simp only [wFor_cons]
        simp! only [b__law_fault_2, hx, St.d, hp1]
        refine ih a' (q ++ [k, 1]) (app_get hb) (by omega) (by simp; omega) fun Z => ?_
        have hZ := h (X ++ Y ++ Z)
        unfold turnF at hZ
        rw [ho] at hZ
        have hZ : match (match blF vs bs (q ++ [k, 0]) 0 a with | some f => some f | none => blF vs bs (q ++ [k, 1]) 0 a') with | some f => p.R f (M ++ (X ++ Y ++ Z)) | none => ∀ o5 o6 o7 o8, p.N (lfσ vs ds b q (some (.int ((k : Nat) : Int))) o5 o6 o7 o8) (M ++ (X ++ Y ++ Z)) := hZ
        rw [hb1] at hZ
        rw [List.append_assoc]
        simp! only [ind_opt (fun d hd => blF_tup vs bs a' _ _ d hd)]
        cases hb2 : blF vs bs (q ++ [k, 1]) 0 a' with
        | some f =>
          rw [hb2] at hZ
          simp! only [Option.isSome_some, b__law_fault_1, optD]
          exact hZ
        | none =>
          rw [hb2] at hZ
          simp! only [Option.isSome_none, wFor_nil]
          exact hZ _ _ _ _
theorem fault_loop {m b : Nat} (ih : FaultSpec vs bs b m) {ds : List D} {q : List Nat} {p : Po} (hq : q.length + 2 * m + 2 ≤ 900) : ∀ (r : Sts) (k : Nat) (M : Hm) (o4 o5 o6 o7 o8 : Option D), M[b]? = some (.lst (bs.map nmD)) → (∀ j s, r.toL[j]? = some s → ds[k + j]? = some s.d) → (∀ s ∈ r.toL, s.need ≤ m) →
    (∀ X, match blF vs bs q k r with | some f => p.R f (M ++ X) | none => ∀ o4 o5 o6 o7 o8, p.N (lfσ vs ds b q o4 o5 o6 o7 o8) (M ++ X)) →
    wFor prg (rt prg m) [] (.nm 4) b__law_fault_4 (rngD (k : Int) r.len) (lfσ vs ds b q o4 o5 o6 o7 o8) M p
  | .nil, k, M, o4, o5, o6, o7, o8, _, _, _, h => by
    have := h []
    rw [List.append_nil] at this
    exact this o4 o5 o6 o7 o8
  | .cons s r, k, M, o4, o5, o6, o7, o8, hb, hk, hs, h => by
    rw [blF_cons] at h
    show wFor prg (rt prg m) [] (.nm 4) b__law_fault_4 (rngD (k : Int) (r.len + 1)) _ M p
    rw [rngD_cons]
    simp only [wFor_cons]
    simp! only [wO_some]
    refine fault_turn ih hb (hk 0 s rfl) (hs s List.mem_cons_self) hq (some (.int ((k : Nat) : Int))) o5 o6 o7 o8 fun X => ?_
    have hX := h X
    cases ho : turnF vs bs q k s with
    | some f =>
      rw [ho] at hX
      exact hX
    | none =>
      intro o5 o6 o7 o8
      refine fault_loop ih hq r (k + 1) (M ++ X) _ _ _ _ _ (app_get hb) (fun j s' hs' => ?_) (fun s' hs' => hs s' (List.mem_cons_of_mem _ hs')) (fun Y => ?_)
      · have := hk (j + 1) s' hs'
        rw [show k + (j + 1) = k + 1 + j from by omega] at this
        exact this
      · have := h (X ++ Y)
        rw [ho, ← List.append_assoc] at this
        exact this
theorem need_mem {m : Nat} : ∀ {b : Sts}, b.need ≤ m + 1 → ∀ s ∈ b.toL, s.need ≤ m
  | .nil, _, s, hs => absurd hs List.not_mem_nil
  | .cons s r, h, s', hs => by
    simp only [Sts.need] at h
    rcases List.mem_cons.mp hs with rfl | hs
    · omega
    · exact need_mem (by omega) s' hs
theorem fault_wp (vs : List Va) (bs : List (Option Str)) (b : Nat) : ∀ n, FaultSpec vs bs b n
  | 0 => fun blk q M Q E hb hn hq h => by
    cases blk <;> simp [Sts.need] at hn
  | m + 1 => fun blk q M Q E hb hn hq h => by
    rw [call__law_fault_4, wX_top]
    have hl : blk.len ≤ m + 1 := Nat.le_trans (need_len blk) hn
    simp! only [b__law_fault, ds_len]
    refine ⟨by omega, ?_⟩
    have := fault_loop (fault_wp vs bs b m) (ds := blk.ds) (q := q) (p := poSeq prg (rt prg m) [] (b__law_fault.drop 1) (poTop Q E)) (by omega) blk 0 M none none none none none hb (fun j s hs => by rw [Nat.zero_add, ds_toL, List.getElem?_map, hs]; rfl) (need_mem hn) (fun X => by
      have := h X
      cases hf : blF vs bs q 0 blk with
      | some f => rw [hf] at this; exact this
      | none =>
        rw [hf] at this
        intro o4 o5 o6 o7 o8
        simp! only [b__law_fault]
        exact this)
    exact this
end
end
/-! K05n3: first faults, same, odd. -/
section
open PySem
theorem prs_map {α : Type} {f : α → Str} {g : α → D} : ∀ l : List α, prs? (l.map fun a => D.tup [.str (f a), g a]) = some (l.map fun a => (.inr (f a), g a))
  | [] => rfl
  | a :: l => by
    show (match keyD (.str (f a)), prs? (l.map fun a => D.tup [.str (f a), g a]) with | some k, some r => some ((k, g a) :: r) | _, _ => none) = _
    rw [prs_map l]
    rfl
theorem putAll_nd : ∀ (l : List (L2.Key × D)) (ks : List L2.Key) (vs : List D), (l.map (·.1)).Nodup → (∀ k ∈ l.map (·.1), k ∉ ks) → putAll l (ks, vs) = (ks ++ l.map (·.1), vs ++ l.map (·.2))
  | [], ks, vs, _, _ => by simp [putAll]
  | (k, v) :: l, ks, vs, hn, hk => by
    rw [List.map_cons, List.nodup_cons] at hn
    have h1 : (ks.any fun j => decide (j = k)) = false := by
      rw [List.any_eq_false]
      intro j hj
      simp only [decide_eq_true_eq]
      rintro rfl
      exact hk j (by simp) hj
    show putAll l (kput k v ks vs) = _
    unfold kput
    rw [if_neg (by rw [h1]; decide)]
    rw [putAll_nd l (ks ++ [k]) (vs ++ [v]) hn.2 (fun j hj => by
      intro h
      rcases List.mem_append.mp h with h | h
      · exact hk j (List.mem_cons_of_mem _ hj) h
      · rw [List.mem_singleton.mp h] at hj
        exact hn.1 hj)]
    simp
theorem kinds_eq {vs : List Va} (h : (vs.map (·.x)).Nodup) : putAll (vs.map fun r => ((.inr r.x : L2.Key), D.str r.k.s)) ([], []) = (vs.map fun r => .inr r.x, vs.map fun r => .str r.k.s) := by
  rw [putAll_nd _ _ _ ?_ (fun _ _ => List.not_mem_nil)]
  · simp [Function.comp_def]
  · rw [List.map_map]
    have : (vs.map (fun r : Va => r.x)).map (fun x => (.inr x : L2.Key)) = vs.map ((fun p : L2.Key × D => p.1) ∘ fun r => ((.inr r.x : L2.Key), D.str r.k.s)) := by rw [List.map_map]; rfl
    rw [← this]
    exact List.Pairwise.map _ (fun a b hab e => hab (Sum.inr.inj e)) h
section
variable {vs : List Va} {n : Nat} {M : Hm} {Q : D → Hm → Prop} {E : Nat → D → Hm → Prop}
abbrev lfS (vs : List Va) (ps : D) (b : Nat) (o3 o4 o5 o6 : Option D) : Env := [some ps, some (kdD vs), some (.ref b), o3, o4, o5, o6]
theorem first_loop {m : Nat} {ps : D} {M0 : Hm} {p : Po} (hm : 2 * m ≤ 800) : ∀ (l : List Bd) (bs : List (Option Str)) (Y : Hm) (o3 o4 o5 o6 : Option D), (∀ x ∈ l, x.2.need ≤ m) → bs.length + l.length ≤ 1000 → (M0 ++ Y)[M0.length]? = some (.lst (bs.map nmD)) →
    (∀ X, match firstF vs bs l with | some f => p.R f (M0 ++ X) | none => ∀ o3 o4 o5 o6, p.N (lfS vs ps M0.length o3 o4 o5 o6) (M0 ++ X)) →
    wFor prg (rt prg m) [] (.tp (.cons (.nm 4) (.cons (.nm 5) .nil))) b__law_first_2 (l.map bdD) (lfS vs ps M0.length o3 o4 o5 o6) (M0 ++ Y) p
  | [], bs, Y, o3, o4, o5, o6, _, _, _, h => h Y o3 o4 o5 o6
  | x :: l, bs, Y, o3, o4, o5, o6, hn, hl, hb, h => by
    have e : firstF vs bs (x :: l) = (match blF vs bs [] 0 x.2 with | some f => some (named x.1 f) | none => firstF vs (bs ++ [x.1]) l) := rfl
    rw [e] at h
    simp only [List.length_cons] at hl
    simp only [List.map_cons, wFor_cons]
    simp! only [bdD, b__law_first_2]
    refine fault_wp vs bs M0.length m x.2 [] hb (hn x List.mem_cons_self) (by simpa using (by omega : 2 * m ≤ 900)) fun X => ?_
    have hb2 : (M0 ++ Y ++ X)[M0.length]? = some (.lst (bs.map nmD)) := app_get hb
    simp! only [ind_opt (fun d hd => blF_tup vs bs x.2 _ _ d hd), hb2]
    cases hf : blF vs bs [] 0 x.2 with
    | some f =>
      obtain ⟨f1, f2, rfl⟩ := blF_two vs bs x.2 _ _ _ hf
      have hX := h (Y ++ X)
      rw [hf] at hX
      simp! only [Option.isSome_some, b__law_first_1, optD]
      rw [List.append_assoc]
      exact hX
    | none =>
      have hs : ∀ o, (M0 ++ Y ++ X).set M0.length o = M0 ++ (Y ++ X).set 0 o := fun o => by
        rw [List.append_assoc, List.set_append_right _ _ (Nat.le_refl _), Nat.sub_self]
      simp! only [Option.isSome_none, hb2, List.length_map, hs]
      refine ⟨by omega, ?_⟩
      have hlen : 0 < (Y ++ X).length := by
        have := (List.getElem?_eq_some_iff.mp hb2).1
        rw [List.append_assoc, List.length_append] at this
        omega
      have := first_loop (M0 := M0) hm (ps := ps) (p := p) l (bs ++ [x.1]) ((Y ++ X).set 0 (.lst (bs.map nmD ++ [nmD x.1]))) o3 (some (nmD x.1)) (some (.tup x.2.ds)) (some .non) (fun y hy => hn y (List.mem_cons_of_mem _ hy)) (by rw [List.length_append]; simp; omega) (by
        rw [List.getElem?_append_right (Nat.le_refl M0.length), Nat.sub_self, List.getElem?_set_self hlen, List.map_append]
        rfl) (fun Z => by
        have hZ := h Z
        rw [hf] at hZ
        exact hZ)
      simp only [b__law_first_2] at this
      exact this
theorem first_wp {prs : List (Str × Sts)} {blk : Sts} {nm : D} {m : Nat} (hm : 2 * m ≤ 800) (hv : (vs.map (·.x)).Nodup) (lv : vs.length ≤ 1000) (hp : prs.length ≤ 900) (hn : ∀ x ∈ bodL prs blk, x.2.need ≤ m)
    (h : ∀ X, Q (optD (firstF vs [] (bodL prs blk))) (M ++ X)) : wp ((rt prg (m + 1)).call g__law_first [some (.tup [nm, .tup (vs.map Va.d), prsD prs, .tup blk.ds])] [] M) Q E := by
  rw [call__law_first_1, wX_top]
  simp! only [b__law_first]
  refine ⟨by rw [List.length_map]; omega, ?_⟩
  refine wLc_map (v := fun r : Va => .tup [.str r.x, .str r.k.s]) (fun r _ Q hq => by simp only [wLc_cons]; simp! only [Va.d]; exact hq) ?_
  simp! only [prs_map, kinds_eq hv, prsD]
  refine ⟨by rw [List.length_map]; omega, ?_⟩
  have hlen : (bodL prs blk).length ≤ 1000 := by unfold bodL; simp; omega
  have el : (prs.map fun x => bdD (some x.1, x.2)) ++ [D.tup [.non, .tup blk.ds]] = (bodL prs blk).map bdD := by
    unfold bodL
    rw [List.map_append, List.map_map]
    rfl
  simp! only [el]
  refine first_loop hm (bodL prs blk) [] [.lst []] none none none none hn (by simpa using hlen) app_at fun X => ?_
  have hX := h X
  cases hf : firstF vs [] (bodL prs blk) with
  | some f => rw [hf] at hX; exact hX
  | none =>
    rw [hf] at hX
    intro o3 o4 o5 o6
    simp! only [wO_some]
    exact hX
end
end
end Mi.K05
namespace Mi.K05
local macro_rules | `(tactic| simp! only [$ls,*]) => `(tactic| (try simp only [List.cons_append, List.nil_append, ↓kFn_e, ↓g_subD, ↓kSubD_d, ↓g_atR, ↓kAtR_i, ↓kNew_e, ↓drop_1, ↓drop_2, ↓drop_3, ↓drop_4, ↓drop_5, ↓drop_6, ↓drop_7, ↓drop_8, ↓drop_9, ↓drop_10, ↓drop_11, ↓drop_12, ↓po_whlN, ↓po_whlR, ↓po_whlB, ↓po_whlC, ↓po_whlE, ↓e_pE, ↓e_kTup, ↓e_kLst, ↓e_kDsp, ↓e_kBin2, ↓e_kBin1, ↓e_kUn, ↓e_kBl, ↓e_kCmp2, ↓e_kCmp1, ↓e_kChn4, ↓e_kChn3, ↓e_kChn2, ↓e_kChn1, ↓e_kNot, ↓e_kIfe, ↓e_kIfT, ↓e_kIx2, ↓e_kIx1, ↓e_kSl3, ↓e_kSl2, ↓e_kSl1, ↓e_kCall, ↓e_kA2, ↓e_kA1, ↓e_kAl, ↓e_kAL, ↓e_kEs2, ↓e_kEs1, ↓e_kClo, ↓e_kMake, ↓e_kFld, ↓e_kBi, ↓e_kBm2, ↓e_kBm1, ↓e_kIsi, ↓e_kLc4, ↓e_kLc3, ↓e_kLc2, ↓e_kLc1, ↓e_kIv, ↓e_kIr2, ↓e_kIr1, ↓e_kK3, ↓e_kK2, ↓e_kK1, ↓e_kExpr, ↓e_kAsg, ↓e_kG, ↓e_kSb2, ↓e_kSb1, ↓e_kAt, ↓e_kPar, ↓e_kAug2, ↓e_kIf, ↓e_kForB, ↓e_kWhl, ↓e_kRse, ↓wE_cst, ↓wE_var, ↓wE_glc, ↓wE_fnv, ↓wE_tup, ↓wE_lst, ↓wE_bin, ↓wE_un, ↓wE_cmp, ↓wE_chn, ↓wE_bop, ↓wE_not, ↓wE_ife, ↓wE_ix, ↓wE_sl, ↓wE_call, ↓wE_callv, ↓wE_make, ↓wE_fld, ↓wE_bi, ↓wE_bm, ↓wE_isi, ↓wE_lc, ↓wE_dsp, ↓wEs_nil, ↓wEs_cons, ↓wA_nil, ↓wA_cst, ↓wA_var, ↓wA_glc, ↓wA_fnv, ↓wA_tup, ↓wA_lst, ↓wA_bin, ↓wA_un, ↓wA_cmp, ↓wA_bop, ↓wA_not, ↓wA_ife, ↓wA_ix, ↓wA_sl, ↓wA_call, ↓wA_callv, ↓wA_make, ↓wA_meth, ↓wA_fld, ↓wA_bi, ↓wA_bm, ↓wA_isi, ↓wA_lc, ↓wA_dsp, ↓wA_lam, ↓wP_no, ↓wP_some, ↓wB_one, ↓wB_cons, ↓wT_val, ↓wT_cmp, ↓wT_chn, ↓wT_not, ↓wT_bop, ↓wT_ife, ↓wTB_nil, ↓wTB_cons, ↓wK_nil, ↓wK_cons, ↓wI_val, ↓wI_rng1, ↓wI_rng2, ↓wG_nm, ↓wG_tp1, ↓wG_tp2, ↓wG_tp3, ↓wG_tp4, ↓wGs_nil, ↓wGs_cons, ↓wG_sb, ↓wG_at, ↓wXs_nil, ↓wXs_cons, ↓wX_expr, ↓wX_asg, ↓wX_par, ↓wX_aug, ↓wX_ife, ↓wX_fr, ↓wX_whl, ↓wX_ret, ↓wX_retn, ↓wX_rse, ↓wX_tr, ↓wX_brk, ↓wX_cnt, ↓wX_pas, ↓wO_some, ↓wO_none, ↓wp_ok, ↓wp_exc, ↓wp_bad, ↓wps_nxt, ↓wps_ret, ↓wps_exc, ↓wps_bad, ↓kLc_items, ↓kFor_items, ↓wLc_nil, ↓wFor_nil, ↓kB1_t, ↓kB1_f, ↓kTB1_t, ↓kTB1_f, ↓kVal_bl, ↓kNotV_bl, ↓kPi_int, ↓kIr_int, ↓kAug_some, ↓kCv_some, ↓augS_add, ↓augS_sub, ↓po_seqN, ↓po_seqR, ↓po_seqB, ↓po_seqC, ↓po_seqE, ↓po_topN, ↓po_topR, ↓po_topE, ↓po_forN, ↓po_forR, ↓po_forB, ↓po_forC, ↓po_forE, ↓po_trN, ↓po_trR, ↓po_trB, ↓po_trC, ↓po_trE, ↓setAll_nil, ↓setAll_cons, ↓wipe_nil, ↓wipe_cons, ↓free_nil, ↓bnot_t, ↓bnot_f, ↓tf_eq, ↓ft_eq, ↓tt_eq, ↓ff_eq, ↓ofStr_inj, ↓o_add, ↓o_sub, ↓o_mul, ↓o_fdiv, ↓o_mod, ↓o_pow, ↓o_shl, ↓o_shr, ↓o_band, ↓o_bor, ↓o_bxor, ↓o_strs, ↓o_tups, ↓o_lsts, ↓o_neg, ↓o_inv, ↓c_eqi, ↓c_nei, ↓c_lti, ↓c_lei, ↓c_gti, ↓c_gei, ↓c_eqs, ↓c_nes, ↓c_eqb, ↓c_neb, ↓c_eqn, ↓c_nen, ↓c_eqns, ↓c_eqsn, ↓c_eqni, ↓c_eqin, ↓c_eqis, ↓c_eqsi, ↓c_isn, ↓c_isi, ↓c_isb, ↓c_iss, ↓c_ist, ↓c_isl, ↓c_isr, ↓c_inn, ↓c_ini, ↓c_inb, ↓c_ins, ↓c_int, ↓c_inl, ↓c_inr, ↓c_int_, ↓c_inl_, ↓c_nint_, ↓eqF_ss, ↓eqF_ii, ↓eqF_ns, ↓eqF_nn, ↓eqF_sn, ↓eqF_is, ↓eqF_si, ↓eqF_in, ↓eqF_ni, ↓flat_s, ↓flat_i, ↓flat_n, ↓flat_b, ↓x_tup, ↓x_lst, ↓x_flst, ↓x_dic, ↓s_tup, ↓s_lst, ↓b_len, ↓l_tup, ↓l_lst, ↓l_flst, ↓l_str, ↓b_abs, ↓b_int, ↓b_intb, ↓b_tup, ↓b_tupl, ↓b_lstt, ↓b_lstl, ↓b_lstf, ↓b_sum, ↓b_all, ↓b_any, ↓b_dict, ↓r_tup, ↓r_lst, ↓r_flst, ↓r_rng2, ↓slot_0, ↓set_0, ↓slot_1, ↓set_1, ↓slot_2, ↓set_2, ↓slot_3, ↓set_3, ↓slot_4, ↓set_4, ↓slot_5, ↓set_5, ↓slot_6, ↓set_6, ↓slot_7, ↓set_7, ↓slot_8, ↓set_8, ↓slot_9, ↓set_9, ↓slot_10, ↓set_10, ↓slot_11, ↓set_11, ↓slot_12, ↓set_12, ↓slot_13, ↓set_13, ↓slot_14, ↓set_14, ↓slot_15, ↓set_15, ↓slot_16, ↓set_16, ↓slot_17, ↓set_17, ↓slot_18, ↓set_18, ↓slot_19, ↓set_19, ↓atI_0, ↓atI_1, ↓atI_2, ↓atI_3, ↓atI_4, ↓atI_5, ↓atI_6, ↓atI_7, ↓atI_8, ↓atI_9, ↓atI_10, ↓atI_11, ↓atI_12, ↓ixN_0, ↓ixN_1, ↓ixN_2, ↓ixN_3, ↓ixN_4, ↓ixN_5, ↓x_refR, ↓kIxR_l, ↓l_refR, ↓kLenR_l, ↓g_subR, ↓kSubR_l, ↓kSub2_e, ↓b_tupR, ↓kTupR_l, ↓m_appR, ↓kAppR_l, ↓m_okR, ↓m_okP, ↓m_popR, ↓kPopR_l, ↓kPop2_e, ↓augL_R, ↓kAugL_l, ↓isLstO_l, ↓m_set_set, ↓cut_to1, ↓cut_from1, ↓cut_from2, ↓cut_from3, ↓cut_12, ↓cut_last, ↓ldrop_1, ↓ldrop_2, ↓ldrop_3, ↓ints_nil, ↓ints_cons, ↓bls_nil, ↓bls_cons, ↓omap, ↓reduceIte, decide_true, decide_false, Bool.and_true, Bool.true_and, Bool.and_false, Bool.false_and, Bool.or_true, Bool.true_or, Bool.or_false, Bool.false_or, List.all_cons, List.all_nil, List.any_cons, List.any_nil, List.sum_cons, List.sum_nil,  true_and, and_true, and_self, or_true, true_or, or_false, false_or, and_false, false_and, not_true_eq_false, not_false_eq_true,  nc0, nc1, nc2, nc3, nc4, nc5, nc6, nc7, nc8, nc9, nc10, nc11, nc12, nc13, nc14, nc15, nc16, List.length_cons, List.length_nil, Nat.reduceAdd, Nat.reduceSub, Nat.reduceLeDiff, Nat.reduceLT, Nat.reduceEqDiff, Int.reduceLE, Int.reduceLT, Int.reduceNeg, Int.reduceAdd, Int.reduceSub, Int.reduceMul, Int.reducePow, Int.reduceToNat, Int.reduceEq, Int.reduceNe, String.reduceEq, Nat.zero_add, $ls,*]))
local macro_rules | `(tactic| simp! only [$ls,*] at $h:ident) => `(tactic| (try simp only [List.cons_append, List.nil_append, ↓kFn_e, ↓g_subD, ↓kSubD_d, ↓g_atR, ↓kAtR_i, ↓kNew_e, ↓drop_1, ↓drop_2, ↓drop_3, ↓drop_4, ↓drop_5, ↓drop_6, ↓drop_7, ↓drop_8, ↓drop_9, ↓drop_10, ↓drop_11, ↓drop_12, ↓po_whlN, ↓po_whlR, ↓po_whlB, ↓po_whlC, ↓po_whlE, ↓e_pE, ↓e_kTup, ↓e_kLst, ↓e_kDsp, ↓e_kBin2, ↓e_kBin1, ↓e_kUn, ↓e_kBl, ↓e_kCmp2, ↓e_kCmp1, ↓e_kChn4, ↓e_kChn3, ↓e_kChn2, ↓e_kChn1, ↓e_kNot, ↓e_kIfe, ↓e_kIfT, ↓e_kIx2, ↓e_kIx1, ↓e_kSl3, ↓e_kSl2, ↓e_kSl1, ↓e_kCall, ↓e_kA2, ↓e_kA1, ↓e_kAl, ↓e_kAL, ↓e_kEs2, ↓e_kEs1, ↓e_kClo, ↓e_kMake, ↓e_kFld, ↓e_kBi, ↓e_kBm2, ↓e_kBm1, ↓e_kIsi, ↓e_kLc4, ↓e_kLc3, ↓e_kLc2, ↓e_kLc1, ↓e_kIv, ↓e_kIr2, ↓e_kIr1, ↓e_kK3, ↓e_kK2, ↓e_kK1, ↓e_kExpr, ↓e_kAsg, ↓e_kG, ↓e_kSb2, ↓e_kSb1, ↓e_kAt, ↓e_kPar, ↓e_kAug2, ↓e_kIf, ↓e_kForB, ↓e_kWhl, ↓e_kRse, ↓wE_cst, ↓wE_var, ↓wE_glc, ↓wE_fnv, ↓wE_tup, ↓wE_lst, ↓wE_bin, ↓wE_un, ↓wE_cmp, ↓wE_chn, ↓wE_bop, ↓wE_not, ↓wE_ife, ↓wE_ix, ↓wE_sl, ↓wE_call, ↓wE_callv, ↓wE_make, ↓wE_fld, ↓wE_bi, ↓wE_bm, ↓wE_isi, ↓wE_lc, ↓wE_dsp, ↓wEs_nil, ↓wEs_cons, ↓wA_nil, ↓wA_cst, ↓wA_var, ↓wA_glc, ↓wA_fnv, ↓wA_tup, ↓wA_lst, ↓wA_bin, ↓wA_un, ↓wA_cmp, ↓wA_bop, ↓wA_not, ↓wA_ife, ↓wA_ix, ↓wA_sl, ↓wA_call, ↓wA_callv, ↓wA_make, ↓wA_meth, ↓wA_fld, ↓wA_bi, ↓wA_bm, ↓wA_isi, ↓wA_lc, ↓wA_dsp, ↓wA_lam, ↓wP_no, ↓wP_some, ↓wB_one, ↓wB_cons, ↓wT_val, ↓wT_cmp, ↓wT_chn, ↓wT_not, ↓wT_bop, ↓wT_ife, ↓wTB_nil, ↓wTB_cons, ↓wK_nil, ↓wK_cons, ↓wI_val, ↓wI_rng1, ↓wI_rng2, ↓wG_nm, ↓wG_tp1, ↓wG_tp2, ↓wG_tp3, ↓wG_tp4, ↓wGs_nil, ↓wGs_cons, ↓wG_sb, ↓wG_at, ↓wXs_nil, ↓wXs_cons, ↓wX_expr, ↓wX_asg, ↓wX_par, ↓wX_aug, ↓wX_ife, ↓wX_fr, ↓wX_whl, ↓wX_ret, ↓wX_retn, ↓wX_rse, ↓wX_tr, ↓wX_brk, ↓wX_cnt, ↓wX_pas, ↓wO_some, ↓wO_none, ↓wp_ok, ↓wp_exc, ↓wp_bad, ↓wps_nxt, ↓wps_ret, ↓wps_exc, ↓wps_bad, ↓kLc_items, ↓kFor_items, ↓wLc_nil, ↓wFor_nil, ↓kB1_t, ↓kB1_f, ↓kTB1_t, ↓kTB1_f, ↓kVal_bl, ↓kNotV_bl, ↓kPi_int, ↓kIr_int, ↓kAug_some, ↓kCv_some, ↓augS_add, ↓augS_sub, ↓po_seqN, ↓po_seqR, ↓po_seqB, ↓po_seqC, ↓po_seqE, ↓po_topN, ↓po_topR, ↓po_topE, ↓po_forN, ↓po_forR, ↓po_forB, ↓po_forC, ↓po_forE, ↓po_trN, ↓po_trR, ↓po_trB, ↓po_trC, ↓po_trE, ↓setAll_nil, ↓setAll_cons, ↓wipe_nil, ↓wipe_cons, ↓free_nil, ↓bnot_t, ↓bnot_f, ↓tf_eq, ↓ft_eq, ↓tt_eq, ↓ff_eq, ↓ofStr_inj, ↓o_add, ↓o_sub, ↓o_mul, ↓o_fdiv, ↓o_mod, ↓o_pow, ↓o_shl, ↓o_shr, ↓o_band, ↓o_bor, ↓o_bxor, ↓o_strs, ↓o_tups, ↓o_lsts, ↓o_neg, ↓o_inv, ↓c_eqi, ↓c_nei, ↓c_lti, ↓c_lei, ↓c_gti, ↓c_gei, ↓c_eqs, ↓c_nes, ↓c_eqb, ↓c_neb, ↓c_eqn, ↓c_nen, ↓c_eqns, ↓c_eqsn, ↓c_eqni, ↓c_eqin, ↓c_eqis, ↓c_eqsi, ↓c_isn, ↓c_isi, ↓c_isb, ↓c_iss, ↓c_ist, ↓c_isl, ↓c_isr, ↓c_inn, ↓c_ini, ↓c_inb, ↓c_ins, ↓c_int, ↓c_inl, ↓c_inr, ↓c_int_, ↓c_inl_, ↓c_nint_, ↓eqF_ss, ↓eqF_ii, ↓eqF_ns, ↓eqF_nn, ↓eqF_sn, ↓eqF_is, ↓eqF_si, ↓eqF_in, ↓eqF_ni, ↓flat_s, ↓flat_i, ↓flat_n, ↓flat_b, ↓x_tup, ↓x_lst, ↓x_flst, ↓x_dic, ↓s_tup, ↓s_lst, ↓b_len, ↓l_tup, ↓l_lst, ↓l_flst, ↓l_str, ↓b_abs, ↓b_int, ↓b_intb, ↓b_tup, ↓b_tupl, ↓b_lstt, ↓b_lstl, ↓b_lstf, ↓b_sum, ↓b_all, ↓b_any, ↓b_dict, ↓r_tup, ↓r_lst, ↓r_flst, ↓r_rng2, ↓slot_0, ↓set_0, ↓slot_1, ↓set_1, ↓slot_2, ↓set_2, ↓slot_3, ↓set_3, ↓slot_4, ↓set_4, ↓slot_5, ↓set_5, ↓slot_6, ↓set_6, ↓slot_7, ↓set_7, ↓slot_8, ↓set_8, ↓slot_9, ↓set_9, ↓slot_10, ↓set_10, ↓slot_11, ↓set_11, ↓slot_12, ↓set_12, ↓slot_13, ↓set_13, ↓slot_14, ↓set_14, ↓slot_15, ↓set_15, ↓slot_16, ↓set_16, ↓slot_17, ↓set_17, ↓slot_18, ↓set_18, ↓slot_19, ↓set_19, ↓atI_0, ↓atI_1, ↓atI_2, ↓atI_3, ↓atI_4, ↓atI_5, ↓atI_6, ↓atI_7, ↓atI_8, ↓atI_9, ↓atI_10, ↓atI_11, ↓atI_12, ↓ixN_0, ↓ixN_1, ↓ixN_2, ↓ixN_3, ↓ixN_4, ↓ixN_5, ↓x_refR, ↓kIxR_l, ↓l_refR, ↓kLenR_l, ↓g_subR, ↓kSubR_l, ↓kSub2_e, ↓b_tupR, ↓kTupR_l, ↓m_appR, ↓kAppR_l, ↓m_okR, ↓m_okP, ↓m_popR, ↓kPopR_l, ↓kPop2_e, ↓augL_R, ↓kAugL_l, ↓isLstO_l, ↓m_set_set, ↓cut_to1, ↓cut_from1, ↓cut_from2, ↓cut_from3, ↓cut_12, ↓cut_last, ↓ldrop_1, ↓ldrop_2, ↓ldrop_3, ↓ints_nil, ↓ints_cons, ↓bls_nil, ↓bls_cons, ↓omap, ↓reduceIte, decide_true, decide_false, Bool.and_true, Bool.true_and, Bool.and_false, Bool.false_and, Bool.or_true, Bool.true_or, Bool.or_false, Bool.false_or, List.all_cons, List.all_nil, List.any_cons, List.any_nil, List.sum_cons, List.sum_nil,  true_and, and_true, and_self, or_true, true_or, or_false, false_or, and_false, false_and, not_true_eq_false, not_false_eq_true,  nc0, nc1, nc2, nc3, nc4, nc5, nc6, nc7, nc8, nc9, nc10, nc11, nc12, nc13, nc14, nc15, nc16, List.length_cons, List.length_nil, Nat.reduceAdd, Nat.reduceSub, Nat.reduceLeDiff, Nat.reduceLT, Nat.reduceEqDiff, Int.reduceLE, Int.reduceLT, Int.reduceNeg, Int.reduceAdd, Int.reduceSub, Int.reduceMul, Int.reducePow, Int.reduceToNat, Int.reduceEq, Int.reduceNe, String.reduceEq, Nat.zero_add, $ls,*] at $h:ident))
/-! K05n4: what is accepted. -/
section
open PySem
section
variable {n : Nat} {M : Hm} {Q : D → Hm → Prop} {E : Nat → D → Hm → Prop}
theorem name_eq {x : Str} (hx : x ∈ okN) : (rt prg (n + 1)).call g_is_name [some (.str x)] [] M = .ok (.bl true) M := by
  simp only [okN, List.mem_cons, List.not_mem_nil, or_false] at hx
  rcases hx with rfl | rfl | rfl | rfl | rfl | rfl | rfl | rfl <;> kernel_rfl
theorem byte_eq {i : Int} (h0 : 0 ≤ i) (h1 : i ≤ 255) : (rt prg (n + 2)).call g_is_byte [some (.int i)] [] M = .ok (.bl true) M := by
  refine eq_of_wp ?_
  rw [call_is_byte_1, wX_top]
  simp! only [b_is_byte]
  rw [call_is_count_1, wX_top]
  simp! only [b_is_count, isAny, isTy, tagD, tagTy, decide_eq_true h0, decide_eq_true (show i < 256 by omega)]
theorem word1_eq {i : Int} (h0 : 0 ≤ i) (h1 : i ≤ 1) : (rt prg (n + 2)).call g_is_word [some (.int i), some (.int 1)] [] M = .ok (.bl true) M := by
  refine eq_of_wp ?_
  rw [call_is_word_2, wX_top]
  simp! only [b_is_word]
  rw [call_is_count_1, wX_top]
  simp! only [b_is_count, isAny, isTy, tagD, tagTy, decide_eq_true h0, decide_eq_true (show i < 2 by omega)]
theorem eq_nil_tup {xs : List D} (h : ∀ x ∈ xs, PyOk 60 x) (hne : xs ≠ []) : opCmp .eq (.tup xs) (.tup []) M = some false := by
  obtain ⟨ps, g1, g2, g3⟩ := pysOk h
  show eqD (.tup xs) (.tup []) M = _
  unfold eqD
  have e0 : eqS (.tup xs) (.tup []) = none := by rfl
  have e1 : (cont M (.tup xs)).py = some (.tuple ps) := by show (D.pys xs).map _ = _; rw [g1]; rfl
  have e2 : (cont M (.tup [])).py = some (.tuple []) := rfl
  rw [e0, e1, e2]
  have e3 : SeqAt.shaped (.tuple ps) = true := by
    unfold SeqAt.shaped
    rw [Bool.and_eq_true]
    exact ⟨by simpa [PyData.canLay0] using g2, by simp [PyData.depth]; omega⟩
  show (if (SeqAt.shaped (.tuple ps) && SeqAt.shaped (.tuple [])) = true then some (PyData.eqv (.tuple ps) (.tuple [])) else none) = _
  rw [e3, if_pos (by rfl)]
  cases xs with
  | nil => exact absurd rfl hne
  | cons y ys =>
    have : ∃ q qs, ps = q :: qs := by
      have g1 : (match D.py y, D.pys ys with | some p, some ps => some (p :: ps) | _, _ => none) = some ps := g1
      split at g1
      · injection g1 with g1; exact ⟨_, _, g1.symm⟩
      · cases g1
    obtain ⟨q, qs, rfl⟩ := this
    simp [PyData.eqv, PyData.eqvAll]
theorem PyOk.mono {k k' : Nat} {x : D} (h : PyOk k x) (hk : k ≤ k') : PyOk k' x := by
  obtain ⟨p, h1, h2, h3⟩ := h
  exact ⟨p, h1, h2, by omega⟩
theorem op_strOk (o : Op) : PyData.strOk o.s = true := by cases o <;> decide +kernel
theorem tf_strOk (b : Bool) : PyData.strOk (tfS b) = true := by cases b <;> decide +kernel
theorem pyOk_ex : ∀ e : Ex, e.Nm → PyOk e.deep e.d
  | .tf b, _ => pyOk_tup (k := 0) (by intro x hx; rw [List.mem_singleton.mp hx]; exact pyOk_str (tf_strOk b))
  | .num i, _ => pyOk_tup (k := 0) (by
    intro x hx
    rcases List.mem_cons.mp hx with rfl | hx
    · exact pyOk_str (by decide +kernel)
    · rw [List.mem_singleton.mp hx]; exact pyOk_int)
  | .var x, h => pyOk_tup (k := 0) (by
    intro y hy
    rcases List.mem_cons.mp hy with rfl | hy
    · exact pyOk_str (by decide +kernel)
    · rw [List.mem_singleton.mp hy]; exact pyOk_str (okN_str x h))
  | .at x e, h => pyOk_tup (k := e.deep) (by
    intro y hy
    rcases List.mem_cons.mp hy with rfl | hy
    · exact pyOk_str (by decide +kernel)
    · rcases List.mem_cons.mp hy with rfl | hy
      · exact pyOk_str (okN_str x h.1)
      · rw [List.mem_singleton.mp hy]; exact pyOk_ex e h.2)
  | .no e, h => pyOk_tup (k := e.deep) (by
    intro y hy
    rcases List.mem_cons.mp hy with rfl | hy
    · exact pyOk_str (by decide +kernel)
    · rw [List.mem_singleton.mp hy]; exact pyOk_ex e h)
  | .op o a b, h => pyOk_tup (k := max a.deep b.deep) (by
    intro y hy
    rcases List.mem_cons.mp hy with rfl | hy
    · exact pyOk_str (op_strOk o)
    · rcases List.mem_cons.mp hy with rfl | hy
      · exact (pyOk_ex a h.1).mono (by omega)
      · rw [List.mem_singleton.mp hy]; exact (pyOk_ex b h.2).mono (by omega))
/-- an expression's items -/
theorem pyOk_items {e : Ex} (h : e.Nm) (hd : e.deep ≤ 50) {xs : List D} (he : e.d = .tup xs) : ∀ x ∈ xs, PyOk 60 x := by
  cases e with
  | tf b => cases he; intro x hx; rw [List.mem_singleton.mp hx]; exact pyOk_str (tf_strOk b)
  | num i =>
    cases he
    intro x hx
    rcases List.mem_cons.mp hx with rfl | hx
    · exact pyOk_str (by decide +kernel)
    · rw [List.mem_singleton.mp hx]; exact pyOk_int
  | var x =>
    cases he
    intro y hy
    rcases List.mem_cons.mp hy with rfl | hy
    · exact pyOk_str (by decide +kernel)
    · rw [List.mem_singleton.mp hy]; exact pyOk_str (okN_str x h)
  | «at» x e =>
    cases he
    simp only [Ex.deep] at hd
    intro y hy
    rcases List.mem_cons.mp hy with rfl | hy
    · exact pyOk_str (by decide +kernel)
    · rcases List.mem_cons.mp hy with rfl | hy
      · exact pyOk_str (okN_str x h.1)
      · rw [List.mem_singleton.mp hy]; exact (pyOk_ex e h.2).mono (by omega)
  | no e =>
    cases he
    simp only [Ex.deep] at hd
    intro y hy
    rcases List.mem_cons.mp hy with rfl | hy
    · exact pyOk_str (by decide +kernel)
    · rw [List.mem_singleton.mp hy]; exact (pyOk_ex e h).mono (by omega)
  | op o a b =>
    cases he
    simp only [Ex.deep] at hd
    intro y hy
    rcases List.mem_cons.mp hy with rfl | hy
    · exact pyOk_str (op_strOk o)
    · rcases List.mem_cons.mp hy with rfl | hy
      · exact (pyOk_ex a h.1).mono (by omega)
      · rw [List.mem_singleton.mp hy]; exact (pyOk_ex b h.2).mono (by omega)
theorem head_eq {e : Ex} (h : e.Nm) (hd : e.deep ≤ 50) : (rt prg (n + 3)).call g_is_expression_head [some e.d] [] M = .ok (.bl true) M := by
  cases e with
  | tf b => cases b <;> kernel_rfl
  | num i =>
    refine eq_of_wp ?_
    rw [call_is_expression_head_1, wX_top]
    simp! only [b_is_expression_head, Ex.d, isAny, isTy, tagD, tagTy, b_is_expression_head_3, byte_eq (n := n) h.1 h.2, eq_nil_tup (M := M) (pyOk_items h hd rfl) (by simp)]
  | var x =>
    refine eq_of_wp ?_
    rw [call_is_expression_head_1, wX_top]
    simp! only [b_is_expression_head, Ex.d, isAny, isTy, tagD, tagTy, b_is_expression_head_2, name_eq (n := n + 1) h, eq_nil_tup (M := M) (pyOk_items h hd rfl) (by simp)]
  | «at» x a =>
    refine eq_of_wp ?_
    rw [call_is_expression_head_1, wX_top]
    simp! only [b_is_expression_head, Ex.d, isAny, isTy, tagD, tagTy, b_is_expression_head_1, name_eq (n := n + 1) h.1, eq_nil_tup (M := M) (pyOk_items h hd rfl) (by simp)]
  | no a =>
    refine eq_of_wp ?_
    rw [call_is_expression_head_1, wX_top]
    simp! only [b_is_expression_head, Ex.d, isAny, isTy, tagD, tagTy, eq_nil_tup (M := M) (pyOk_items h hd rfl) (by simp)]

  | op o a b =>
    refine eq_of_wp ?_
    have hi := eq_nil_tup (M := M) (pyOk_items h hd rfl) (by simp)
    rw [call_is_expression_head_1, wX_top]
    cases o
    all_goals
      simp only [Op.s] at hi
      simp! only [b_is_expression_head, Ex.d, Op.s, isAny, isTy, tagD, tagTy, hi]

end
end
/-! K05n5: expressions are accepted. -/
section
open PySem
section
variable {n : Nat} {M : Hm} {Q : D → Hm → Prop} {E : Nat → D → Hm → Prop}
theorem parts_sz (e : Ex) : (e.parts.map Ex.sz).sum + 1 = e.sz := by
  cases e <;> simp [Ex.parts, Ex.sz]
theorem parts_deep {e x : Ex} (h : x ∈ e.parts) : x.deep + 1 ≤ e.deep := by
  cases e with
  | tf b => cases h
  | num i => cases h
  | var x => cases h
  | «at» y a => rw [List.mem_singleton.mp h]; simp [Ex.deep]
  | no a => rw [List.mem_singleton.mp h]; simp [Ex.deep]
  | op o a b =>
    simp only [Ex.parts, List.mem_cons, List.not_mem_nil, or_false] at h
    simp only [Ex.deep]
    rcases h with rfl | rfl <;> omega
theorem parts_nm {e x : Ex} (he : e.Nm) (h : x ∈ e.parts) : x.Nm := by
  cases e with
  | tf b => cases h
  | num i => cases h
  | var x => cases h
  | «at» y a => rw [List.mem_singleton.mp h]; exact he.2
  | no a => rw [List.mem_singleton.mp h]; exact he
  | op o a b =>
    simp only [Ex.parts, List.mem_cons, List.not_mem_nil, or_false] at h
    rcases h with rfl | rfl
    · exact he.1
    · exact he.2
def exT : Ex × Int → D := fun x => .tup [x.1.d, .int x.2]
def stSz (st : List (Ex × Int)) : Nat := (st.map fun x => x.1.sz).sum
theorem pyOk_exT {x : Ex × Int} (h : x.1.Nm) (hd : x.1.deep ≤ 50) : PyOk 60 (exT x) := pyOk_tup (k := 59) (by
  intro y hy
  rcases List.mem_cons.mp hy with rfl | hy
  · exact (pyOk_ex x.1 h).mono (by omega)
  · rw [List.mem_singleton.mp hy]; exact pyOk_int)
abbrev ieσ (v : D) (b : Nat) (c : Int) (o3 o4 o5 : Option D) : Env := [some v, some (.ref b), some (.int c), o3, o4, o5]
theorem expr_loop {v : D} {M : Hm} (hq : ∀ X, Q (.bl true) (M ++ X)) : ∀ (k : Nat) (st : List (Ex × Int)) (c : Int) (o3 o4 o5 : Option D), stSz st + 1 ≤ k → 0 ≤ c → c + stSz st ≤ 24 → (∀ x ∈ st, x.1.Nm ∧ (x.1.deep : Int) + x.2 ≤ 7 ∧ 1 ≤ x.2) →
    wWhl prg (rt prg (n + 3)) [] k (.cmp .ne (.var 1) (.lst false .nil)) b_is_expression_2 (ieσ v M.length c o3 o4 o5) (M ++ [.lst (st.map exT)]) (poSeq prg (rt prg (n + 3)) [] (b_is_expression.drop 2) (poTop Q E)) := by
  intro k
  induction k with
  | zero => intro st c o3 o4 o5 h; omega
  | succ k ih =>
    intro st c o3 o4 o5 hk hc0 hc hs
    have hne : opCmp .ne (.ref M.length) (.lst []) (M ++ [.lst (st.map exT)]) = some (!decide (st.map exT = [])) := ne_ref app_at fun y hy => by
      obtain ⟨x, hx, rfl⟩ := List.mem_map.mp hy
      have := hs x hx
      exact pyOk_exT this.1 (by omega)
    simp only [wWhl_succ]
    simp! only [hne]
    rcases List.eq_nil_or_concat st with rfl | ⟨st', x, rfl⟩
    · simp! only [List.map_nil, b_is_expression]
      exact hq _
    · have hx := hs x (by simp)
      have e1 : ((st' ++ [x]).map exT) = st'.map exT ++ [exT x] := by rw [List.map_append]; rfl
      have hsz : stSz (st' ++ [x]) = stSz st' + x.1.sz := by unfold stSz; rw [List.map_append, List.sum_append]; simp
      rw [List.concat_eq_append] at *
      rw [hsz] at hk hc
      have hpz := parts_sz x.1
      have n1 : ¬ (6 : Int) < x.2 := by have : 1 ≤ x.1.deep := deep_pos x.1; omega
      have n2 : ¬ (24 : Int) < c + 1 := by omega
      have hat : ∀ o : MO, (M ++ [o])[M.length]? = some o := fun o => app_at
      have hst : ∀ o o' : MO, (M ++ [o]).set M.length o' = M ++ [o'] := fun o o' => app_set
      simp! only [b_is_expression_2, e1, hat, List.getLast?_concat, List.dropLast_concat, hst, exT, head_eq hx.1 (by omega), decide_eq_false n1, decide_eq_false n2, parts_eq, show (st'.map exT ++ [exT x] = []) = False from by simp]
      refine wifn (fun _ => ?_) (fun h => absurd h (by simp))
      have lp : x.1.parts.length ≤ 2 := by cases x.1 <;> simp [Ex.parts]
      refine ⟨by rw [List.length_map]; omega, ?_⟩
      refine wLc_map (v := fun y : Ex => exT (y, x.2 + 1)) (fun y _ Q hq => by simp only [wLc_cons]; simp! only [exT]; exact hq) ?_
      have hl : st'.length ≤ 24 := by
        have : ∀ l : List (Ex × Int), l.length ≤ stSz l := by
          intro l
          induction l with
          | nil => exact Nat.zero_le _
          | cons y l ih =>
            have h1 : 1 ≤ y.1.sz := by cases y.1 <;> simp [Ex.sz]
            show l.length + 1 ≤ y.1.sz + stSz l
            omega
        have := this st'
        omega
      simp! only [hat, hst]
      refine ⟨by rw [List.length_map, List.length_map]; omega, ?_⟩
      have hz : stSz (st' ++ x.1.parts.map fun y => (y, x.2 + 1)) + 1 = stSz st' + x.1.sz := by
        unfold stSz
        rw [List.map_append, List.sum_append, List.map_map, ← hpz]
        show _ + (x.1.parts.map Ex.sz).sum + 1 = _
        omega
      have := ih (st' ++ x.1.parts.map fun y => (y, x.2 + 1)) (c + 1) (some x.1.d) (some (.int x.2)) o5 (by omega) (by omega) (by omega) (fun y hy => by
        rcases List.mem_append.mp hy with hy | hy
        · exact hs y (List.mem_append_left _ hy)
        · obtain ⟨z, hz, rfl⟩ := List.mem_map.mp hy
          have h1 := parts_deep hz
          refine ⟨parts_nm hx.1 hz, ?_, by have := hx.2.2; show 1 ≤ x.2 + 1; omega⟩
          have := hx.2.1
          show (z.deep : Int) + (x.2 + 1) ≤ 7
          omega)
      rw [List.map_append, List.map_map] at this
      simp only [b_is_expression_2] at this
      exact this
theorem expr_wp {e : Ex} (he : e.ok) (h : ∀ X, Q (.bl true) (M ++ X)) : wp ((rt prg (n + 4)).call g_is_expression [some e.d] [] M) Q E := by
  rw [call_is_expression_1, wX_top]
  simp! only [b_is_expression]
  have := expr_loop (n := n) (v := e.d) (E := E) h 1000 [(e, 1)] 0 none none none (by have := he.2.1; show e.sz + 0 + 1 ≤ 1000; omega) (by omega) (by have := he.2.1; show (0 : Int) + ((e.sz + 0 : Nat) : Int) ≤ 24; omega) (fun x hx => by
    rw [List.mem_singleton.mp hx]
    refine ⟨he.2.2, ?_, Int.le_refl 1⟩
    have := he.1
    show (e.deep : Int) + 1 ≤ 7
    omega)
  exact this
end
end
/-! K05n6: statements are accepted. -/
section
open PySem
section
variable {n : Nat} {M : Hm} {Q : D → Hm → Prop} {E : Nat → D → Hm → Prop}
def BokSpec (k n : Nat) : Prop := ∀ (b : Sts) (deep : Int) {M : Hm} {Q : D → Hm → Prop} {E : Nat → D → Hm → Prop}, b.ok k → b.len ≤ 12 → 1 ≤ deep → deep + k ≤ 6 → (∀ X, Q (.bl true) (M ++ X)) → wp ((rt prg n).call g_is_block [some (.tup b.ds), some (.int deep)] [] M) Q E
def SokSpec (k n : Nat) : Prop := ∀ (s : St) (deep : Int) {M : Hm} {Q : D → Hm → Prop} {E : Nat → D → Hm → Prop}, s.ok k → 1 ≤ deep → deep + k ≤ 6 → (∀ X, Q (.bl true) (M ++ X)) → wp ((rt prg n).call g_is_statement [some s.d, some (.int deep)] [] M) Q E
theorem block_ok {k n : Nat} (hs : SokSpec k n) : BokSpec k (n + 1) := by
  intro b deep M Q E hb hl hd1 hd hq
  rw [call_is_block_2, wX_top]
  have h12 : ¬ ((12 : Int) < (b.len : Int)) := by omega
  simp! only [b_is_block, isAny, isTy, tagD, tagTy, ds_len, decide_eq_false h12]
  refine ⟨by omega, ?_⟩
  rw [ds_toL]
  refine wLc_grow (v := fun _ : St => .bl true) (fun s hm M Q hq => ?_) fun X => ?_
  · simp only [wLc_cons]
    simp! only [wO_some]
    refine hs s deep (toL_ok hb s hm) hd1 hd fun X => ?_
    simp! only [wO_some]
    exact hq X
  · simp! only [bls_map]
    have : (b.toL.map fun _ => true).all id = true := by rw [List.all_eq_true]; intro x hx; obtain ⟨_, _, rfl⟩ := List.mem_map.mp hx; rfl
    rw [this]
    exact hq X
theorem pyOk_tup2 {k k' : Nat} {xs : List D} (h : ∀ x ∈ xs, PyOk k x) (hk : k + 1 ≤ k') : PyOk k' (.tup xs) := (pyOk_tup h).mono hk
theorem pyOk_blk {k : Nat} (ih : ∀ s : St, s.ok k → PyOk (8 + 2 * k) s.d) {b : Sts} (h : b.ok k) : PyOk (9 + 2 * k) (.tup b.ds) := pyOk_tup2 (k := 8 + 2 * k) (by
  intro x hx
  rw [ds_toL] at hx
  obtain ⟨s, hs, rfl⟩ := List.mem_map.mp hx
  exact ih s (toL_ok h s hs)) (by omega)
theorem pyOk_c2 {k : Nat} {a b : D} (ha : PyOk k a) (hb : PyOk k b) : ∀ x ∈ [a, b], PyOk k x := by
  intro x hx
  rcases List.mem_cons.mp hx with rfl | hx
  · exact ha
  · rw [List.mem_singleton.mp hx]; exact hb
theorem pyOk_c3 {k : Nat} {a b c : D} (ha : PyOk k a) (hb : PyOk k b) (hc : PyOk k c) : ∀ x ∈ [a, b, c], PyOk k x := by
  intro x hx
  rcases List.mem_cons.mp hx with rfl | hx
  · exact ha
  · exact pyOk_c2 hb hc x hx
theorem pyOk_c4 {k : Nat} {a b c d : D} (ha : PyOk k a) (hb : PyOk k b) (hc : PyOk k c) (hd : PyOk k d) : ∀ x ∈ [a, b, c, d], PyOk k x := by
  intro x hx
  rcases List.mem_cons.mp hx with rfl | hx
  · exact ha
  · exact pyOk_c3 hb hc hd x hx
theorem pyOk_st : ∀ (k : Nat) (s : St), s.ok k → PyOk (8 + 2 * k) s.d := by
  intro k
  induction k with
  | zero =>
    intro s ho
    have se : ∀ e : Ex, e.ok → PyOk 7 e.d := fun e h => (pyOk_ex e h.2.2).mono (by have := h.1; omega)
    cases s with
    | stop => exact pyOk_tup2 (k := 7) (xs := [.str "stop"]) (by intro x hx; rw [List.mem_singleton.mp hx]; exact pyOk_str (by decide +kernel)) (by omega)
    | call x => exact pyOk_tup2 (k := 7) (pyOk_c2 (pyOk_str (s := "call") (by decide +kernel)) (pyOk_str (okN_str x ho))) (by omega)
    | shw e => exact pyOk_tup2 (k := 7) (pyOk_c2 (pyOk_str (s := "show") (by decide +kernel)) (se e ho)) (by omega)
    | set x e => exact pyOk_tup2 (k := 7) (pyOk_c3 (pyOk_str (s := "set") (by decide +kernel)) (pyOk_str (okN_str x ho.1)) (se e ho.2)) (by omega)
    | put x a e => exact pyOk_tup2 (k := 7) (pyOk_c4 (pyOk_str (s := "put") (by decide +kernel)) (pyOk_str (okN_str x ho.1)) (se a ho.2.1) (se e ho.2.2)) (by omega)
    | whl c a => exact absurd ho.2.1 (by decide)
    | iff c a b => exact absurd ho.2.1 (by decide)
  | succ k ih =>
    intro s ho
    have se : ∀ e : Ex, e.ok → PyOk (7 + 2 * (k + 1)) e.d := fun e h => (pyOk_ex e h.2.2).mono (by have := h.1; omega)
    cases s with
    | stop => exact pyOk_tup2 (k := 7 + 2 * (k + 1)) (xs := [.str "stop"]) (by intro x hx; rw [List.mem_singleton.mp hx]; exact pyOk_str (by decide +kernel)) (by omega)
    | call x => exact pyOk_tup2 (k := 7 + 2 * (k + 1)) (pyOk_c2 (pyOk_str (s := "call") (by decide +kernel)) (pyOk_str (okN_str x ho))) (by omega)
    | shw e => exact pyOk_tup2 (k := 7 + 2 * (k + 1)) (pyOk_c2 (pyOk_str (s := "show") (by decide +kernel)) (se e ho)) (by omega)
    | set x e => exact pyOk_tup2 (k := 7 + 2 * (k + 1)) (pyOk_c3 (pyOk_str (s := "set") (by decide +kernel)) (pyOk_str (okN_str x ho.1)) (se e ho.2)) (by omega)
    | put x a e => exact pyOk_tup2 (k := 7 + 2 * (k + 1)) (pyOk_c4 (pyOk_str (s := "put") (by decide +kernel)) (pyOk_str (okN_str x ho.1)) (se a ho.2.1) (se e ho.2.2)) (by omega)
    | whl c a => exact pyOk_tup2 (k := 7 + 2 * (k + 1)) (pyOk_c3 (pyOk_str (s := "while") (by decide +kernel)) (se c ho.1) ((pyOk_blk ih ho.2.2.2).mono (by omega))) (by omega)
    | iff c a b => exact pyOk_tup2 (k := 7 + 2 * (k + 1)) (pyOk_c4 (pyOk_str (s := "if") (by decide +kernel)) (se c ho.1) ((pyOk_blk ih ho.2.2.2.2.1).mono (by omega)) ((pyOk_blk ih ho.2.2.2.2.2).mono (by omega))) (by omega)
theorem stmt_ok {k m : Nat} (hb : 1 ≤ k → BokSpec (k - 1) (m + 4)) : SokSpec k (m + 5) := by
  intro s deep M Q E ho hd1 hd hq
  have h6 : ¬ ((6 : Int) < deep) := by omega
  have q0 := hq []
  rw [List.append_nil] at q0
  rw [call_is_statement_2, wX_top]
  cases s with
  | stop => simp! only [b_is_statement, isAny, isTy, tagD, tagTy, St.d, decide_eq_false h6, b_is_statement_7, show opCmp .eq (.tup [.str "stop"]) (.tup []) M = some false from by kernel_rfl]; exact q0
  | call x =>
    have hi : opCmp .eq (.tup [.str "call", .str x]) (.tup []) M = some false := eq_nil_tup (by
      intro y hy
      rcases List.mem_cons.mp hy with rfl | hy
      · exact pyOk_str (by decide +kernel)
      · rw [List.mem_singleton.mp hy]; exact pyOk_str (okN_str x ho)) (by simp)
    simp! only [b_is_statement, isAny, isTy, tagD, tagTy, St.d, decide_eq_false h6, b_is_statement_6, hi, name_eq (n := m + 3) ho]
    exact q0
  | shw e =>
    have hi : opCmp .eq (.tup [.str "show", e.d]) (.tup []) M = some false := eq_nil_tup (by
      intro y hy
      rcases List.mem_cons.mp hy with rfl | hy
      · exact pyOk_str (by decide +kernel)
      · rw [List.mem_singleton.mp hy]; exact (pyOk_ex e ho.2.2).mono (by have := ho.1; omega)) (by simp)
    simp! only [b_is_statement, isAny, isTy, tagD, tagTy, St.d, decide_eq_false h6, b_is_statement_5, hi]
    refine expr_wp ho fun X => ?_
    simp! only [wO_some]
    exact hq X
  | set x e =>
    have hi : opCmp .eq (.tup [.str "set", .str x, e.d]) (.tup []) M = some false := eq_nil_tup (by
      intro y hy
      rcases List.mem_cons.mp hy with rfl | hy
      · exact pyOk_str (by decide +kernel)
      · rcases List.mem_cons.mp hy with rfl | hy
        · exact pyOk_str (okN_str x ho.1)
        · rw [List.mem_singleton.mp hy]; exact (pyOk_ex e ho.2.2.2).mono (by have := ho.2.1; omega)) (by simp)
    simp! only [b_is_statement, isAny, isTy, tagD, tagTy, St.d, decide_eq_false h6, b_is_statement_4, hi, name_eq (n := m + 3) ho.1]
    refine expr_wp ho.2 fun X => ?_
    simp! only [wO_some]
    exact hq X
  | put x a e =>
    have hi : opCmp .eq (.tup [.str "put", .str x, a.d, e.d]) (.tup []) M = some false := eq_nil_tup (by
      intro y hy
      rcases List.mem_cons.mp hy with rfl | hy
      · exact pyOk_str (by decide +kernel)
      · rcases List.mem_cons.mp hy with rfl | hy
        · exact pyOk_str (okN_str x ho.1)
        · rcases List.mem_cons.mp hy with rfl | hy
          · exact (pyOk_ex _ ho.2.1.2.2).mono (by have := ho.2.1.1; omega)
          · rw [List.mem_singleton.mp hy]; exact (pyOk_ex e ho.2.2.2.2).mono (by have := ho.2.2.1; omega)) (by simp)
    simp! only [b_is_statement, isAny, isTy, tagD, tagTy, St.d, decide_eq_false h6, b_is_statement_3, hi, name_eq (n := m + 3) ho.1]
    refine expr_wp ho.2.1 fun X => ?_
    simp! only [wO_some]
    refine expr_wp ho.2.2 fun Y => ?_
    simp! only [wO_some]
    rw [List.append_assoc]
    exact hq _
  | whl c a =>
    obtain ⟨h0, h1, h2, h3⟩ := ho
    have hi : opCmp .eq (.tup [.str "while", c.d, .tup a.ds]) (.tup []) M = some false := eq_nil_tup (pyOk_c3 (pyOk_str (by decide +kernel)) ((pyOk_ex c h0.2.2).mono (by have := h0.1; omega)) ((pyOk_blk (pyOk_st (k - 1)) h3).mono (by omega))) (by simp)
    simp! only [b_is_statement, isAny, isTy, tagD, tagTy, St.d, decide_eq_false h6, b_is_statement_2, hi]
    refine expr_wp h0 fun X => ?_
    simp! only [wO_some]
    refine hb h1 a (deep + 1) h3 h2 (by omega) (by omega) fun Y => ?_
    simp! only [wO_some]
    rw [List.append_assoc]
    exact hq _
  | iff c a b =>
    obtain ⟨h0, h1, h2, h4, h3, h5⟩ := ho
    have hi : opCmp .eq (.tup [.str "if", c.d, .tup a.ds, .tup b.ds]) (.tup []) M = some false := eq_nil_tup (pyOk_c4 (pyOk_str (by decide +kernel)) ((pyOk_ex c h0.2.2).mono (by have := h0.1; omega)) ((pyOk_blk (pyOk_st (k - 1)) h3).mono (by omega)) ((pyOk_blk (pyOk_st (k - 1)) h5).mono (by omega))) (by simp)
    simp! only [b_is_statement, isAny, isTy, tagD, tagTy, St.d, decide_eq_false h6, b_is_statement_1, hi]
    refine expr_wp h0 fun X => ?_
    simp! only [wO_some]
    refine hb h1 a (deep + 1) h3 h2 (by omega) (by omega) fun Y => ?_
    simp! only [wO_some]
    refine hb h1 b (deep + 1) h5 h4 (by omega) (by omega) fun Z => ?_
    simp! only [wO_some]
    rw [List.append_assoc, List.append_assoc]
    exact hq _
theorem blk_ok : ∀ (k m : Nat), 2 * k + 6 ≤ m → BokSpec k m
  | 0, m, h => by
    obtain ⟨m, rfl⟩ : ∃ j, m = j + 6 := ⟨m - 6, by omega⟩
    exact block_ok (stmt_ok fun h => absurd h (by decide))
  | k + 1, m, h => by
    obtain ⟨m, rfl⟩ : ∃ j, m = j + 6 := ⟨m - 6, by omega⟩
    exact block_ok (stmt_ok fun _ => blk_ok k (m + 4) (by omega))
end
end
/-! K05n7: programs are accepted. -/
section
open PySem
section
variable {n : Nat} {M : Hm} {Q : D → Hm → Prop} {E : Nat → D → Hm → Prop}
theorem bytes_eq {l : List Int} (h : ∀ i ∈ l, 0 ≤ i ∧ i ≤ 255) (hl : l.length ≤ 100) : (rt prg (n + 3)).call g_are_bytes [some (.tup (l.map D.int))] [] M = .ok (.bl true) M := by
  refine eq_of_wp ?_
  rw [call_are_bytes_1, wX_top]
  simp! only [b_are_bytes, isAny, isTy, tagD, tagTy]
  refine ⟨by rw [List.length_map]; omega, ?_⟩
  refine wLc_map (v := fun _ : Int => .bl true) (fun i hi Q hq => ?_) ?_
  · simp only [wLc_cons]
    simp! only [byte_eq (n := n) (h i hi).1 (h i hi).2]
    exact hq
  · simp! only [bls_map]
    have : (l.map fun _ => true).all id = true := by rw [List.all_eq_true]; intro x hx; obtain ⟨_, _, rfl⟩ := List.mem_map.mp hx; rfl
    rw [this]
theorem variable_eq {r : Va} (h : VOk r) : (rt prg (n + 4)).call g_is_variable [some r.d] [] M = .ok (.bl true) M := by
  obtain ⟨k, x, v⟩ := r
  obtain ⟨hx, hv⟩ := h
  refine eq_of_wp ?_
  rw [call_is_variable_1, wX_top]
  cases k with
  | word =>
    obtain ⟨i, rfl, h0, h1⟩ := hv
    simp! only [b_is_variable, Va.d, Ki.s, isAny, isTy, tagD, tagTy, name_eq (n := n + 2) hx, byte_eq (n := n + 1) h0 h1]
  | bit =>
    obtain ⟨i, rfl, h0, h1⟩ := hv
    simp! only [b_is_variable, Va.d, Ki.s, isAny, isTy, tagD, tagTy, name_eq (n := n + 2) hx, word1_eq (n := n + 1) h0 h1]
  | row =>
    obtain ⟨l, rfl, h1, h2, h3⟩ := hv
    simp! only [b_is_variable, Va.d, Ki.s, isAny, isTy, tagD, tagTy, name_eq (n := n + 2) hx, bytes_eq (n := n) h3 (by omega), b_is_variable_1, List.length_map, decide_eq_true (show (1 : Int) ≤ (l.length : Int) by omega), decide_eq_true (show (l.length : Int) ≤ 8 by omega)]
theorem proc_wp {x : Str} {b : Sts} (hx : x ∈ okN) (hb : b.ok 1) (hl : b.len ≤ 12) (h : ∀ X, Q (.bl true) (M ++ X)) : wp ((rt prg (n + 9)).call g_is_procedure [some (.tup [.str x, .tup b.ds])] [] M) Q E := by
  rw [call_is_procedure_1, wX_top]
  have e : ∀ M, (rt prg (n + 8)).call g_is_block [some (.tup b.ds)] [] M = (rt prg (n + 8)).call g_is_block [some (.tup b.ds), some (.int 1)] [] M := fun M => by rw [call_is_block_1, call_is_block_2]
  simp! only [b_is_procedure, isAny, isTy, tagD, tagTy, name_eq (n := n + 7) hx, e]
  refine blk_ok 1 (n + 8) (by omega) b 1 hb hl (by decide) (by decide) fun X => ?_
  simp! only [wO_some]
  exact h X
theorem dGet_none {α : Type} {nm : α → Str} {x : Str} : ∀ {l : List α}, x ∉ l.map nm → dGet (l.map fun a => (.inr (nm a) : L2.Key)) (l.map fun _ => D.bl true) (.inr x) = none
  | [], _ => rfl
  | a :: l, h => by
    rw [List.map_cons, List.mem_cons, not_or] at h
    have ih := dGet_none h.2
    unfold dGet at ih ⊢
    rw [List.map_cons, List.map_cons, List.zip_cons_cons, List.find?_cons_of_neg]
    · exact ih
    · simp only [decide_eq_true_eq]
      exact fun e => h.1 (Sum.inr.inj e).symm
theorem kput_new {α : Type} {nm : α → Str} {x : Str} {v : D} {l : List α} {vs : List D} (h : x ∉ l.map nm) : kput (.inr x) v (l.map fun a => (.inr (nm a) : L2.Key)) vs = ((l.map fun a => (.inr (nm a) : L2.Key)) ++ [.inr x], vs ++ [v]) := by
  unfold kput
  rw [if_neg]
  rw [Bool.not_eq_true, List.any_eq_false]
  intro j hj
  obtain ⟨a, ha, rfl⟩ := List.mem_map.mp hj
  simp only [decide_eq_true_eq]
  exact fun e => h (List.mem_map.mpr ⟨a, ha, Sum.inr.inj e⟩)
theorem call_rows (c : CloD) (a b g m : D) : (rt prg (n + 1)).call g_check_program_rows [some a, some b, some g, none, some m] [(3, c)] M = (execs prg (rt prg n) [(3, c)] b_check_program_rows [some a, some b, some g, none, some m, none, none] M).res := rfl
abbrev crσ (kd : Str) (rows : List D) (gr : Nat) (most : Int) (b : Nat) (o6 : Option D) : Env := [some (.str kd), some (.tup rows), some (.fn gr), none, some (.int most), some (.ref b), o6]
theorem set_at0 {M Y : Hm} {o : MO} : (M ++ Y).set M.length o = M ++ Y.set 0 o := by
  rw [List.set_append_right _ _ (Nat.le_refl _), Nat.sub_self]
theorem rows_wp3 {α : Type} {g : α → D} {nm : α → Str} {gr i m : Nat} {kd : Str} {most : Int} {w : D} (l : List α) (hw : w = .tup (l.map g)) (hg : prg.fns[gr]?.isSome = true) (hr : ∀ a ∈ l, ∀ (M : Hm) (Q : D → Hm → Prop) (E : Nat → D → Hm → Prop), (∀ X, Q (.bl true) (M ++ X)) → wp ((rt prg (m + 1)).call gr [some (g a)] [] M) Q E)
    (hi : ∀ a ∈ l, ∃ xs, g a = .tup xs ∧ L2.atI xs (i : Int) = some (.str (nm a))) (hn : (l.map nm).Nodup) (hl : (l.length : Int) ≤ most) (h100 : l.length ≤ 100) (h : ∀ X, Q .non (M ++ X)) :
    wp ((rt prg (m + 2)).call g_check_program_rows [some (.str kd), some w, some (.fn gr), none, some (.int most)] [(3, ⟨1, [], 1, .ix (.var 0) (.cst (.int (i : Int)))⟩)] M) Q E := by
  subst hw
  rw [call_rows, wX_top]
  have f5 : free [((3 : Nat), (⟨1, [], 1, .ix (.var 0) (.cst (.int (i : Int)))⟩ : CloD))] 5 = true := rfl
  have f6 : free [((3 : Nat), (⟨1, [], 1, .ix (.var 0) (.cst (.int (i : Int)))⟩ : CloD))] 6 = true := rfl
  have k2 : ([((3 : Nat), (⟨1, [], 1, .ix (.var 0) (.cst (.int (i : Int)))⟩ : CloD))]).lookup 2 = none := rfl
  have k3 : ([((3 : Nat), (⟨1, [], 1, .ix (.var 0) (.cst (.int (i : Int)))⟩ : CloD))]).lookup 3 = some ⟨1, [], 1, .ix (.var 0) (.cst (.int (i : Int)))⟩ := rfl
  simp! only [b_check_program_rows, isAny, isTy, tagD, tagTy, List.length_map, f5]
  refine ⟨by omega, ?_⟩
  have loop : ∀ (rest pre : List α) (Y : Hm) (o6 : Option D), l = pre ++ rest → (M ++ Y)[M.length]? = some (.dic (pre.map fun a => (.inr (nm a) : L2.Key)) (pre.map fun _ => D.bl true)) →
      wFor prg (rt prg (m + 1)) [(3, ⟨1, [], 1, .ix (.var 0) (.cst (.int (i : Int)))⟩)] (.nm 6) b_check_program_rows_2 (rngD (pre.length : Int) rest.length) (crσ kd (l.map g) gr most M.length o6) (M ++ Y) (poSeq prg (rt prg (m + 1)) [(3, ⟨1, [], 1, .ix (.var 0) (.cst (.int (i : Int)))⟩)] (b_check_program_rows.drop 3) (poTop Q E)) := by
    intro rest
    induction rest with
    | nil =>
      intro pre Y o6 e hd
      simp! only [b_check_program_rows]
      exact h Y
    | cons a rest ih =>
      intro pre Y o6 e hd
      have ha : a ∈ l := by rw [e]; simp
      have hx : L2.atI (l.map g) ((pre.length : Nat) : Int) = some (g a) := L2.atI_nat (by rw [e]; simp)
      have hlt : ¬ (most ≤ ((pre.length : Nat) : Int)) := by have := congrArg List.length e; simp at this; omega
      obtain ⟨xs, hxs, hnm⟩ := hi a ha
      have hnot : nm a ∉ pre.map nm := by
        rw [e, List.map_append, List.nodup_append] at hn
        exact fun hh => hn.2.2 _ hh _ (by simp) rfl
      have kc : ∀ (es : MEs) (M' : Hm) (Q' : D → Hm → Prop) (E' : Nat → D → Hm → Prop) o6, kCv prg (rt prg (m + 1)) [(3, ⟨1, [], 1, .ix (.var 0) (.cst (.int (i : Int)))⟩)] 2 es (crσ kd (l.map g) gr most M.length o6) M' Q' E' none = wEs prg (rt prg (m + 1)) [(3, ⟨1, [], 1, .ix (.var 0) (.cst (.int (i : Int)))⟩)] es (crσ kd (l.map g) gr most M.length o6) M' (kFn (rt prg (m + 1)) gr Q' E') E' := fun es M' Q' E' o6 => kCv_fn rfl hg
      show wFor prg (rt prg (m + 1)) _ (.nm 6) b_check_program_rows_2 (rngD (pre.length : Int) (rest.length + 1)) _ (M ++ Y) _
      rw [rngD_cons]
      simp only [wFor_cons]
      simp! only [b_check_program_rows_2, f6, decide_eq_false hlt, k2, kc, hx, List.map_cons, List.map_nil]
      refine hr a ha _ _ _ fun X => ?_
      have hd2 : (M ++ Y ++ X)[M.length]? = some (.dic (pre.map fun a => (.inr (nm a) : L2.Key)) (pre.map fun _ => D.bl true)) := app_get hd
      simp! only [k3, hx, r_clo, startE, List.length_map, List.map_cons, List.map_nil, List.replicate, hxs, hnm]
      simp! only [c_inD hd2, dGet_none hnot, Option.isSome_none, k3, hx, r_clo, startE, List.length_map, List.map_cons, List.map_nil, List.replicate, hxs, hnm, hd2, kput_new hnot]
      refine ⟨by have := congrArg List.length e; simp at this; omega, ?_⟩
      have hlen : 0 < (Y ++ X).length := by
        have := (List.getElem?_eq_some_iff.mp hd2).1
        rw [List.append_assoc, List.length_append] at this
        omega
      rw [List.append_assoc, set_at0]
      have := ih (pre ++ [a]) ((Y ++ X).set 0 (.dic ((pre.map fun a => (.inr (nm a) : L2.Key)) ++ [.inr (nm a)]) ((pre.map fun _ => D.bl true) ++ [.bl true]))) (some (.int ((pre.length : Nat) : Int))) (by rw [e]; simp) (by
        rw [List.getElem?_append_right (Nat.le_refl _), Nat.sub_self, List.getElem?_set_self hlen, List.map_append, List.map_append]
        rfl)
      rw [show (((pre ++ [a]).length : Nat) : Int) = ((pre.length + 1 : Nat) : Int) by simp] at this
      simp only [b_check_program_rows_2] at this
      exact this
  have := loop l [] [.dic [] []] none rfl app_at
  exact this
/-! Program -/
theorem scount_step (d m : Nat) (ih : ∀ (b : Sts) (M : Hm), 1 ≤ d → b.ok (d - 1) → b.len ≤ 12 → (rt prg (m + 1)).call g_statement_count [some (.tup b.ds)] [] M = .ok (.int (b.cnt : Int)) M) (b : Sts) (M : Hm) (hb : b.ok d) (hl : b.len ≤ 1000) :
    (rt prg (m + 2)).call g_statement_count [some (.tup b.ds)] [] M = .ok (.int (b.cnt : Int)) M := by
  refine eq_of_wp ?_
  rw [call_statement_count_1, wX_top]
  simp! only [b_statement_count]
  refine ⟨by rw [ds_len]; omega, ?_⟩
  rw [ds_toL]
  have bl : ∀ (s : St) (M : Hm), (rt prg (m + 1)).call g_blocks_of [some s.d] [] M = .ok (.tup (match s with | .iff _ a b => [.tup a.ds, .tup b.ds] | .whl _ a => [.tup a.ds] | _ => [])) M := by
    intro s M
    cases s <;> kernel_rfl
  refine wLc_map (v := fun s : St => .int (s.cnt : Int)) (fun s hs Q hq => ?_) ?_
  · have ho := toL_ok hb s hs
    cases s with
    | set x e => simp only [wLc_cons]; simp! only [bl]; exact hq
    | put x a e => simp only [wLc_cons]; simp! only [bl]; exact hq
    | call x => simp only [wLc_cons]; simp! only [bl]; exact hq
    | stop => simp only [wLc_cons]; simp! only [bl]; exact hq
    | shw e => simp only [wLc_cons]; simp! only [bl]; exact hq
    | iff c a b =>
      obtain ⟨h0, h1, h2, h3, h4, h5⟩ := ho
      simp! only [wLc_cons, bl, ih a _ h1 h4 h2, ih b _ h1 h5 h3]
      exact hq
    | whl c a =>
      obtain ⟨h0, h1, h2, h4⟩ := ho
      simp! only [wLc_cons, bl, ih a _ h1 h4 h2]
      exact hq
  · simp! only [ints_map]
    rw [toL_cnt, sum_cast, List.map_map]
    rfl
theorem scount_eq : ∀ (d m : Nat) (b : Sts) (M : Hm), b.ok d → b.len ≤ 1000 → d + 2 ≤ m → (rt prg m).call g_statement_count [some (.tup b.ds)] [] M = .ok (.int (b.cnt : Int)) M
  | 0, m, b, M, hb, hl, hm => by
    obtain ⟨m, rfl⟩ : ∃ j, m = j + 2 := ⟨m - 2, by omega⟩
    exact scount_step 0 m (fun b M h => by omega) b M hb hl
  | d + 1, m, b, M, hb, hl, hm => by
    obtain ⟨m, rfl⟩ : ∃ j, m = j + 2 := ⟨m - 2, by omega⟩
    exact scount_step (d + 1) m (fun b M _ ho hl => scount_eq d (m + 1) b M ho (by omega) (by omega)) b M hb hl
/-- what a program is made of -/
structure Made (vs : List Va) (prs : List (Str × Sts)) (blk : Sts) : Prop where
  vok : ∀ r ∈ vs, VOk r
  vnd : (vs.map (·.x)).Nodup
  vlen : vs.length ≤ 4
  vrow : (vs.filter fun r => decide (r.k = .row)).length ≤ 2
  pok : ∀ p ∈ prs, p.1 ∈ okN ∧ p.2.ok 1 ∧ p.2.len ≤ 12
  pnd : (prs.map (·.1)).Nodup
  plen : prs.length ≤ 2
  bok : blk.ok 2
  blen : blk.len ≤ 12
  cnt : (prs.map fun p => p.2.cnt).sum + blk.cnt ≤ 60
theorem filter_rows {vs : List Va} : ∀ k : Nat, (rngD ((k : Nat) : Int) vs.length).length = vs.length := fun k => by unfold rngD; rw [List.length_map, List.length_range]
theorem rngD_map (n : Nat) : rngD 0 n = (List.range n).map fun k => D.int ((k : Nat) : Int) := by
  unfold rngD
  refine List.map_congr_left fun k _ => ?_
  rw [Int.zero_add]
theorem range_filter_len {α : Type} (l : List α) (c : α → Bool) (f : Nat → Bool) (h : ∀ k a, l[k]? = some a → f k = c a) : ((List.range l.length).filter f).length = (l.filter c).length := by
  induction l generalizing f with
  | nil => rfl
  | cons a l ih =>
    rw [List.length_cons, List.range_succ_eq_map, List.filter_cons, List.filter_cons, h 0 a rfl, List.filter_map]
    have := ih (f ∘ Nat.succ) (fun k b hk => h (k + 1) b hk)
    by_cases hc : c a = true
    · rw [if_pos hc, if_pos hc, List.length_cons, List.length_cons, List.length_map, this]
    · rw [if_neg hc, if_neg hc, List.length_map, this]
theorem fns_var : prg.fns[g_is_variable]?.isSome = true := by kernel_rfl
theorem fns_proc : prg.fns[g_is_procedure]?.isSome = true := by kernel_rfl
theorem own_n : prg.clss[0]?.any (fun k => k.own.contains "name") = true := by kernel_rfl
theorem own_v : prg.clss[0]?.any (fun k => k.own.contains "variables") = true := by kernel_rfl
theorem own_p : prg.clss[0]?.any (fun k => k.own.contains "procs") = true := by kernel_rfl
theorem own_b : prg.clss[0]?.any (fun k => k.own.contains "body") = true := by kernel_rfl
@[irreducible] def SWp {α : Type} (r : Res α) (Q : α → Hm → Prop) (E : Nat → D → Hm → Prop) : Prop := wp r Q E
theorem swp {α : Type} {r : Res α} {Q : α → Hm → Prop} {E : Nat → D → Hm → Prop} : SWp r Q E = wp r Q E := by unfold SWp; exact Eq.refl _
theorem init_wp {vs : List Va} {prs : List (Str × Sts)} {blk : Sts} (H : Made vs prs blk) {m a : Nat} {w1 w2 w3 : D} (e1 : w1 = .tup (vs.map Va.d)) (e2 : w2 = prsD prs) (e3 : w3 = .tup blk.ds) (ha : a = M.length) (h : ∀ X, PrgAt (M ++ X) a "prog" vs (prsD prs) (.tup blk.ds) → Q .non (M ++ X)) :
    SWp ((rt prg (m + 14)).call g_Program___init__ [some (.ref a), some (.str "prog"), some w1, some w2, some w3] [] (M ++ [.ins 0 []])) Q E := by
  rw [swp, call_Program___init___5, wX_top]
  have hnm : (rt prg (m + 13)).call g_is_name [some (.str "prog")] [] (M ++ [.ins 0 []]) = .ok (.bl true) (M ++ [.ins 0 []]) := by kernel_rfl
  have em : ∀ σ, List.mapM (slot σ) [] = some [] := fun σ => rfl
  simp! only [b_Program___init__, hnm, em, List.map_nil, List.length_cons, List.length_nil]
  refine rows_wp3 (g := Va.d) (nm := fun r => r.x) (gr := g_is_variable) (i := 1) (m := m + 11) (kd := "var") (most := 10) vs e1 fns_var (fun r hr M Q E hq => ?_) (fun r hr => ⟨_, rfl, atI_1⟩) H.vnd (by have := H.vlen; omega) (by have := H.vlen; omega) fun X => ?_
  · rw [variable_eq (n := m + 8) (H.vok r hr)]
    have := hq []
    rw [List.append_nil] at this
    exact this
  simp! only [em, List.map_nil, List.length_cons, List.length_nil]
  refine rows_wp3 (g := fun p : Str × Sts => bdD (some p.1, p.2)) (nm := fun p => p.1) (gr := g_is_procedure) (i := 0) (m := m + 11) (kd := "proc") (most := 4) prs e2 fns_proc (fun p hp M Q E hq => ?_) (fun p hp => ⟨_, rfl, atI_0⟩) H.pnd (by have := H.plen; omega) (by have := H.plen; omega) fun Y => ?_
  · exact proc_wp (n := m + 3) (H.pok p hp).1 (H.pok p hp).2.1 (H.pok p hp).2.2 hq
  have hv1 := H.vlen
  have es2 : ∀ M, srcOf M w2 = some (.items (prs.map fun p : Str × Sts => bdD (some p.1, p.2))) := fun M => by rw [e2]; rfl
  have el1 : ∀ M, biLen M w1 = .ok (.int (vs.length : Int)) M := fun M => by rw [e1]; show Res.ok (D.int ((vs.map Va.d).length : Int)) M = _; rw [List.length_map]
  have hrow : ∀ k r, vs[k]? = some r → L2.atI (vs.map Va.d) ((k : Nat) : Int) = some r.d := fun k r hk => L2.atI_nat (by rw [List.getElem?_map, hk]; rfl)
  have step2 : ∀ (Z : Hm) (l : List D), l.length ≤ 2 → wXs prg (rt prg (m + 13)) [] (b_Program___init__.drop 4) [some (.ref a), some (.str "prog"), some w1, some w2, some w3, some (.lst l), none, none] (M ++ [.ins 0 []] ++ Z) (poTop Q E) := by
    intro Z l hl
    have n2 : ¬ ((2 : Int) < (l.length : Int)) := by omega
    have eb : ∀ M, (rt prg (m + 13)).call g_is_block [some w3] [] M = (rt prg (m + 13)).call g_is_block [some w3, some (.int 1)] [] M := fun M => by rw [call_is_block_1, call_is_block_2]
    simp! only [b_Program___init__, decide_eq_false n2, eb]
    rw [e3]
    refine blk_ok 2 (m + 13) (by omega) blk 1 H.bok H.blen (by decide) (by decide) fun X => ?_
    rw [← e3]
    simp! only [wO_some]
    rw [e3, scount_eq 2 (m + 13) blk _ H.bok (by have := H.blen; omega) (by omega), ← e3]
    simp! only [es2]
    refine ⟨by rw [List.length_map]; have := H.plen; omega, ?_⟩
    refine wLc_map (v := fun p : Str × Sts => .int (p.2.cnt : Int)) (fun p hp Q hq => by
      simp only [wLc_cons]
      simp! only [bdD, scount_eq 1 (m + 13) p.2 _ (H.pok p hp).2.1 (by have := (H.pok p hp).2.2; omega) (by omega)]
      exact hq) ?_
    simp! only [ints_map]
    have es : (prs.map fun p : Str × Sts => ((p.2.cnt : Nat) : Int)).sum = (((prs.map fun p => p.2.cnt).sum : Nat) : Int) := by rw [sum_cast, List.map_map]; rfl
    have n60 : ¬ ((60 : Int) < (blk.cnt : Int) + (((prs.map fun p => p.2.cnt).sum : Nat) : Int)) := by have := H.cnt; omega
    generalize hH : M ++ [MO.ins 0 []] ++ Z ++ X = H0
    have h0 : H0[a]? = some (.ins 0 []) := by
      rw [← hH, ha]
      exact app_get app_mid
    have hS : ∀ o, (H0.set a o)[a]? = some o := fun o => set_get h0
    simp! only [es, decide_eq_false n60, h0, hS, own_n, own_v, own_p, own_b, putFld]
    have hfin : ∀ o, H0.set a o = M ++ ([MO.ins 0 []] ++ Z ++ X).set 0 o := fun o => by
      rw [← hH, ha, List.append_assoc, List.append_assoc, set_at0]
      simp
    rw [hfin]
    refine h _ ⟨?_⟩
    rw [ha, List.getElem?_append_right (Nat.le_refl _), Nat.sub_self, e1, e2, e3]
    rfl
  simp! only [el1]
  refine ⟨by omega, by unfold rngD; rw [List.length_map, List.length_range]; omega, ?_⟩
  rw [show ((vs.length : Int)).toNat = vs.length by omega, rngD_map]
  refine wLc_test (v := fun k : Nat => .int ((k : Nat) : Int)) (c := fun k => match vs[k]? with | some r => decide (r.k = .row) | none => false) (fun k hk M Q hq => ?_) fun Z => ?_
  · have hk := List.mem_range.mp hk
    have hx : opIx w1 (.int ((k : Nat) : Int)) M = some vs[k].d := by rw [e1]; exact hrow k _ (List.getElem?_eq_getElem hk)
    have q0 := hq []
    rw [List.append_nil, List.getElem?_eq_getElem hk] at q0
    simp only [wLc_cons]
    simp! only [hx, Va.d, ki_row]
    by_cases hr : vs[k].k = .row
    · simp only [hr, decide_true, if_true] at q0
      simp! only [hr]
      exact q0
    · simp only [hr, decide_false] at q0
      simp! only [hr]
      exact q0
  · simp! only [wO_some]
    have := step2 (X ++ Y ++ Z) (((List.range vs.length).filter fun k => match vs[k]? with | some r => decide (r.k = .row) | none => false).map fun k => D.int ((k : Nat) : Int)) (by
      rw [List.length_map, range_filter_len vs (fun r => decide (r.k = .row)) _ (fun k a hk => by rw [hk])]
      exact H.vrow)
    rw [← List.append_assoc, ← List.append_assoc] at this
    simp! only [b_Program___init__] at this
    exact this
theorem make_wp {vs : List Va} {prs : List (Str × Sts)} {blk : Sts} (H : Made vs prs blk) {m : Nat} (h : ∀ X, PrgAt (M ++ X) M.length "prog" vs (prsD prs) (.tup blk.ds) → Q (.ref M.length) (M ++ X)) :
    SWp ((rt prg (m + 15)).make 0 [.str "prog", .tup (vs.map Va.d), prsD prs, .tup blk.ds] M) Q E := by
  have hh : ∀ X, PrgAt (M ++ X) M.length "prog" vs (prsD prs) (.tup blk.ds) → kNew M.length Q .non (M ++ X) := fun X hX => by
    rw [kNew_e]
    exact h X hX
  have hC : prg.clss[0]?.bind (·.init) = some g_Program___init__ := by kernel_rfl
  rw [swp, r_make hC, List.map_cons, List.map_cons, List.map_cons, List.map_cons, List.map_nil, ← swp]
  exact init_wp H rfl rfl rfl rfl hh
end
end
/-! K05n8: same, odd, bent. -/
section
open PySem
section
variable {n : Nat} {M : Hm} {Q : D → Hm → Prop} {E : Nat → D → Hm → Prop}
/-- plain data, so deep -/
inductive Pl : Nat → D → Prop
  | non {k} : Pl k .non
  | int {k} (i : Int) : Pl k (.int i)
  | str {k} (s : Str) : Pl k (.str s)
  | tup {k} (xs : List D) : xs.length ≤ 1000 → (∀ x ∈ xs, Pl k x) → Pl (k + 1) (.tup xs)
  | lst {k} (xs : List D) : xs.length ≤ 1000 → (∀ x ∈ xs, Pl k x) → Pl (k + 1) (.lst xs)
theorem same_eq : ∀ (k n : Nat) (d : D) (M : Hm), Pl k d → k + 1 ≤ n → (rt prg n).call g__law_same [some d, some d] [] M = .ok (.bl true) M := by
  have many : ∀ (k m : Nat) (xs : List D) (w : D) (M : Hm), (∀ (d : D) (M : Hm), Pl k d → (rt prg m).call g__law_same [some d, some d] [] M = .ok (.bl true) M) → xs.length ≤ 1000 → (∀ x ∈ xs, Pl k x) → (∀ M i, opIx w (.int i) M = L2.atI xs i) → (∀ M, biLen M w = .ok (.int (xs.length : Int)) M) → ∀ {Q : D → Hm → Prop} {E : Nat → D → Hm → Prop}, Q (.bl true) M →
      wXs prg (rt prg m) [] (b__law_same.drop 5) [some w, some w, none] M (poTop Q E) := by
    intro k m xs w M ih hl hp hx hlen Q E hq
    simp! only [b__law_same, hlen]
    refine ⟨by omega, by unfold rngD; rw [List.length_map, List.length_range]; omega, ?_⟩
    rw [show ((xs.length : Int)).toNat = xs.length by omega, rngD_map]
    have hc : ∀ ds : List D, compS (fun _ => none) ds = [] := by
      intro ds
      induction ds with
      | nil => rfl
      | cons d ds ih => exact ih
    refine wLc_run (f := fun _ => none) (fun d hd Q hq => ?_) ?_
    · obtain ⟨j, hj, rfl⟩ := List.mem_map.mp hd
      have hj := List.mem_range.mp hj
      have hxj : ∀ M, opIx w (.int ((j : Nat) : Int)) M = some xs[j] := fun M => by rw [hx]; exact L2.atI_nat (List.getElem?_eq_getElem hj)
      simp only [wLc_cons]
      simp! only [hxj, ih _ _ (hp _ (List.getElem_mem hj))]
      exact hq
    · rw [hc]
      simp! only [show opCmp .eq (.lst []) (.lst []) M = some true from rfl]
      exact hq
  intro k
  induction k with
  | zero =>
    intro n d M hd hn
    obtain ⟨m, rfl⟩ : ∃ m, n = m + 1 := ⟨n - 1, by omega⟩
    refine eq_of_wp ?_
    rw [call__law_same_2, wX_top]
    cases hd with
    | non => simp! only [b__law_same, b__law_same_5]
    | int i => simp! only [b__law_same, isAny, isTy, tagD, tagTy, b__law_same_3]
    | str s => simp! only [b__law_same, isAny, isTy, tagD, tagTy, b__law_same_2]
  | succ k ih =>
    intro n d M hd hn
    obtain ⟨m, rfl⟩ : ∃ m, n = m + 1 := ⟨n - 1, by omega⟩
    refine eq_of_wp ?_
    rw [call__law_same_2, wX_top]
    cases hd with
    | non => simp! only [b__law_same, b__law_same_5]
    | int i => simp! only [b__law_same, isAny, isTy, tagD, tagTy, b__law_same_3]
    | str s => simp! only [b__law_same, isAny, isTy, tagD, tagTy, b__law_same_2]
    | tup xs hl hp =>
      have := many k m xs (.tup xs) M (fun d M hd => ih m d M hd (by omega)) hl hp (fun _ _ => rfl) (fun _ => rfl) (Q := fun a M' => a = .bl true ∧ M' = M) (E := nE) ⟨rfl, rfl⟩
      simp! only [b__law_same] at this
      simp! only [b__law_same, isAny, isTy, tagD, tagTy]
      exact this
    | lst xs hl hp =>
      have := many k m xs (.lst xs) M (fun d M hd => ih m d M hd (by omega)) hl hp (fun _ _ => rfl) (fun _ => rfl) (Q := fun a M' => a = .bl true ∧ M' = M) (E := nE) ⟨rfl, rfl⟩
      simp! only [b__law_same] at this
      simp! only [b__law_same, isAny, isTy, tagD, tagTy]
      exact this
/-! what is odd -/
variable {t : Nat}
theorem pick8 {k : Int} (h0 : 0 ≤ k) (h1 : k < 8) : ∃ e : Ex, e.Nm ∧ e.deep ≤ 2 ∧ e.sz ≤ 2 ∧ L2.atI ([.tup [.str "var", .str "zz"], .tup [.str "var", .str "r"], .tup [.str "true"], .tup [.str "num", .int 3], .tup [.str "at", .str "a", .tup [.str "num", .int 0]], .tup [.str "at", .str "r", .tup [.str "false"]], .tup [.str "var", .str "c"], .tup [.str "at", .str "r", .tup [.str "num", .int 0]]] : List D) k = some e.d := by
  have c : k = 0 ∨ k = 1 ∨ k = 2 ∨ k = 3 ∨ k = 4 ∨ k = 5 ∨ k = 6 ∨ k = 7 := by omega
  have m1 : ("zz" : Str) ∈ okN := by decide +kernel
  have m2 : ("r" : Str) ∈ okN := by decide +kernel
  have m3 : ("a" : Str) ∈ okN := by decide +kernel
  have m4 : ("c" : Str) ∈ okN := by decide +kernel
  rcases c with rfl | rfl | rfl | rfl | rfl | rfl | rfl | rfl
  · exact ⟨.var "zz", m1, by decide, by decide, atI_0⟩
  · exact ⟨.var "r", m2, by decide, by decide, atI_1⟩
  · exact ⟨.tf true, trivial, by decide, by decide, atI_2⟩
  · exact ⟨.num 3, ⟨by decide, by decide⟩, by decide, by decide, atI_3⟩
  · exact ⟨.at "a" (.num 0), ⟨m3, by decide, by decide⟩, by decide, by decide, atI_4⟩
  · exact ⟨.at "r" (.tf false), ⟨m2, trivial⟩, by decide, by decide, atI_5⟩
  · exact ⟨.var "c", m4, by decide, by decide, atI_6⟩
  · exact ⟨.at "r" (.num 0), ⟨m2, by decide, by decide⟩, by decide, by decide, atI_7⟩
theorem odd_wp (h : Tape M t) (hq : ∀ (e : Ex) (M' : Hm), e.ok → Fr t M M' → Q e.d M') : wp ((rt prg (n + 2)).call g__law_odd [some (.ref t)] [] M) Q E := by
  rw [call__law_odd_1, wX_top]
  simp! only [b__law_odd]
  refine next_wp h (by decide) (by decide) fun k M1 k0 k1 F1 => ?_
  obtain ⟨e, e1, e2, e3, ee⟩ := pick8 k0 k1
  simp! only [ee]
  refine next_wp F1.tape (by decide) (by decide) fun k M2 k0 k1 F2 => ?_
  have c : k = 0 ∨ k = 1 ∨ k = 2 ∨ k = 3 := by omega
  have F := F1.trans F2
  rcases c with rfl | rfl | rfl | rfl
  · simp! only [wO_some]
    exact hq e _ ⟨by omega, by omega, e1⟩ F
  · simp! only [wO_some]
    exact hq (.op .add (.num 1) e) _ ⟨by simp [Ex.deep]; omega, by simp [Ex.sz]; omega, ⟨by decide, by decide⟩, e1⟩ F
  · simp! only [wO_some]
    exact hq (.no e) _ ⟨by simp [Ex.deep]; omega, by simp [Ex.sz]; omega, e1⟩ F
  · simp! only [wO_some]
    exact hq (.op .both e (.op .less (.num 1) e)) _ ⟨by simp [Ex.deep]; omega, by simp [Ex.sz]; omega, e1, ⟨by decide, by decide⟩, e1⟩ F
theorem cut_toI {xs : List D} {k : Int} (h : 0 ≤ k) : cutD xs none (some k) = xs.take k.toNat := by
  obtain ⟨j, rfl⟩ : ∃ j : Nat, k = (j : Int) := ⟨k.toNat, by omega⟩
  rw [cut_to]
  rfl
theorem cut_fromI {xs : List D} {k : Int} (h : 0 ≤ k) : cutD xs (some k) none = xs.drop k.toNat := by
  obtain ⟨j, rfl⟩ : ∃ j : Nat, k = (j : Int) := ⟨k.toNat, by omega⟩
  rw [cut_from]
  rfl
/-- a block with one more statement -/
def putAt (l : List St) (k : Nat) (s : St) : List St := l.take k ++ s :: l.drop k
theorem bent_wp {l : List St} (hl : l.length ≤ 100) (h : Tape M t) (hq : ∀ (k : Nat) (s : St) (M' : Hm), s.ok 1 → s.cnt ≤ 2 → Fr t M M' → Q (.tup ((putAt l k s).map St.d)) M') : wp ((rt prg (n + 3)).call g__law_bent [some (.ref t), some (.tup (l.map St.d))] [] M) Q E := by
  rw [call__law_bent_2, wX_top]
  simp! only [b__law_bent, List.length_map]
  refine next_wp h (by omega) (by omega) fun ka M1 k0 k1 F1 => ?_
  simp! only [wO_some]
  refine odd_wp F1.tape fun e M2 he F2 => ?_
  simp! only [wO_some]
  refine next_wp F2.tape (by decide) (by decide) fun kb M3 b0 b1 F3 => ?_
  have hn : ∃ x ∈ okN, L2.atI ([.str "a", .str "c", .str "r", .str "zz"] : List D) kb = some (.str x) := by
    have c : kb = 0 ∨ kb = 1 ∨ kb = 2 ∨ kb = 3 := by omega
    rcases c with rfl | rfl | rfl | rfl
    · exact ⟨_, by decide +kernel, atI_0⟩
    · exact ⟨_, by decide +kernel, atI_1⟩
    · exact ⟨_, by decide +kernel, atI_2⟩
    · exact ⟨_, by decide +kernel, atI_3⟩
  obtain ⟨x, hx, ex⟩ := hn
  simp! only [ex]
  refine next_wp F3.tape (by decide) (by decide) fun kc M4 c0 c1 F4 => ?_
  have hn : ∃ x ∈ okN, L2.atI ([.str "r", .str "a"] : List D) kc = some (.str x) := by
    have c : kc = 0 ∨ kc = 1 := by omega
    rcases c with rfl | rfl
    · exact ⟨_, by decide +kernel, atI_0⟩
    · exact ⟨_, by decide +kernel, atI_1⟩
  obtain ⟨y, hy, ey⟩ := hn
  simp! only [ey]
  refine next_wp F4.tape (by decide) (by decide) fun kd M5 d0 d1 F5 => ?_
  have hn : ∃ x ∈ okN, L2.atI ([.str "p", .str "q", .str "zz"] : List D) kd = some (.str x) := by
    have c : kd = 0 ∨ kd = 1 ∨ kd = 2 := by omega
    rcases c with rfl | rfl | rfl
    · exact ⟨_, by decide +kernel, atI_0⟩
    · exact ⟨_, by decide +kernel, atI_1⟩
    · exact ⟨_, by decide +kernel, atI_2⟩
  obtain ⟨z, hz, ez⟩ := hn
  simp! only [ez]
  refine next_wp F5.tape (by decide) (by decide) fun ke M6 f0 f1 F6 => ?_
  have F := ((((F1.trans F2).trans F3).trans F4).trans F5).trans F6
  have m1 : ("r" : Str) ∈ okN := by decide +kernel
  have m2 : ("zz" : Str) ∈ okN := by decide +kernel
  have on : ∀ i : Int, 0 ≤ i → i ≤ 255 → (Ex.num i).ok := fun i h0 h1 => ⟨Nat.le_of_ble_eq_true rfl, Nat.le_of_ble_eq_true rfl, h0, h1⟩
  have ot : (Ex.tf true).ok := ⟨by decide, by decide, trivial⟩
  have hs : ∃ s : St, s.ok 1 ∧ s.cnt ≤ 2 ∧ L2.atI ([.tup [.str "show", e.d], .tup [.str "set", .str x, e.d], .tup [.str "put", .str y, e.d, .tup [.str "num", .int 1]], .tup [.str "put", .str "r", .tup [.str "num", .int 0], e.d], .tup [.str "if", e.d, .tup [], .tup [.tup [.str "show", e.d]]], .tup [.str "while", e.d, .tup [.tup [.str "call", .str "zz"]]], .tup [.str "call", .str z], .tup [.str "while", .tup [.str "true"], .tup [.tup [.str "show", e.d]]]] : List D) ke = some s.d := by
    have c : ke = 0 ∨ ke = 1 ∨ ke = 2 ∨ ke = 3 ∨ ke = 4 ∨ ke = 5 ∨ ke = 6 ∨ ke = 7 := by omega
    rcases c with rfl | rfl | rfl | rfl | rfl | rfl | rfl | rfl
    · exact ⟨.shw e, he, Nat.le_of_ble_eq_true rfl, atI_0⟩
    · exact ⟨.set x e, ⟨hx, he⟩, Nat.le_of_ble_eq_true rfl, atI_1⟩
    · exact ⟨.put y e (.num 1), ⟨hy, he, on 1 (by decide) (by decide)⟩, Nat.le_of_ble_eq_true rfl, atI_2⟩
    · exact ⟨.put "r" (.num 0) e, ⟨m1, on 0 (by decide) (by decide), he⟩, Nat.le_of_ble_eq_true rfl, atI_3⟩
    · exact ⟨.iff e .nil (.cons (.shw e) .nil), ⟨he, Nat.le_of_ble_eq_true rfl, Nat.le_of_ble_eq_true rfl, Nat.le_of_ble_eq_true rfl, trivial, he, trivial⟩, Nat.le_of_ble_eq_true rfl, atI_4⟩
    · exact ⟨.whl e (.cons (.call "zz") .nil), ⟨he, Nat.le_of_ble_eq_true rfl, Nat.le_of_ble_eq_true rfl, m2, trivial⟩, Nat.le_of_ble_eq_true rfl, atI_5⟩
    · exact ⟨.call z, hz, Nat.le_of_ble_eq_true rfl, atI_6⟩
    · exact ⟨.whl (.tf true) (.cons (.shw e) .nil), ⟨ot, Nat.le_of_ble_eq_true rfl, Nat.le_of_ble_eq_true rfl, he, trivial⟩, Nat.le_of_ble_eq_true rfl, atI_7⟩
  obtain ⟨s, s1, s2, es⟩ := hs
  simp! only [es, cut_toI k0, cut_fromI k0]
  have e1 : (l.map St.d).take ka.toNat ++ ([s.d] ++ (l.map St.d).drop ka.toNat) = (putAt l ka.toNat s).map St.d := by
    unfold putAt
    rw [List.map_append, List.map_cons, List.map_take, List.map_drop]
    rfl
  have l1 : ((l.map St.d).take ka.toNat).length ≤ 100 := by rw [List.length_take, List.length_map]; omega
  have l2 : ((l.map St.d).drop ka.toNat).length ≤ 100 := by rw [List.length_drop, List.length_map]; omega
  refine ⟨by omega, by simp only [List.length_append, List.length_cons, List.length_nil]; omega, ?_⟩
  have := hq ka.toNat s M6 s1 s2 F
  rw [← e1] at this
  simpa using this
end
end
/-! K05n9: the law. -/
section
open PySem
section
variable {n : Nat} {M : Hm} {Q : D → Hm → Prop} {E : Nat → D → Hm → Prop} {vs : List Va}
theorem Pl.up {k : Nat} {d : D} (h : Pl k d) : Pl (k + 1) d := by
  induction h with
  | non => exact .non
  | int i => exact .int i
  | str s => exact .str s
  | tup xs hl _ ih => exact .tup xs hl ih
  | lst xs hl _ ih => exact .lst xs hl ih
theorem ty_len : ∀ (e : Ex) (q z : List Nat), ty vs e q = .error z → z.length ≤ q.length + e.deep
  | .tf b, q, z, h => by
    have h : (match made vs (.tf b) [] with | some t => Except.ok t | none => .error q) = .error z := h
    split at h <;> cases h
    omega
  | .num b, q, z, h => by
    have h : (match made vs (.num b) [] with | some t => Except.ok t | none => .error q) = .error z := h
    split at h <;> cases h
    omega
  | .var b, q, z, h => by
    have h : (match made vs (.var b) [] with | some t => Except.ok t | none => .error q) = .error z := h
    split at h <;> cases h
    omega
  | .at x e, q, z, h => by
    have h : (match ty vs e (q ++ [0]) with
    | .error r => Except.error r
    | .ok t => match made vs (.at x e) [t] with | some t => Except.ok t | none => .error q) = .error z := h
    simp only [Ex.deep]
    cases ht : ty vs e (q ++ [0]) with
    | error r =>
      rw [ht] at h
      cases h
      have := ty_len e _ _ ht
      simp at this
      omega
    | ok t =>
      rw [ht] at h
      dsimp only at h
      split at h <;> cases h
      omega
  | .no e, q, z, h => by
    have h : (match ty vs e (q ++ [0]) with
    | .error r => Except.error r
    | .ok t => match made vs (.no e) [t] with | some t => Except.ok t | none => .error q) = .error z := h
    simp only [Ex.deep]
    cases ht : ty vs e (q ++ [0]) with
    | error r =>
      rw [ht] at h
      cases h
      have := ty_len e _ _ ht
      simp at this
      omega
    | ok t =>
      rw [ht] at h
      dsimp only at h
      split at h <;> cases h
      omega
  | .op o a b, q, z, h => by
    have h : (match ty vs a (q ++ [0]) with
    | .error r => Except.error r
    | .ok t => match ty vs b (q ++ [1]) with
      | .error r => Except.error r
      | .ok u => match made vs (.op o a b) [t, u] with | some t => Except.ok t | none => .error q) = .error z := h
    simp only [Ex.deep]
    cases ht : ty vs a (q ++ [0]) with
    | error r =>
      rw [ht] at h
      cases h
      have := ty_len a _ _ ht
      simp at this
      omega
    | ok t =>
      rw [ht] at h
      dsimp only at h
      cases hu : ty vs b (q ++ [1]) with
      | error r =>
        rw [hu] at h
        cases h
        have := ty_len b _ _ hu
        simp at this
        omega
      | ok u =>
        rw [hu] at h
        dsimp only at h
        split at h <;> cases h
        omega
theorem pl_path {q : List Nat} (h : q.length ≤ 1000) : Pl 1 (pathD q) := .tup _ (by rw [List.length_map]; exact h) (by
  intro x hx
  obtain ⟨k, _, rfl⟩ := List.mem_map.mp hx
  exact .int _)
theorem pl_parts : ∀ (es : List Ex) (ds : List Ki) (k : Nat) (f : D), (∀ e ∈ es, e.deep ≤ 900) → partsF vs k es ds = some f → Pl 2 f
  | [], ds, k, f, _, h => by cases ds <;> cases h
  | e :: es, [], k, f, _, h => by cases h
  | e :: es, d :: ds, k, f, he, h => by
    have h : (match ty vs e [] with
      | .error z => some (D.tup [.str "part", .int ((k : Nat) : Int), pathD z])
      | .ok t => if t = d then partsF vs (k + 1) es ds else some (.tup [.str "type", .int ((k : Nat) : Int)])) = some f := h
    cases ht : ty vs e [] with
    | error z =>
      rw [ht] at h
      cases h
      have := ty_len e _ _ ht
      have hd := he e List.mem_cons_self
      refine .tup _ (Nat.le_of_ble_eq_true rfl) fun x hx => ?_
      simp only [List.mem_cons, List.not_mem_nil, or_false] at hx
      rcases hx with rfl | rfl | rfl
      · exact .str _
      · exact .int _
      · exact pl_path (by simp at this; omega)
    | ok t =>
      rw [ht] at h
      dsimp only at h
      split at h
      · exact pl_parts es ds (k + 1) f (fun e he' => he e (List.mem_cons_of_mem _ he')) h
      · cases h
        refine .tup _ (Nat.le_of_ble_eq_true rfl) fun x hx => ?_
        simp only [List.mem_cons, List.not_mem_nil, or_false] at hx
        rcases hx with rfl | rfl
        · exact .str _
        · exact .int _
theorem pl_two {a : Str} {x : Str} : Pl 2 (.tup [.str a, .str x]) := by
  refine .tup _ (Nat.le_of_ble_eq_true rfl) fun y hy => ?_
  simp only [List.mem_cons, List.not_mem_nil, or_false] at hy
  rcases hy with rfl | rfl <;> exact .str _
theorem pl_st {bs : List (Option Str)} (s : St) (f : D) (he : ∀ e ∈ s.exs, e.deep ≤ 900) (h : stF vs bs s = some f) : Pl 2 f := by
  cases s with
  | call x =>
    have h : (if some x ∈ bs then none else some (D.tup [.str "call", .str x])) = some f := h
    split at h
    · cases h
    · cases h; exact pl_two
  | stop => cases h
  | shw e => exact pl_parts _ _ _ f he h
  | iff c a b => exact pl_parts _ _ _ f he h
  | whl c a => exact pl_parts _ _ _ f he h
  | set x e =>
    have h : (match findV vs x with | some r => if r.k = .row then some (D.tup [.str "name", .str x]) else partsF vs 0 [e] [r.k] | none => some (.tup [.str "name", .str x])) = some f := h
    split at h
    · split at h
      · cases h; exact pl_two
      · exact pl_parts _ _ _ f he h
    · cases h; exact pl_two
  | put x a e =>
    have h : (match findV vs x with | some r => if r.k = .row then partsF vs 0 [a, e] [.word, .word] else some (D.tup [.str "name", .str x]) | none => some (.tup [.str "name", .str x])) = some f := h
    split at h
    · split at h
      · exact pl_parts _ _ _ f he h
      · cases h; exact pl_two
    · cases h; exact pl_two
theorem pl_pair {q : List Nat} {f : D} (hq : q.length ≤ 1000) (h : Pl 2 f) : Pl 3 (.tup [pathD q, f]) := by
  refine .tup _ (Nat.le_of_ble_eq_true rfl) fun y hy => ?_
  simp only [List.mem_cons, List.not_mem_nil, or_false] at hy
  rcases hy with rfl | rfl
  · exact (pl_path hq).up
  · exact h
theorem exs_deep {s : St} {d : Nat} (h : s.ok d) : ∀ e ∈ s.exs, e.deep ≤ 6 := by
  intro e he
  cases s with
  | set x a => rw [List.mem_singleton.mp he]; exact h.2.1
  | put x a b =>
    simp only [St.exs, List.mem_cons, List.not_mem_nil, or_false] at he
    rcases he with rfl | rfl
    · exact h.2.1.1
    · exact h.2.2.1
  | shw a => rw [List.mem_singleton.mp he]; exact h.1
  | iff c a b => rw [List.mem_singleton.mp he]; exact h.1.1
  | whl c a => rw [List.mem_singleton.mp he]; exact h.1.1
  | call x => cases he
  | stop => cases he
theorem pl_turn {bs : List (Option Str)} {d : Nat} (ih : ∀ (b : Sts) (q : List Nat) (f : D), 1 ≤ d → b.ok (d - 1) → q.length + 2 * (d - 1) ≤ 900 → blF vs bs q 0 b = some f → Pl 3 f) {s : St} {q : List Nat} {k : Nat} {g : D} (ho : s.ok d) (hq : q.length + 2 * d ≤ 900) (h : turnF vs bs q k s = some g) : Pl 3 g := by
  unfold turnF at h
  cases hs : stF vs bs s with
  | some f =>
    rw [hs] at h
    cases h
    exact pl_pair (by simp; omega) (pl_st s f (fun e he => by have := exs_deep ho e he; omega) hs)
  | none =>
    rw [hs] at h
    cases s with
    | iff c a b =>
      obtain ⟨_, h1, _, _, h4, h5⟩ := ho
      have h : (match blF vs bs (q ++ [k, 0]) 0 a with | some f => some f | none => blF vs bs (q ++ [k, 1]) 0 b) = some g := h
      cases ha : blF vs bs (q ++ [k, 0]) 0 a with
      | some f =>
        rw [ha] at h
        cases h
        exact ih a _ _ h1 h4 (by simp; omega) ha
      | none =>
        rw [ha] at h
        exact ih b _ _ h1 h5 (by simp; omega) h
    | whl c a =>
      obtain ⟨_, h1, _, h4⟩ := ho
      have h : blF vs bs (q ++ [k, 0]) 0 a = some g := h
      exact ih a _ _ h1 h4 (by simp; omega) h
    | set x e => cases h
    | put x a e => cases h
    | call x => cases h
    | stop => cases h
    | shw e => cases h
theorem pl_list {bs : List (Option Str)} {d : Nat} (ih : ∀ (b : Sts) (q : List Nat) (f : D), 1 ≤ d → b.ok (d - 1) → q.length + 2 * (d - 1) ≤ 900 → blF vs bs q 0 b = some f → Pl 3 f) : ∀ (l : List St) (q : List Nat) (k : Nat) (f : D), (∀ s ∈ l, s.ok d) → q.length + 2 * d ≤ 900 → blF vs bs q k (Sts.ofL l) = some f → Pl 3 f
  | [], q, k, f, _, _, h => by cases k <;> cases h
  | s :: l, q, k, f, ho, hq, h => by
    have h : blF vs bs q k (.cons s (Sts.ofL l)) = some f := h
    rw [blF_cons] at h
    cases ht : turnF vs bs q k s with
    | none => rw [ht] at h; exact pl_list ih l q (k + 1) f (fun s hs => ho s (List.mem_cons_of_mem _ hs)) hq h
    | some g =>
      rw [ht] at h
      cases h
      exact pl_turn ih (ho s List.mem_cons_self) hq ht
theorem pl_blk {bs : List (Option Str)} : ∀ (d : Nat) (b : Sts) (q : List Nat) (f : D), b.ok d → q.length + 2 * d ≤ 900 → blF vs bs q 0 b = some f → Pl 3 f
  | 0, b, q, f, ho, hq, h => by
    rw [← ofL_toL b] at h
    exact pl_list (fun _ _ _ h => absurd h (by decide)) b.toL q 0 f (toL_ok ho) hq h
  | d + 1, b, q, f, ho, hq, h => by
    rw [← ofL_toL b] at h
    exact pl_list (d := d + 1) (fun b q f _ ho hq h => pl_blk d b q f ho hq h) b.toL q 0 f (toL_ok ho) hq h
theorem pl_first : ∀ (l : List Bd) (bs : List (Option Str)) (f : D), (∀ x ∈ l, x.2.ok 2) → firstF vs bs l = some f → Pl 3 f
  | [], bs, f, _, h => by cases h
  | x :: l, bs, f, ho, h => by
    have h : (match blF vs bs [] 0 x.2 with | some f => some (named x.1 f) | none => firstF vs (bs ++ [x.1]) l) = some f := h
    cases hb : blF vs bs [] 0 x.2 with
    | none => rw [hb] at h; exact pl_first l _ f (fun y hy => ho y (List.mem_cons_of_mem _ hy)) h
    | some g =>
      rw [hb] at h
      obtain ⟨f1, f2, rfl⟩ := blF_two vs bs x.2 _ _ _ hb
      have hp := pl_blk 2 x.2 [] _ (ho x List.mem_cons_self) (by decide) hb
      cases h
      cases hp with
      | tup xs _ hx =>
        refine .tup _ (Nat.le_of_ble_eq_true rfl) fun y hy => ?_
        rcases List.mem_cons.mp hy with rfl | hy
        · cases x.1 with
          | none => exact .non
          | some s => exact .str s
        · exact hx y hy
/-! levels that are needed -/
theorem need_ok : ∀ (d : Nat), (∀ s : St, s.ok d → s.need ≤ 12 + d) ∧ (∀ b : Sts, b.ok d → b.len ≤ 12 → b.need ≤ 13 + d) := by
  have blk : ∀ d, (∀ s : St, s.ok d → s.need ≤ 12 + d) → ∀ b : Sts, b.ok d → b.len ≤ 12 → b.need ≤ 13 + d := by
    intro d hs b
    have : ∀ l : List St, (∀ s ∈ l, s.ok d) → l.length ≤ 12 → (Sts.ofL l).need ≤ 13 + d := by
      intro l
      induction l with
      | nil => intro _ _; simp only [Sts.ofL, Sts.need]; omega
      | cons s l ih =>
        intro ho hl
        have h1 := hs s (ho s List.mem_cons_self)
        have h2 := ih (fun s hs => ho s (List.mem_cons_of_mem _ hs)) (by simp at hl; omega)
        have h3 := ofL_len l
        simp only [List.length_cons] at hl
        simp only [Sts.ofL, Sts.need]
        omega
    intro ho hl
    have := this b.toL (toL_ok ho) (by rw [toL_len]; exact hl)
    rw [ofL_toL] at this
    exact this
  intro d
  induction d with
  | zero =>
    have hs : ∀ s : St, s.ok 0 → s.need ≤ 12 + 0 := by
      intro s ho
      have hd := exs_deep ho
      cases s with
      | set x e => have := hd e (by simp [St.exs]); simp only [St.need]; omega
      | put x a e => have := hd a (by simp [St.exs]); have := hd e (by simp [St.exs]); simp only [St.need]; omega
      | shw e => have := hd e (by simp [St.exs]); simp only [St.need]; omega
      | call x => simp only [St.need]; omega
      | stop => simp only [St.need]; omega
      | iff c a b => exact absurd ho.2.1 (by decide)
      | whl c a => exact absurd ho.2.1 (by decide)
    exact ⟨hs, blk 0 hs⟩
  | succ d ih =>
    have hs : ∀ s : St, s.ok (d + 1) → s.need ≤ 12 + (d + 1) := by
      intro s ho
      have hd := exs_deep ho
      cases s with
      | set x e => have := hd e (by simp [St.exs]); simp only [St.need]; omega
      | put x a e => have := hd a (by simp [St.exs]); have := hd e (by simp [St.exs]); simp only [St.need]; omega
      | shw e => have := hd e (by simp [St.exs]); simp only [St.need]; omega
      | call x => simp only [St.need]; omega
      | stop => simp only [St.need]; omega
      | iff c a b =>
        obtain ⟨h0, _, h2, h3, h4, h5⟩ := ho
        have := h0.1
        have := ih.2 a h4 h2
        have := ih.2 b h5 h3
        simp only [St.need]
        omega
      | whl c a =>
        obtain ⟨h0, _, h2, h4⟩ := ho
        have := h0.1
        have := ih.2 a h4 h2
        simp only [St.need]
        omega
    exact ⟨hs, blk (d + 1) hs⟩
theorem made_need {prs : List (Str × Sts)} {blk : Sts} (H : Made vs prs blk) : ∀ x ∈ bodL prs blk, x.2.need ≤ 15 := by
  intro x hx
  unfold bodL at hx
  rcases List.mem_append.mp hx with hx | hx
  · obtain ⟨p, hp, rfl⟩ := List.mem_map.mp hx
    have := (need_ok 1).2 p.2 (H.pok p hp).2.1 (H.pok p hp).2.2
    exact Nat.le_trans this (by decide)
  · rw [List.mem_singleton.mp hx]
    exact (need_ok 2).2 blk H.bok H.blen
theorem st_up : ∀ (d : Nat), (∀ s : St, s.ok d → s.ok (d + 1)) := by
  intro d
  induction d with
  | zero =>
    intro s ho
    cases s with
    | iff c a b => exact absurd ho.2.1 (by decide)
    | whl c a => exact absurd ho.2.1 (by decide)
    | _ => exact ho
  | succ d ih =>
    intro s ho
    have hb : ∀ b : Sts, b.ok d → b.ok (d + 1) := fun b hb => by
      have := ofL_ok (d := d + 1) (fun s hs => ih s (toL_ok hb s hs))
      rw [ofL_toL] at this
      exact this
    cases s with
    | iff c a b =>
      obtain ⟨h0, h1, h2, h3, h4, h5⟩ := ho
      exact ⟨h0, by omega, h2, h3, hb a h4, hb b h5⟩
    | whl c a =>
      obtain ⟨h0, h1, h2, h4⟩ := ho
      exact ⟨h0, by omega, h2, hb a h4⟩
    | _ => exact ho
theorem blk_up {d : Nat} {b : Sts} (hb : b.ok d) : b.ok (d + 1) := by
  have := ofL_ok (d := d + 1) (fun s hs => st_up d s (toL_ok hb s hs))
  rw [ofL_toL] at this
  exact this
theorem made_ok2 {prs : List (Str × Sts)} {blk : Sts} (H : Made vs prs blk) : ∀ x ∈ bodL prs blk, x.2.ok 2 := by
  intro x hx
  unfold bodL at hx
  rcases List.mem_append.mp hx with hx | hx
  · obtain ⟨p, hp, rfl⟩ := List.mem_map.mp hx
    exact blk_up (H.pok p hp).2.1
  · rw [List.mem_singleton.mp hx]
    exact H.bok
/-! the checks, asked -/
def askF : Option D → D
  | none => .tup [.str "yes", .non]
  | some f => .tup [.str "no", f]
theorem check_wp {p : Nat} {prs : List (Str × Sts)} {blk : Sts} (h : PrgAt M p "prog" vs (prsD prs) (.tup blk.ds)) {m : Nat} (hm : 2 * m ≤ 1000) (h1 : 1 ≤ m) (hl : prs.length ≤ 900) (hn : ∀ x ∈ bodL prs blk, x.2.need ≤ m) (ho : ∀ x ∈ bodL prs blk, x.2.ok 2)
    (hq : ∀ X, match firstF vs [] (bodL prs blk) with | none => Q .non (M ++ X) | some f => E 1 f (M ++ X)) : wp ((rt prg (m + 2)).call g_check_program [some (.ref p)] [] M) Q E := by
  obtain ⟨bs', hf⟩ := program_fault_eq h hm h1 hl hn
  have hX := hq [.lst bs']
  rw [call_check_program_1, wX_top]
  simp! only [b_check_program, hf]
  cases he : firstF vs [] (bodL prs blk) with
  | none =>
    rw [he] at hX
    simp! only [optD]
    exact hX
  | some f =>
    rw [he] at hX
    have hp := pl_first _ _ f ho he
    have ht : ∀ M (Q : Bool → Hm → Prop), wO (opCmp .isnot f .non M) M Q = Q true M := by
      intro M Q
      have : ∃ xs, f = .tup xs := by
        have key : ∀ (l : List Bd) (bs : List (Option Str)) (f : D), firstF vs bs l = some f → ∃ xs, f = .tup xs := by
          intro l
          induction l with
          | nil => intro bs f h; cases h
          | cons x l ih =>
            intro bs f h
            have h : (match blF vs bs [] 0 x.2 with | some f => some (named x.1 f) | none => firstF vs (bs ++ [x.1]) l) = some f := h
            cases hb : blF vs bs [] 0 x.2 with
            | none => rw [hb] at h; exact ih _ f h
            | some g =>
              rw [hb] at h
              obtain ⟨f1, f2, rfl⟩ := blF_two vs bs x.2 _ _ _ hb
              cases h
              exact ⟨_, rfl⟩
        exact key _ _ f he
      obtain ⟨xs, rfl⟩ := this
      rfl
    simp! only [ht, b_check_program_1, optD]
    exact hX
theorem call_asked (c : CloD) : (rt prg (n + 1)).call g__law_asked [none] [(0, c)] M = (execs prg (rt prg n) [(0, c)] b__law_asked [none, none] M).res := rfl
theorem asked_check {p : Nat} {prs : List (Str × Sts)} {blk : Sts} (h : PrgAt M p "prog" vs (prsD prs) (.tup blk.ds)) {m : Nat} (hm : 2 * m ≤ 1000) (h1 : 1 ≤ m) (hl : prs.length ≤ 900) (hn : ∀ x ∈ bodL prs blk, x.2.need ≤ m) (ho : ∀ x ∈ bodL prs blk, x.2.ok 2)
    (hq : ∀ X, Q (askF (firstF vs [] (bodL prs blk))) (M ++ X)) : wp ((rt prg (m + 4)).call g__law_asked [none] [(0, ⟨0, [some (.ref p)], 1, .call g_check_program (.cons (.var 0) .nil)⟩)] M) Q E := by
  rw [call_asked, wX_top]
  have k0 : ([((0 : Nat), (⟨0, [some (.ref p)], 1, .call g_check_program (.cons (.var 0) .nil)⟩ : CloD))]).lookup 0 = some ⟨0, [some (.ref p)], 1, .call g_check_program (.cons (.var 0) .nil)⟩ := rfl
  simp! only [b__law_asked, b__law_asked_1, k0, r_clo, startE, List.map_nil, List.replicate]
  refine check_wp h hm h1 hl hn ho fun X => ?_
  have hX := hq X
  cases he : firstF vs [] (bodL prs blk) with
  | none =>
    rw [he] at hX
    simp! only [wO_some]
    exact hX
  | some f =>
    rw [he] at hX
    simp! only [wO_some]
    have hc : caught prg 1 f [none, none] (M ++ X) (.cons 1 (some 1) (.tup (.cons (.cst (.str "no")) (.cons (.exp 1) .nil))) (.cons 0 (some 1) (.tup (.cons (.cst (.str "other")) (.cons (.exp 1) .nil))) .nil)) = .ret (.tup [.str "no", f]) (M ++ X) := rfl
    simp! only [hc]
    exact hX
theorem asked_type {p : Nat} {prs : List (Str × Sts)} {blk : Sts} (h : PrgAt M p "prog" vs (prsD prs) (.tup blk.ds)) {m : Nat} {e : Ex} (he : e.deep + 3 ≤ m) (he2 : e.deep ≤ 900)
    (hq : Q (tyL' (ty vs e [])) M) : wp ((rt prg (m + 2)).call g__law_asked [none] [(0, ⟨0, [some e.d, some (.ref p)], 2, .call g_type_of (.cons (.var 1) (.cons (.var 0) .nil))⟩)] M) Q E := by
  rw [call_asked, wX_top]
  have k0 : ([((0 : Nat), (⟨0, [some e.d, some (.ref p)], 2, .call g_type_of (.cons (.var 1) (.cons (.var 0) .nil))⟩ : CloD))]).lookup 0 = some ⟨0, [some e.d, some (.ref p)], 2, .call g_type_of (.cons (.var 1) (.cons (.var 0) .nil))⟩ := rfl
  have ht := type_of_eq h e m he (by omega)
  simp! only [b__law_asked, b__law_asked_1, k0, r_clo, startE, List.map_nil, List.replicate, ht]
  cases hr : ty vs e [] with
  | ok k =>
    rw [hr] at hq
    simp! only [tyR]
    exact hq
  | error z =>
    rw [hr] at hq
    have hc : caught prg 1 (pathD z) [none, none] M (.cons 1 (some 1) (.tup (.cons (.cst (.str "no")) (.cons (.exp 1) .nil))) (.cons 0 (some 1) (.tup (.cons (.cst (.str "other")) (.cons (.exp 1) .nil))) .nil)) = .ret (.tup [.str "no", pathD z]) M := rfl
    simp! only [tyR, hc]
    exact hq
end
end
/-! K05n10: the law, whole. -/
section
open PySem
section
variable {vs : List Va} {prs : List (Str × List St)} {body : List St}
def toS (prs : List (Str × List St)) : List (Str × Sts) := prs.map fun p => (p.1, Sts.ofL p.2)
theorem prsDL_eq (prs : List (Str × List St)) : prsDL prs = prsD (toS prs) := by
  unfold prsDL prsD toS
  rw [List.map_map]
  congr 1
  refine List.map_congr_left fun p _ => ?_
  show D.tup [.str p.1, .tup (p.2.map St.d)] = .tup [.str p.1, .tup (Sts.ofL p.2).ds]
  rw [ofL_ds]
theorem fit_none : ∀ (prs : List (Str × List St)) (bs : List (Option Str)), PFit vs bs prs → (∀ s ∈ body, GoodS vs (bs ++ prs.map fun p => some p.1) 2 s) → firstF vs bs ((toS prs).map (fun x => (some x.1, x.2)) ++ [(none, Sts.ofL body)]) = none
  | [], bs, _, hb => by
    show (match blF vs bs [] 0 (Sts.ofL body) with | some f => some (named none f) | none => firstF vs (bs ++ [none]) []) = none
    rw [ofL_fit (by simpa using hb)]
    rfl
  | p :: r, bs, hp, hb => by
    show (match blF vs bs [] 0 (Sts.ofL p.2) with | some f => some (named (some p.1) f) | none => firstF vs (bs ++ [some p.1]) ((toS r).map (fun x => (some x.1, x.2)) ++ [(none, Sts.ofL body)])) = none
    rw [ofL_fit hp.1]
    exact fit_none r _ hp.2.2 (by simpa using hb)
theorem dr_fit (H : DrP vs prs body) : firstF vs [] (bodL (toS prs) (Sts.ofL body)) = none := fit_none prs [] H.pfit (by simpa using H.bgood)
/-- so far bent -/
structure Bent (c : Nat) (prs prs2 : List (Str × List St)) (body2 : List St) : Prop where
  nm : prs2.map (·.1) = prs.map (·.1)
  pok : ∀ p ∈ prs2, (∀ s ∈ p.2, s.ok 1) ∧ p.2.length ≤ 3
  bok : ∀ s ∈ body2, s.ok 2
  blen : body2.length ≤ 6
  cnt : (prs2.map fun p => lstCnt p.2).sum + lstCnt body2 ≤ c
theorem made_bent (H : DrP vs prs body) {c : Nat} {prs2 : List (Str × List St)} {body2 : List St} (B : Bent c prs prs2 body2) (hc : c ≤ 60) : Made vs (toS prs2) (Sts.ofL body2) := by
  obtain ⟨k, hk⟩ := H.pnm
  have hnm : (toS prs2).map (·.1) = (["p", "q"] : List Str).take k := by
    rw [← hk, ← B.nm]
    unfold toS
    rw [List.map_map]
    rfl
  have hsub := List.take_sublist k (["p", "q"] : List Str)
  refine ⟨H.vok, H.vnd, H.vlen, H.vrow, fun p hp => ?_, ?_, ?_, ofL_ok B.bok, by rw [ofL_len]; have := B.blen; omega, ?_⟩
  · have h1 : p.1 ∈ (["p", "q"] : List Str) := by
      have : p.1 ∈ (toS prs2).map (·.1) := List.mem_map.mpr ⟨p, hp, rfl⟩
      rw [hnm] at this
      exact List.mem_of_mem_take this
    obtain ⟨q, hq, rfl⟩ := List.mem_map.mp hp
    have := B.pok q hq
    exact ⟨(by decide +kernel : ∀ x ∈ (["p", "q"] : List Str), x ∈ okN) _ h1, ofL_ok this.1, by rw [ofL_len]; omega⟩
  · rw [hnm]
    exact (by decide +kernel : (["p", "q"] : List Str).Nodup).sublist hsub
  · have := congrArg List.length hnm
    rw [List.length_map, List.length_take] at this
    simp at this
    omega
  · have h := B.cnt
    rw [ofL_cnt']
    have e : ((toS prs2).map fun p => p.2.cnt) = prs2.map fun p => lstCnt p.2 := by
      unfold toS
      rw [List.map_map]
      exact List.map_congr_left fun p _ => ofL_cnt' p.2
    rw [e]
    omega
theorem bent_dr (H : DrP vs prs body) : Bent 56 prs prs body := ⟨rfl, fun p hp => ⟨(pfit_ok H.pfit p hp).1, by have := (pfit_ok H.pfit p hp).2; omega⟩, fun s hs => (H.bgood s hs).ok, by have := H.blen; omega, H.cnt⟩
theorem putAt_len (l : List St) (k : Nat) (s : St) : (putAt l k s).length = l.length + 1 := by
  unfold putAt
  rw [List.length_append, List.length_cons, List.length_take, List.length_drop]
  omega
theorem putAt_cnt (l : List St) (k : Nat) (s : St) : lstCnt (putAt l k s) = lstCnt l + s.cnt := by
  unfold putAt lstCnt
  rw [List.map_append, List.map_cons, List.sum_append, List.sum_cons]
  have : (l.map St.cnt).sum = ((l.take k).map St.cnt).sum + ((l.drop k).map St.cnt).sum := by rw [← List.sum_append, ← List.map_append, List.take_append_drop]
  omega
theorem putAt_mem {l : List St} {k : Nat} {s x : St} (h : x ∈ putAt l k s) : x ∈ l ∨ x = s := by
  unfold putAt at h
  rcases List.mem_append.mp h with h | h
  · exact .inl (List.mem_of_mem_take h)
  · rcases List.mem_cons.mp h with h | h
    · exact .inr h
    · exact .inl (List.mem_of_mem_drop h)
theorem bent_body {c : Nat} {prs2 : List (Str × List St)} {body2 : List St} (B : Bent c prs prs2 body2) {k : Nat} {s : St} (hs : s.ok 1) (h2 : s.cnt ≤ 2) (hl : body2.length ≤ 5) : Bent (c + 2) prs prs2 (putAt body2 k s) :=
  ⟨B.nm, B.pok, fun x hx => by
    rcases putAt_mem hx with h | rfl
    · exact B.bok x h
    · exact st_up 1 _ hs, by rw [putAt_len]; omega, by rw [putAt_cnt]; have := B.cnt; omega⟩
abbrev lawσ (s : D) (t : Nat) (parts : D) (o3 o4 o5 o6 o7 o8 o9 : Option D) : Env := [some s, some (.ref t), some parts, o3, o4, o5, o6, o7, o8, o9, none, none, none]
abbrev partsD (vs : List Va) (prs : List (Str × List St)) (body : List St) : D := .tup [.str "prog", .tup (vs.map Va.d), prsDL prs, .tup (body.map St.d)]
variable {t : Nat}
theorem mapM_8 {x0 x1 x2 x3 x4 x5 x6 x7 : Option D} {d : D} {σ : Env} : List.mapM (slot (x0 :: x1 :: x2 :: x3 :: x4 :: x5 :: x6 :: x7 :: some d :: σ)) [8] = some [d] := rfl
theorem mapM_118 {x0 x1 x2 x3 x4 x5 x6 x7 x9 x10 : Option D} {d e : D} {σ : Env} : List.mapM (slot (x0 :: x1 :: x2 :: x3 :: x4 :: x5 :: x6 :: x7 :: some d :: x9 :: x10 :: some e :: σ)) [11, 8] = some [e, d] := rfl
theorem pl_ask {F : Option D} (h : ∀ f, F = some f → Pl 3 f) : Pl 5 (.lst [optD F, askF F]) := by
  cases F with
  | none =>
    refine .lst _ (Nat.le_of_ble_eq_true rfl) fun x hx => ?_
    simp only [List.mem_cons, List.not_mem_nil, or_false] at hx
    rcases hx with rfl | rfl
    · exact .non
    · refine .tup _ (Nat.le_of_ble_eq_true rfl) fun x hx => ?_
      simp only [List.mem_cons, List.not_mem_nil, or_false] at hx
      rcases hx with rfl | rfl
      · exact .str _
      · exact .non
  | some f =>
    have := h f rfl
    refine .lst _ (Nat.le_of_ble_eq_true rfl) fun x hx => ?_
    simp only [List.mem_cons, List.not_mem_nil, or_false] at hx
    rcases hx with rfl | rfl
    · exact this.up
    · refine .tup _ (Nat.le_of_ble_eq_true rfl) fun x hx => ?_
      simp only [List.mem_cons, List.not_mem_nil, or_false] at hx
      rcases hx with rfl | rfl
      · exact .str _
      · exact this
@[irreducible] def SXs (P : Prg) (R : Rt) (κ : List (Nat × CloD)) (ss : MSs) (σ : Env) (M : Hm) (p : Po) : Prop := wXs P R κ ss σ M p
theorem sxs {P : Prg} {R : Rt} {κ : List (Nat × CloD)} {ss : MSs} {σ : Env} {M : Hm} {p : Po} : SXs P R κ ss σ M p = wXs P R κ ss σ M p := by unfold SXs; exact Eq.refl _
theorem turn3 (H : DrP vs prs body) {sc : D} {o3 o6 o7 o8 o9 : Option D} {M : Hm} {p : Po} {prs2 : List (Str × List St)} {body2 : List St} (B : Bent 60 prs prs2 body2) (ht : Tape M t)
    (hp : ∀ (M' : Hm) (o7 o8 o9 : Option D), Fr t M M' → p.N (lawσ sc t (partsD vs prs body) o3 (some (prsDL prs2)) (some (.tup (body2.map St.d))) o6 o7 o8 o9) M') :
    SXs prg (rt prg 59) [] (b_law_5.drop 3) (lawσ sc t (partsD vs prs body) o3 (some (prsDL prs2)) (some (.tup (body2.map St.d))) o6 o7 o8 o9) M p := by
  rw [sxs]
  have HM := made_bent H B (by decide)
  have hl : (toS prs2).length ≤ 900 := by have := HM.plen; omega
  have hn : ∀ m, 15 ≤ m → ∀ x ∈ bodL (toS prs2) (Sts.ofL body2), x.2.need ≤ m := fun m hm x hx => Nat.le_trans (made_need HM x hx) hm
  have ho := made_ok2 HM
  simp! only [b_law_5, prsDL_eq prs2, ← ofL_ds body2]
  rw [← swp]
  refine make_wp (m := 44) HM fun X hX => ?_
  simp! only [wO_some]
  refine first_wp (m := 58) (by decide) HM.vnd (by have := HM.vlen; omega) hl (hn 58 (by decide)) fun Y => ?_
  have hY := hX.app Y
  obtain ⟨bs', hf⟩ := program_fault_eq hY (m := 58) (by decide) (by decide) hl (hn 58 (by decide))
  have hZ := hY.app [.lst bs']
  simp! only [hf, mapM_8, List.map_cons, List.map_nil]
  refine asked_check (m := 55) hZ (by decide) (by decide) hl (hn 55 (by decide)) ho fun Z => ?_
  have pl := pl_ask (F := firstF vs [] (bodL (toS prs2) (Sts.ofL body2))) fun f hf => pl_first _ _ f ho hf
  have same := fun M => same_eq 5 59 _ M pl (by decide)
  have fin := hp (M ++ X ++ Y ++ [.lst bs'] ++ Z)
  have Fr1 : Fr t M (M ++ X ++ Y ++ [.lst bs'] ++ Z) := by
    rw [List.append_assoc, List.append_assoc, List.append_assoc]
    exact Fr.app ht
  rw [prsDL_eq prs2, ← ofL_ds body2] at fin
  cases hF : firstF vs [] (bodL (toS prs2) (Sts.ofL body2)) with
  | none =>
    rw [hF] at same
    simp only [optD, askF] at same
    simp! only [optD, askF, same]
    exact fin _ _ _ Fr1
  | some f =>
    rw [hF] at same
    have ft : ∃ xs, f = .tup xs := by
      have := pl_first _ _ f ho hF
      have key : ∀ (l : List Bd) (bs : List (Option Str)) (f : D), firstF vs bs l = some f → ∃ xs, f = .tup xs := by
        intro l
        induction l with
        | nil => intro bs f h; cases h
        | cons x l ih =>
          intro bs f h
          have h : (match blF vs bs [] 0 x.2 with | some f => some (named x.1 f) | none => firstF vs (bs ++ [x.1]) l) = some f := h
          cases hb : blF vs bs [] 0 x.2 with
          | none => rw [hb] at h; exact ih _ f h
          | some g =>
            rw [hb] at h
            obtain ⟨f1, f2, rfl⟩ := blF_two vs bs x.2 _ _ _ hb
            cases h
            exact ⟨_, rfl⟩
      exact key _ _ f hF
    obtain ⟨xs, rfl⟩ := ft
    simp only [optD, askF] at same
    simp! only [optD, askF, same]
    exact fin _ _ _ Fr1
end
end
/-! K05n11: the law, whole. -/
section
open PySem
section
variable {vs : List Va} {prs : List (Str × List St)} {body : List St} {t : Nat}
theorem law5_2 : b_law_5.drop 2 = .cons (.ife (.cmp .eq (.call g__law_next (.cons (.var 1) (.cons (.cst (.int 2)) .nil))) (.cst (.int 0))) b_law_2 .nil) (b_law_5.drop 3) := rfl
theorem law5_0 : b_law_5 = .cons (.par [4, 5] (.cons (.ix (.var 2) (.cst (.int 2))) (.cons (.ix (.var 2) (.cst (.int 3))) .nil))) (.cons (.ife (.bop true (.cons (.cmp .ne (.var 4) (.tup .nil)) (.cons (.cmp .eq (.call g__law_next (.cons (.var 1) (.cons (.cst (.int 3)) .nil))) (.cst (.int 0))) .nil))) b_law_3 b_law_4) (b_law_5.drop 2)) := rfl
theorem turn2 (H : DrP vs prs body) {sc : D} {o3 o6 o7 o8 o9 : Option D} {M : Hm} {p : Po} {prs2 : List (Str × List St)} {body2 : List St} (B : Bent 58 prs prs2 body2) (hb : body2.length ≤ 5) (ht : Tape M t)
    (hp : ∀ (M' : Hm) (o4 o5 o6 o7 o8 o9 : Option D), Fr t M M' → p.N (lawσ sc t (partsD vs prs body) o3 o4 o5 o6 o7 o8 o9) M') :
    SXs prg (rt prg 59) [] (b_law_5.drop 2) (lawσ sc t (partsD vs prs body) o3 (some (prsDL prs2)) (some (.tup (body2.map St.d))) o6 o7 o8 o9) M p := by
  rw [sxs]
  have t3 : ∀ (M2 : Hm) (b2 : List St) (B2 : Bent 60 prs prs2 b2) (F : Fr t M M2), SXs prg (rt prg 59) [] (b_law_5.drop 3) (lawσ sc t (partsD vs prs body) o3 (some (prsDL prs2)) (some (.tup (b2.map St.d))) o6 o7 o8 o9) M2 p := by
    intro M2 b2 B2 F
    refine turn3 H B2 F.tape ?_
    intro M' o7 o8 o9 F2
    exact hp M' _ _ _ _ _ _ (F.trans F2)
  rw [law5_2]
  generalize b_law_5.drop 3 = B3 at t3 ⊢
  simp! only [wO_some]
  refine next_wp ht (by decide) (by decide) fun k M1 k0 k1 F1 => ?_
  simp! only [wO_some]
  refine wif (fun h0 => ?_) (fun h0 => ?_)
  · simp! only [b_law_2]
    refine bent_wp (n := 56) (by omega) F1.tape fun k s M2 s1 s2 F2 => ?_
    simp! only [wO_some]
    rw [← sxs]
    exact t3 M2 _ (bent_body B s1 s2 hb) (F1.trans F2)
  · simp! only [wO_some]
    rw [← sxs]
    exact t3 M1 _ ⟨B.nm, B.pok, B.bok, B.blen, Nat.le_trans B.cnt (by decide)⟩ F1
theorem sum_mid {a b : List (Str × List St)} {x : Str × List St} : ((a ++ x :: b).map fun p => lstCnt p.2).sum = (a.map fun p => lstCnt p.2).sum + lstCnt x.2 + (b.map fun p => lstCnt p.2).sum := by
  rw [List.map_append, List.map_cons, List.sum_append, List.sum_cons]
  omega
theorem turn1 (H : DrP vs prs body) {sc : D} {o3 o4 o5 o6 o7 o8 o9 : Option D} {M : Hm} {p : Po} (ht : Tape M t)
    (hp : ∀ (M' : Hm) (o4 o5 o6 o7 o8 o9 : Option D), Fr t M M' → p.N (lawσ sc t (partsD vs prs body) o3 o4 o5 o6 o7 o8 o9) M') :
    SXs prg (rt prg 59) [] b_law_5 (lawσ sc t (partsD vs prs body) o3 o4 o5 o6 o7 o8 o9) M p := by
  rw [sxs]
  have B0 := bent_dr H
  have bl := H.blen
  have hpok : ∀ y ∈ prs.map (fun p => D.tup [.str p.1, .tup (p.2.map St.d)]), PyOk 60 y := by
    intro y hy
    obtain ⟨q, hq, rfl⟩ := List.mem_map.mp hy
    have hn : q.1 ∈ okN := by
      obtain ⟨k, hk⟩ := H.pnm
      have : q.1 ∈ prs.map (·.1) := List.mem_map.mpr ⟨q, hq, rfl⟩
      rw [hk] at this
      exact (by decide +kernel : ∀ x ∈ (["p", "q"] : List Str), x ∈ okN) _ (List.mem_of_mem_take this)
    refine pyOk_tup2 (k := 59) (pyOk_c2 (pyOk_str (okN_str _ hn)) ?_) (by decide)
    rw [← ofL_ds]
    exact (pyOk_blk (pyOk_st 1) (ofL_ok (pfit_ok H.pfit q hq).1)).mono (by decide)
  have hne : ∀ M, opCmp .ne (.tup (prs.map fun p => D.tup [.str p.1, .tup (p.2.map St.d)])) (.tup []) M = some (!decide (prs = [])) := by
    intro M
    cases hpr : prs with
    | nil => rfl
    | cons q r =>
      rw [hpr] at hpok
      have e : ∀ A B : D, opCmp .ne A B M = (opCmp .eq A B M).map fun b => !b := fun A B => rfl
      rw [e, eq_nil_tup hpok (by simp)]
      rfl
  have t2 : ∀ (M2 : Hm) (o6 : Option D) (prs2 : List (Str × List St)) (b2 : List St) (B2 : Bent 58 prs prs2 b2) (hl : b2.length ≤ 5) (F : Fr t M M2), SXs prg (rt prg 59) [] (b_law_5.drop 2) (lawσ sc t (partsD vs prs body) o3 (some (prsDL prs2)) (some (.tup (b2.map St.d))) o6 o7 o8 o9) M2 p := by
    intro M2 o6 prs2 b2 B2 hl F
    refine turn2 H B2 hl F.tape ?_
    intro M' o4 o5 o6 o7 o8 o9 F2
    exact hp M' _ _ _ _ _ _ (F.trans F2)
  rw [law5_0]
  generalize b_law_5.drop 2 = B2' at t2 ⊢
  have other : ∀ (M1 : Hm) (o6 : Option D), Fr t M M1 → wXs prg (rt prg 59) [] b_law_4 (lawσ sc t (partsD vs prs body) o3 (some (prsDL prs)) (some (.tup (body.map St.d))) o6 o7 o8 o9) M1 (poSeq prg (rt prg 59) [] B2' p) := by
    intro M1 o6 F1
    simp! only [b_law_4]
    refine bent_wp (n := 56) (by omega) F1.tape fun k s M2 s1 s2 F2 => ?_
    simp! only [wO_some]
    rw [← sxs]
    exact t2 M2 _ prs _ (bent_body B0 s1 s2 (by omega)) (by rw [putAt_len]; omega) (F1.trans F2)
  simp! only [prsDL] at other
  simp! only [prsDL, hne]
  refine wifn (fun hne => ?_) (fun _ => other M o6 (Fr.refl ht))
  refine next_wp ht (by decide) (by decide) fun k M1 k0 k1 F1 => ?_
  simp! only [wO_some]
  refine wif (fun h0 => ?_) (fun _ => other M1 o6 F1)
  simp! only [b_law_3, List.length_map]
  have pl2 : prs.length ≤ 2 := by
    obtain ⟨k, hk⟩ := H.pnm
    have := congrArg List.length hk
    rw [List.length_map, List.length_take] at this
    simp at this
    omega
  refine next_wp F1.tape (len_pos hne) (by omega) fun k M2 k0 k1 F2 => ?_
  obtain ⟨j, rfl⟩ : ∃ j : Nat, k = (j : Int) := ⟨k.toNat, by omega⟩
  have hj : j < prs.length := by omega
  have hx : L2.atI (prs.map fun p => D.tup [.str p.1, .tup (p.2.map St.d)]) ((j : Nat) : Int) = some (.tup [.str prs[j].1, .tup (prs[j].2.map St.d)]) := L2.atI_nat (by rw [List.getElem?_map, List.getElem?_eq_getElem hj]; rfl)
  have hpj := pfit_ok H.pfit prs[j] (List.getElem_mem hj)
  have hcut : ∀ xs : List D, cutD xs (some (((j : Nat) : Int) + 1)) none = xs.drop (j + 1) := fun xs => cut_from (k := j + 1)
  simp! only [cut_to, hx]
  refine bent_wp (n := 56) (by omega) F2.tape fun k s M3 s1 s2 F3 => ?_
  simp! only [hcut]
  have esp : prs = prs.take j ++ prs[j] :: prs.drop (j + 1) := by
    rw [← List.drop_eq_getElem_cons hj, List.take_append_drop]
  have B2 : Bent 58 prs (prs.take j ++ (prs[j].1, putAt prs[j].2 k s) :: prs.drop (j + 1)) body := by
    refine ⟨?_, ?_, B0.bok, B0.blen, ?_⟩
    · conv => rhs; rw [esp]
      rw [List.map_append, List.map_append, List.map_cons, List.map_cons]
    · intro q hq
      rcases List.mem_append.mp hq with hq | hq
      · exact B0.pok q (List.mem_of_mem_take hq)
      · rcases List.mem_cons.mp hq with rfl | hq
        · refine ⟨fun x hx => ?_, by show (putAt prs[j].2 k s).length ≤ 3; rw [putAt_len]; omega⟩
          rcases putAt_mem hx with h | rfl
          · exact hpj.1 x h
          · exact s1
        · exact B0.pok q (List.mem_of_mem_drop hq)
    · have h1 := B0.cnt
      rw [esp, sum_mid] at h1
      rw [sum_mid]
      show _ + lstCnt (putAt prs[j].2 k s) + _ + _ ≤ 58
      rw [putAt_cnt]
      omega
  have := t2 M3 (some (.int ((j : Nat) : Int))) _ body B2 (by omega) ((F1.trans F2).trans F3)
  have ep : prsDL (prs.take j ++ (prs[j].1, putAt prs[j].2 k s) :: prs.drop (j + 1)) = .tup ((prs.map fun p => D.tup [.str p.1, .tup (p.2.map St.d)]).take j ++ [.tup [.str prs[j].1, .tup ((putAt prs[j].2 k s).map St.d)]] ++ (prs.map fun p => D.tup [.str p.1, .tup (p.2.map St.d)]).drop (j + 1)) := by
    unfold prsDL
    rw [List.map_append, List.map_cons, List.map_take, List.map_drop, List.append_assoc]
    rfl
  rw [ep] at this
  have l1 : ((prs.map fun p => D.tup [.str p.1, .tup (p.2.map St.d)]).take j).length ≤ 10 := by rw [List.length_take, List.length_map]; omega
  have l2 : ((prs.map fun p => D.tup [.str p.1, .tup (p.2.map St.d)]).drop (j + 1)).length ≤ 10 := by rw [List.length_drop, List.length_map]; omega
  refine ⟨by omega, by simp only [List.length_append, List.length_cons, List.length_nil]; omega, ?_⟩
  rw [← sxs]
  exact this
@[irreducible] def SFor (P : Prg) (R : Rt) (κ : List (Nat × CloD)) (g : MT) (b : MSs) (ds : List D) (σ : Env) (M : Hm) (p : Po) : Prop := wFor P R κ g b ds σ M p
theorem sfor {P : Prg} {R : Rt} {κ : List (Nat × CloD)} {g : MT} {b : MSs} {ds : List D} {σ : Env} {M : Hm} {p : Po} : SFor P R κ g b ds σ M p = wFor P R κ g b ds σ M p := by unfold SFor; exact Eq.refl _
theorem law_loop (H : DrP vs prs body) {sc : D} {p : Po} : ∀ (ds : List D) (M : Hm) (o3 o4 o5 o6 o7 o8 o9 : Option D), Tape M t → (∀ (M' : Hm) (o3 o4 o5 o6 o7 o8 o9 : Option D), Tape M' t → p.N (lawσ sc t (partsD vs prs body) o3 o4 o5 o6 o7 o8 o9) M') →
    SFor prg (rt prg 59) [] (.nm 3) b_law_5 ds (lawσ sc t (partsD vs prs body) o3 o4 o5 o6 o7 o8 o9) M p
  | [], M, o3, o4, o5, o6, o7, o8, o9, ht, hp => by
    rw [sfor, wFor_nil]
    exact hp M _ _ _ _ _ _ _ ht
  | d :: ds, M, o3, o4, o5, o6, o7, o8, o9, ht, hp => by
    rw [sfor, wFor_cons, wG_nm, free_nil, if_pos rfl]
    have e : ∀ σ, kForB prg (rt prg 59) [] (.nm 3) b_law_5 ds p σ M = SXs prg (rt prg 59) [] b_law_5 σ M (poFor prg (rt prg 59) [] (.nm 3) b_law_5 ds p) := fun σ => by rw [sxs, e_kForB]
    rw [e]
    refine turn1 H (o3 := some d) ht fun M' o4 o5 o6 o7 o8 o9 F => ?_
    rw [po_forN, ← sfor]
    exact law_loop H ds M' _ _ _ _ _ _ _ F.tape hp
theorem law_wp (ns : List Int) : ∃ M', (execs prg (rt prg 59) [] b_law [some (.flst (ns.map D.int)), none, none, none, none, none, none, none, none, none, none, none, none] []).res = .ok (.bl true) M' := by
  have : wp (execs prg (rt prg 59) [] b_law [some (.flst (ns.map D.int)), none, none, none, none, none, none, none, none, none, none, none, none] []).res (fun d _ => d = .bl true) nE := by
    rw [wX_top]
    simp! only [b_law]
    have ht : Tape [.lst [.lst (ns.map D.int), .int 0, .int 0, .int 5]] 0 := ⟨ns, 0, 0, 5, rfl, by decide, by decide⟩
    refine program_wp (n := 59) (by decide) ht fun vs prs body M1 H F1 => ?_
    have HM := made_bent H (bent_dr H) (by decide)
    have hl : (toS prs).length ≤ 900 := by have := HM.plen; omega
    have hn : ∀ m, 15 ≤ m → ∀ x ∈ bodL (toS prs) (Sts.ofL body), x.2.need ≤ m := fun m hm x hx => Nat.le_trans (made_need HM x hx) hm
    simp! only [prsDL_eq prs, ← ofL_ds body]
    rw [← swp]
    refine make_wp (m := 44) HM fun X hX => ?_
    obtain ⟨bs', hf⟩ := program_fault_eq hX (m := 58) (by decide) (by decide) hl (hn 58 (by decide))
    simp! only [hf, dr_fit H, optD]
    rw [← prsDL_eq, ofL_ds, ← sfor]
    refine law_loop H (rngD 0 4) _ _ _ _ _ _ _ _ ?_ ?_
    · rw [List.append_assoc]
      exact F1.tape.app
    intro M2 o3 o4 o5 o6 o7 o8 o9 ht2
    simp! only [prsDL_eq prs, ← ofL_ds body]
    rw [← swp]
    refine make_wp (m := 44) HM fun Y hY => ?_
    simp! only [wO_some]
    refine ⟨by rw [List.length_map]; have := HM.vlen; omega, ?_⟩
    refine wLc_map (v := fun r : Va => .tup [.str r.x, .str r.k.s]) (fun r _ Q hq => by simp only [wLc_cons]; simp! only [Va.d]; exact hq) ?_
    simp! only [prs_map, kinds_eq HM.vnd]
    refine odd_wp (n := 57) ht2.app fun e M3 he F3 => ?_
    have hlt := ht2.lt
    have hp : M2.length < (M2 ++ Y).length := (List.getElem?_eq_some_iff.mp hY.ins).1
    have hZ : PrgAt M3 M2.length "prog" vs (prsD (toS prs)) (.tup (Sts.ofL body).ds) := ⟨by rw [F3.old _ hp (by omega)]; exact hY.ins⟩
    simp! only [mapM_118, List.map_cons, List.map_nil, List.length_cons, List.length_nil]
    have hd := he.1
    refine asked_type (m := 57) hZ (by omega) (by omega) ?_
    simp! only [wO_some]
    refine ltype_wp (vs := vs) e [] (by omega) (by simp; omega) fun Z => ?_
    have pl : Pl 2 (tyL' (ty vs e [])) := by
      cases hty : ty vs e [] with
      | ok k =>
        refine .tup _ (Nat.le_of_ble_eq_true rfl) fun x hx => ?_
        simp only [List.mem_cons, List.not_mem_nil, or_false] at hx
        rcases hx with rfl | rfl <;> exact .str _
      | error z =>
        have := ty_len e _ _ hty
        refine .tup _ (Nat.le_of_ble_eq_true rfl) fun x hx => ?_
        simp only [List.mem_cons, List.not_mem_nil, or_false] at hx
        rcases hx with rfl | rfl
        · exact .str _
        · exact pl_path (by simp at this; omega)
    simp! only [same_eq 2 59 _ (M3 ++ Z) pl (by decide)]
  obtain ⟨d, M', e, rfl⟩ : ∃ d M', (execs prg (rt prg 59) [] b_law [some (.flst (ns.map D.int)), none, none, none, none, none, none, none, none, none, none, none, none] []).res = .ok d M' ∧ d = .bl true := by
    generalize (execs prg (rt prg 59) [] b_law [some (.flst (ns.map D.int)), none, none, none, none, none, none, none, none, none, none, none, none] []).res = r at this ⊢
    cases r with
    | ok d M' => exact ⟨d, M', rfl, this⟩
    | exc c v M' => exact False.elim this
    | bad => exact False.elim this
  exact ⟨M', e⟩
end
end
end Mi.K05
section
set_option maxHeartbeats 0
namespace Mi.K05
open PySem L2
def gt : GTab := ⟨[(("is_count" : Str), 0), (("is_word" : Str), 1), (("is_byte" : Str), 2), (("are_bytes" : Str), 3), (("is_name" : Str), 4), (("is_expression" : Str), 5), (("is_expression_head" : Str), 6), (("expression_parts" : Str), 7), (("is_statement" : Str), 8), (("is_block" : Str), 9), (("is_variable" : Str), 10), (("is_procedure" : Str), 11), (("blocks_of" : Str), 12), (("statement_count" : Str), 13), (("check_program_rows" : Str), 14), (("variable_of" : Str), 15), (("bodies_of" : Str), 16), (("type_of" : Str), 17), (("type_at" : Str), 18), (("type_made" : Str), 19), (("statement_fault" : Str), 20), (("parts_fault" : Str), 21), (("body_fault" : Str), 22), (("program_fault" : Str), 23), (("check_program" : Str), 24), (("_law_next" : Str), 25), (("_law_same" : Str), 26), (("_law_word" : Str), 27), (("_law_bit" : Str), 28), (("_law_block" : Str), 29), (("_law_program" : Str), 30), (("_law_many" : Str), 31), (("_law_asked" : Str), 32), (("_law_type" : Str), 33), (("_law_wrong" : Str), 34), (("_law_fault" : Str), 35), (("_law_first" : Str), 36), (("_law_odd" : Str), 37), (("_law_bent" : Str), 38), (("law" : Str), 39)], [(("Program" : Str), 0)], [(("GateError" : Str), 0), (("InvalidProgram" : Str), 1)], [(("InvalidProgram" : Str), 1)], [[], ["row"]]⟩
abbrev top (i : Nat) : Stmt := PySem.Challenge.pw_downtogates_k05_whole_types_of_programs.main.body.getD i (.Pass ⟨0, 0, 0, 0⟩)
def clsBody : Stmt → List Stmt
  | .ClassDef _ _ _ b _ _ _ _ _ _ _ => b
  | _ => []
abbrev s0 : Stmt := top 5
def d0 : He.DefD := ⟨("is_count", none), "is_count", "is_count", defArgs s0, defBody s0, defScope s0, [], []⟩
abbrev s1 : Stmt := top 6
def d1 : He.DefD := ⟨("is_word", none), "is_word", "is_word", defArgs s1, defBody s1, defScope s1, [], []⟩
abbrev s2 : Stmt := top 7
def d2 : He.DefD := ⟨("is_byte", none), "is_byte", "is_byte", defArgs s2, defBody s2, defScope s2, [], []⟩
abbrev s3 : Stmt := top 8
def d3 : He.DefD := ⟨("are_bytes", none), "are_bytes", "are_bytes", defArgs s3, defBody s3, defScope s3, [], []⟩
abbrev s4 : Stmt := top 21
def d4 : He.DefD := ⟨("is_name", none), "is_name", "is_name", defArgs s4, defBody s4, defScope s4, [], []⟩
abbrev s5 : Stmt := top 22
def d5 : He.DefD := ⟨("is_expression", none), "is_expression", "is_expression", defArgs s5, defBody s5, defScope s5, [], []⟩
abbrev s6 : Stmt := top 23
def d6 : He.DefD := ⟨("is_expression_head", none), "is_expression_head", "is_expression_head", defArgs s6, defBody s6, defScope s6, [], []⟩
abbrev s7 : Stmt := top 24
def d7 : He.DefD := ⟨("expression_parts", none), "expression_parts", "expression_parts", defArgs s7, defBody s7, defScope s7, [], []⟩
abbrev s8 : Stmt := top 25
def d8 : He.DefD := ⟨("is_statement", none), "is_statement", "is_statement", defArgs s8, defBody s8, defScope s8, [.int 1], []⟩
abbrev s9 : Stmt := top 26
def d9 : He.DefD := ⟨("is_block", none), "is_block", "is_block", defArgs s9, defBody s9, defScope s9, [.int 1], []⟩
abbrev s10 : Stmt := top 27
def d10 : He.DefD := ⟨("is_variable", none), "is_variable", "is_variable", defArgs s10, defBody s10, defScope s10, [], []⟩
abbrev s11 : Stmt := top 28
def d11 : He.DefD := ⟨("is_procedure", none), "is_procedure", "is_procedure", defArgs s11, defBody s11, defScope s11, [], []⟩
abbrev s12 : Stmt := top 29
def d12 : He.DefD := ⟨("blocks_of", none), "blocks_of", "blocks_of", defArgs s12, defBody s12, defScope s12, [], []⟩
abbrev s13 : Stmt := top 30
def d13 : He.DefD := ⟨("statement_count", none), "statement_count", "statement_count", defArgs s13, defBody s13, defScope s13, [], []⟩
abbrev s14 : Stmt := top 32
def d14 : He.DefD := ⟨("check_program_rows", none), "check_program_rows", "check_program_rows", defArgs s14, defBody s14, defScope s14, [], []⟩
abbrev s15 : Stmt := top 33
def d15 : He.DefD := ⟨("variable_of", none), "variable_of", "variable_of", defArgs s15, defBody s15, defScope s15, [], []⟩
abbrev s16 : Stmt := top 34
def d16 : He.DefD := ⟨("bodies_of", none), "bodies_of", "bodies_of", defArgs s16, defBody s16, defScope s16, [], []⟩
abbrev s17 : Stmt := top 36
def d17 : He.DefD := ⟨("type_of", none), "type_of", "type_of", defArgs s17, defBody s17, defScope s17, [], []⟩
abbrev s18 : Stmt := top 37
def d18 : He.DefD := ⟨("type_at", none), "type_at", "type_at", defArgs s18, defBody s18, defScope s18, [], []⟩
abbrev s19 : Stmt := top 38
def d19 : He.DefD := ⟨("type_made", none), "type_made", "type_made", defArgs s19, defBody s19, defScope s19, [], []⟩
abbrev s20 : Stmt := top 39
def d20 : He.DefD := ⟨("statement_fault", none), "statement_fault", "statement_fault", defArgs s20, defBody s20, defScope s20, [], []⟩
abbrev s21 : Stmt := top 40
def d21 : He.DefD := ⟨("parts_fault", none), "parts_fault", "parts_fault", defArgs s21, defBody s21, defScope s21, [], []⟩
abbrev s22 : Stmt := top 41
def d22 : He.DefD := ⟨("body_fault", none), "body_fault", "body_fault", defArgs s22, defBody s22, defScope s22, [], []⟩
abbrev s23 : Stmt := top 42
def d23 : He.DefD := ⟨("program_fault", none), "program_fault", "program_fault", defArgs s23, defBody s23, defScope s23, [], []⟩
abbrev s24 : Stmt := top 43
def d24 : He.DefD := ⟨("check_program", none), "check_program", "check_program", defArgs s24, defBody s24, defScope s24, [], []⟩
abbrev s25 : Stmt := top 45
def d25 : He.DefD := ⟨("_law_next", none), "_law_next", "_law_next", defArgs s25, defBody s25, defScope s25, [], []⟩
abbrev s26 : Stmt := top 46
def d26 : He.DefD := ⟨("_law_same", none), "_law_same", "_law_same", defArgs s26, defBody s26, defScope s26, [], []⟩
abbrev s27 : Stmt := top 47
def d27 : He.DefD := ⟨("_law_word", none), "_law_word", "_law_word", defArgs s27, defBody s27, defScope s27, [], []⟩
abbrev s28 : Stmt := top 48
def d28 : He.DefD := ⟨("_law_bit", none), "_law_bit", "_law_bit", defArgs s28, defBody s28, defScope s28, [], []⟩
abbrev s29 : Stmt := top 49
def d29 : He.DefD := ⟨("_law_block", none), "_law_block", "_law_block", defArgs s29, defBody s29, defScope s29, [], []⟩
abbrev s30 : Stmt := top 50
def d30 : He.DefD := ⟨("_law_program", none), "_law_program", "_law_program", defArgs s30, defBody s30, defScope s30, [], []⟩
abbrev s31 : Stmt := top 51
def d31 : He.DefD := ⟨("_law_many", none), "_law_many", "_law_many", defArgs s31, defBody s31, defScope s31, [], []⟩
abbrev s32 : Stmt := top 52
def d32 : He.DefD := ⟨("_law_asked", none), "_law_asked", "_law_asked", defArgs s32, defBody s32, defScope s32, [], []⟩
abbrev s33 : Stmt := top 53
def d33 : He.DefD := ⟨("_law_type", none), "_law_type", "_law_type", defArgs s33, defBody s33, defScope s33, [], []⟩
abbrev s34 : Stmt := top 54
def d34 : He.DefD := ⟨("_law_wrong", none), "_law_wrong", "_law_wrong", defArgs s34, defBody s34, defScope s34, [], []⟩
abbrev s35 : Stmt := top 55
def d35 : He.DefD := ⟨("_law_fault", none), "_law_fault", "_law_fault", defArgs s35, defBody s35, defScope s35, [], []⟩
abbrev s36 : Stmt := top 56
def d36 : He.DefD := ⟨("_law_first", none), "_law_first", "_law_first", defArgs s36, defBody s36, defScope s36, [], []⟩
abbrev s37 : Stmt := top 57
def d37 : He.DefD := ⟨("_law_odd", none), "_law_odd", "_law_odd", defArgs s37, defBody s37, defScope s37, [], []⟩
abbrev s38 : Stmt := top 58
def d38 : He.DefD := ⟨("_law_bent", none), "_law_bent", "_law_bent", defArgs s38, defBody s38, defScope s38, [], []⟩
abbrev s39 : Stmt := top 59
def d39 : He.DefD := ⟨("law", none), "law", "law", defArgs s39, defBody s39, defScope s39, [], []⟩
abbrev s40 : Stmt := (clsBody (top 31)).getD 0 (.Pass ⟨0, 0, 0, 0⟩)
def d40 : He.DefD := ⟨("Program", some "__init__"), "__init__", "Program.__init__", defArgs s40, defBody s40, defScope s40, [], []⟩
abbrev s41 : Stmt := (clsBody (top 31)).getD 2 (.Pass ⟨0, 0, 0, 0⟩)
def d41 : He.DefD := ⟨("Program", some "parts"), "parts", "Program.parts", defArgs s41, defBody s41, defScope s41, [], []⟩
def fn : List He.DefD := [d0, d1, d2, d3, d4, d5, d6, d7, d8, d9, d10, d11, d12, d13, d14, d15, d16, d17, d18, d19, d20, d21, d22, d23, d24, d25, d26, d27, d28, d29, d30, d31, d32, d33, d34, d35, d36, d37, d38, d39, d40, d41]
def supOf (qual : Str) (st : Stmt) : FnS := some (("__init__" : Str), qual, defArgs st, .stmts (defBody st), defScope st, mainGlobals, [("__class__" : Str)], Value.none, Value.none, builtinsNs)
def x_InvalidProgram : ExT := ⟨"InvalidProgram", "GateError", "InvalidProgram", supOf "InvalidProgram.__init__" ((clsBody (top 2)).getD 0 (.Pass ⟨0, 0, 0, 0⟩)), supOf "GateError.__init__" ((clsBody (top 1)).getD 0 (.Pass ⟨0, 0, 0, 0⟩))⟩
def lk : Lk := ⟨gt, prg, fn, ["Program"], [(("GateError" : Str), ("GateError" : Str)), (("InvalidProgram" : Str), ("InvalidProgram" : Str))], [x_InvalidProgram], [((("law", none) : Str × Option Str), ("law" : Str)), ((("Program", some "__init__") : Str × Option Str), ("Program.__init__" : Str))], PySem.Challenge.pw_downtogates_k05_whole_types_of_programs.main.file⟩
/-- is_count -/
theorem t0 : dstB lk d0 f_is_count = true := by decide +kernel
/-- is_word -/
theorem t1 : dstB lk d1 f_is_word = true := by decide +kernel
/-- is_byte -/
theorem t2 : dstB lk d2 f_is_byte = true := by decide +kernel
/-- are_bytes -/
theorem t3 : dstB lk d3 f_are_bytes = true := by decide +kernel
/-- is_name -/
theorem t4 : dstB lk d4 f_is_name = true := by decide +kernel
/-- is_expression -/
theorem t5 : dstB lk d5 f_is_expression = true := by decide +kernel
/-- is_expression_head -/
theorem t6 : dstB lk d6 f_is_expression_head = true := by decide +kernel
/-- expression_parts -/
theorem t7 : dstB lk d7 f_expression_parts = true := by decide +kernel
/-- is_statement -/
theorem t8 : dstB lk d8 f_is_statement = true := by decide +kernel
/-- is_block -/
theorem t9 : dstB lk d9 f_is_block = true := by decide +kernel
/-- is_variable -/
theorem t10 : dstB lk d10 f_is_variable = true := by decide +kernel
/-- is_procedure -/
theorem t11 : dstB lk d11 f_is_procedure = true := by decide +kernel
/-- blocks_of -/
theorem t12 : dstB lk d12 f_blocks_of = true := by decide +kernel
/-- statement_count -/
theorem t13 : dstB lk d13 f_statement_count = true := by decide +kernel
/-- check_program_rows -/
theorem t14 : dstB lk d14 f_check_program_rows = true := by decide +kernel
/-- variable_of -/
theorem t15 : dstB lk d15 f_variable_of = true := by decide +kernel
/-- bodies_of -/
theorem t16 : dstB lk d16 f_bodies_of = true := by decide +kernel
/-- type_of -/
theorem t17 : dstB lk d17 f_type_of = true := by decide +kernel
/-- type_at -/
theorem t18 : dstB lk d18 f_type_at = true := by decide +kernel
/-- type_made -/
theorem t19 : dstB lk d19 f_type_made = true := by decide +kernel
/-- statement_fault -/
theorem t20 : dstB lk d20 f_statement_fault = true := by decide +kernel
/-- parts_fault -/
theorem t21 : dstB lk d21 f_parts_fault = true := by decide +kernel
/-- body_fault -/
theorem t22 : dstB lk d22 f_body_fault = true := by decide +kernel
/-- program_fault -/
theorem t23 : dstB lk d23 f_program_fault = true := by decide +kernel
/-- check_program -/
theorem t24 : dstB lk d24 f_check_program = true := by decide +kernel
/-- _law_next -/
theorem t25 : dstB lk d25 f__law_next = true := by decide +kernel
/-- _law_same -/
theorem t26 : dstB lk d26 f__law_same = true := by decide +kernel
/-- _law_word -/
theorem t27 : dstB lk d27 f__law_word = true := by decide +kernel
/-- _law_bit -/
theorem t28 : dstB lk d28 f__law_bit = true := by decide +kernel
/-- _law_block -/
theorem t29 : dstB lk d29 f__law_block = true := by decide +kernel
/-- _law_program -/
theorem t30 : dstB lk d30 f__law_program = true := by decide +kernel
/-- _law_many -/
theorem t31 : dstB lk d31 f__law_many = true := by decide +kernel
/-- _law_asked -/
theorem t32 : dstB lk d32 f__law_asked = true := by decide +kernel
/-- _law_type -/
theorem t33 : dstB lk d33 f__law_type = true := by decide +kernel
/-- _law_wrong -/
theorem t34 : dstB lk d34 f__law_wrong = true := by decide +kernel
/-- _law_fault -/
theorem t35 : dstB lk d35 f__law_fault = true := by decide +kernel
/-- _law_first -/
theorem t36 : dstB lk d36 f__law_first = true := by decide +kernel
/-- _law_odd -/
theorem t37 : dstB lk d37 f__law_odd = true := by decide +kernel
/-- _law_bent -/
theorem t38 : dstB lk d38 f__law_bent = true := by decide +kernel
/-- law -/
theorem t39 : dstB lk d39 f_law = true := by decide +kernel
/-- Program.__init__ -/
theorem t40 : dstB lk d40 f_Program___init__ = true := by decide +kernel
/-- Program.parts -/
theorem t41 : dstB lk d41 f_Program_parts = true := by decide +kernel
theorem dsts : DstsOk lk fn fns := .cons t0 (.cons t1 (.cons t2 (.cons t3 (.cons t4 (.cons t5 (.cons t6 (.cons t7 (.cons t8 (.cons t9 (.cons t10 (.cons t11 (.cons t12 (.cons t13 (.cons t14 (.cons t15 (.cons t16 (.cons t17 (.cons t18 (.cons t19 (.cons t20 (.cons t21 (.cons t22 (.cons t23 (.cons t24 (.cons t25 (.cons t26 (.cons t27 (.cons t28 (.cons t29 (.cons t30 (.cons t31 (.cons t32 (.cons t33 (.cons t34 (.cons t35 (.cons t36 (.cons t37 (.cons t38 (.cons t39 (.cons t40 (.cons t41 .nil)))))))))))))))))))))))))))))))))))))))))
theorem xo_InvalidProgram : x_InvalidProgram.Ok PySem.Challenge.pw_downtogates_k05_whole_types_of_programs := ⟨⟨_, _, _, _, _, _, _, _, _, _, _, _, _, _, _, _, _, _, _, _, _, _, _, _, _, _, _, _, _, _, _, _, _, _, _, rfl, by decide, rfl, by decide, ⟨rfl, rfl, rfl, by decide +kernel, by decide +kernel, by decide +kernel, by decide +kernel, by decide +kernel⟩, ⟨rfl, rfl, rfl, by decide +kernel, by decide +kernel, by decide +kernel, by decide +kernel, by decide +kernel⟩⟩, by decide +kernel⟩
theorem xos : ∀ t ∈ lk.xs, t.Ok PySem.Challenge.pw_downtogates_k05_whole_types_of_programs := fun t ht => by
  simp only [lk, List.mem_cons, List.not_mem_nil, or_false] at ht
  rcases ht with rfl
  · exact xo_InvalidProgram
def names : List Str := (["GateError", "InvalidProgram", "BYTE", "is_count", "is_word", "is_byte", "are_bytes", "SUMS", "TESTS", "BOTHS", "KEPT", "MOST_VARS", "MOST_ROWS", "MOST_PROCS", "MOST_BLOCK", "MOST_STATEMENTS", "MOST_NESTED", "MOST_PARTS", "is_name", "is_expression", "is_expression_head", "expression_parts", "is_statement", "is_block", "is_variable", "is_procedure", "blocks_of", "statement_count", "Program", "check_program_rows"] : List Str) ++ (["variable_of", "bodies_of", "type_of", "type_at", "type_made", "statement_fault", "parts_fault", "body_fault", "program_fault", "check_program", "_law_next", "_law_same", "_law_word", "_law_bit", "_law_block", "_law_program", "_law_many", "_law_asked", "_law_type", "_law_wrong", "_law_fault", "_law_first", "_law_odd", "_law_bent"] : List Str)
abbrev R : PySem.W.OpenRow := PySem.W.OpenLaw.row PySem.Challenge.rw_downtogates_k05_whole_types_of_programs
abbrev hk : PySem.W.Hook := hookM 6 lk
def ob (s : PySem.W.SharedT) : AlM := obsM 6 lk (HandSHeadRun.getT s)
theorem ob_eq (s : PySem.W.SharedT) : ob s = hk.obs s.abs := obsM_eq (HandSHeadRun.getT_eq s)
theorem run (w : World) : HandSHeadRun.RunEq R (PySem.W.view R.prog [59]) hk ob 3000 names w := by
  intro os
  kernel_rfl
end Mi.K05

end
section
set_option maxHeartbeats 0
namespace Mi.K05
open PySem L2
theorem math : ∀ ns : List Int, ns.length ≤ 63 → (∀ z ∈ ns, Builtin.Int.intBits z ≤ 1048576) → ∃ M', callM lk.P 60 f_law (scr ns) [] [] = .ok (.bl true) M' := by
  intro ns _ _
  obtain ⟨M', h⟩ := law_wp ns
  have e : callM lk.P 60 f_law (scr ns) [] [] = (execs prg (rt prg 59) [] b_law [some (.flst (ns.map D.int)), none, none, none, none, none, none, none, none, none, none, none, none] []).res := by kernel_rfl
  exact ⟨M', e.trans h⟩
theorem facts {w : World} {K : PySem.W.Frag} {mg : Str → Option Value} {fa : Addr} {h : Heap} (X : K.In h) (N : h.Ns mainGlobals mg) (S : SaysM lk K h) (hmg : mg ("law" : Str) = some (.ref fa)) :
    LamX.LawAtS PySem.Challenge.rw_downtogates_k05_whole_types_of_programs w K (CX PySem.Challenge.rw_downtogates_k05_whole_types_of_programs.prog w) 60 63 "script" mg fa h :=
  law_at (k := lk) (g := 39) (d := d39) (f := f_law) (nm := "law") X N S rfl dsts xos (by decide +kernel) rfl rfl (by decide +kernel) hmg rfl rfl rfl rfl math
end Mi.K05
open PySem PySem.W PySem.Calls PyProof.Rows
theorem PySem.Challenge.cw_downtogates_k05_whole_types_of_programs_holds : PySem.Challenge.rw_downtogates_k05_whole_types_of_programs.Holds := by
  w_on; o_law
  refine HandSHeadRun.head_any (r := OpenLaw.row PySem.Challenge.rw_downtogates_k05_whole_types_of_programs) (q := view (OpenLaw.row PySem.Challenge.rw_downtogates_k05_whole_types_of_programs).prog [59]) (H := Mi.K05.hk) (ob := Mi.K05.ob) (M := 3000) (loose := Mi.K05.names) (d := HandSHeadRun.topDef (OpenLaw.row PySem.Challenge.rw_downtogates_k05_whole_types_of_programs).prog 59) (kwd := []) Mi.K05.ob_eq
    (by kernel_rfl) (fun s => by kernel_rfl) Mi.K05.run (by kernel_rfl) (by kernel_rfl) (by kernel_rfl) (by rfl) (by first | assumption | decide +kernel) (by decide +kernel) ⟨rfl, rfl, rfl, rfl, rfl, by decide +kernel⟩ ?hw ?hc
  case hw => w_witness2
  case hc =>
    refine LamX.walk_ofTsE (l := PySem.Challenge.rw_downtogates_k05_whole_types_of_programs) (n := 63) (k := 60) (x := "script") (CX := fun w => L2.CX PySem.Challenge.rw_downtogates_k05_whole_types_of_programs.prog w) rfl (by decide) (by kernel_rfl) ⟨rfl, by decide, by decide⟩ ?F ?X
    case F =>
      intro w mg fa h Y G hmg0
      obtain ⟨K, KX, c⟩ := Y
      have hmg : mg ("law" : PySem.Str) = some (.ref fa) := by
        have e : (HandSHeadRun.topDef (OpenLaw.row PySem.Challenge.rw_downtogates_k05_whole_types_of_programs).prog 59).name = ("law" : PySem.Str) := by kernel_rfl
        rw [← e]
        exact hmg0
      exact ⟨K, KX, Mi.K05.facts KX G c hmg⟩
    case X =>
      intro w H s e s' z
      obtain ⟨_, _, _, _, _, _, _, _, _, _, _, _, hz⟩ := z
      exact hz

end
