import PyProof.Rows.All
import Wide.All
import OpenK.AllK
import Wide.FinOn
import HandS.ForMost
import HandS.Exc
import HandS.Defaults
import HandS.Lambda
import HandS.TupAny
import HandS.TupMul
import HandS.TupLen
import KE.GoesMore
import KE.GoesEnum
import KE.GoesZip
import HandS.Zip
import HandS.Walk
import HandS.ExcInit
import HandS.Small
import HandS.ExcIs
import HandS.ExcOwn
import HandS.ForExc
import HandS.IsInst
import HandS.Style
import KE.KExcIs
import PyProof.InstEq
import HandS.Words
import HandS.EndTab
import HandS.HeadHook4
import PySem.Challenge.RW_lampnets_k74_whole_texts
import KE.KStateDown
import Lean
import HandS.Head0
import HandS.Head1
import HandS.Head2
import HandS.HeadEnd
import HandS.HeadHook1
import HandS.HeadHook2
import HandS.HeadHook3
set_option Elab.async false
set_option linter.all false
set_option maxRecDepth 100000
/-! Own work: data, an intermediate form of the program's Python, its evaluator. -/
namespace Ev
open PySem PySem.Spec

/-- pure data -/
inductive D where
  | non | bl (b : Bool) | int (i : Int) | str (x : Str)
  | tup (xs : List D) | lst (xs : List D) | dct (ks vs : List D)
  | ins (c : Nat) (vs : List D)
  | fn (f : Nat) | cls (c : Nat) | ty (n : String)
  | scr (ns : List Int)
  deriving Inhabited

/-- what a slot holds: data, a thing of the heap, the thunk, a caught error -/
inductive W where
  | d (d : D) | r (j : Nat) | th | ex (c : Nat) (vs : List D)

/-- a thing that may change -/
inductive MO where
  | lst (xs : List D) | lk (xs : List D) | dct (ks vs : List D)
  | ins (c : Nat) (vs : List D)
  | dead | bn
/-- shut: it does not change -/
def MO.shut : MO → Bool
  | .lk _ => true
  | .bn => true
  | _ => false

/-- what an expression comes to: data, a thing of the heap, a new thing -/
inductive X where
  | d (d : D) | r (j : Nat) | u (m : MO)

inductive Out (A : Type) where
  | ok (a : A)
  | err (c : Nat) (vs : List D)

abbrev Hs := List MO
abbrev R (A : Type) := Option (Out A × Hs)

def bnd {A B : Type} (r : R A) (k : A → Hs → R B) : R B :=
  match r with
  | some (.ok a, h) => k a h
  | some (.err c v, h) => some (.err c v, h)
  | none => none
@[simp] theorem bnd_ok {A B : Type} (a : A) (h : Hs) (k : A → Hs → R B) : bnd (some (.ok a, h)) k = k a h := rfl
@[simp] theorem bnd_err {A B : Type} (c : Nat) (v : List D) (h : Hs) (k : A → Hs → R B) : bnd (some (.err c v, h)) k = some (.err c v, h) := rfl
@[simp] theorem bnd_none {A B : Type} (k : A → Hs → R B) : bnd none k = none := rfl

/-- a new thing, as data -/
def MO.toD : MO → Option D
  | .lst xs => some (.lst xs)
  | .dct ks vs => some (.dct ks vs)
  | .ins c vs => some (.ins c vs)
  | _ => none
/-- kept for good -/
def X.toD : X → Option D
  | .d z => some z
  | .u m => m.toD
  | .r _ => none
/-- read just now -/
def MO.rd : MO → Option D
  | .lst xs => some (.lst xs)
  | .lk xs => some (.lst xs)
  | .dct ks vs => some (.dct ks vs)
  | .ins c vs => some (.ins c vs)
  | _ => none
def X.rd (h : Hs) : X → Option D
  | .d z => some z
  | .u m => m.rd
  | .r j => match h[j]? with
    | some m => m.rd
    | none => none
/-- as an argument, as a slot's -/
def X.toW : X → Option W
  | .d z => some (.d z)
  | .u m => m.toD.map W.d
  | .r j => some (.r j)

/-! ### == of data -/
mutual
def D.py : D → Option PyData
  | .non => some .none
  | .bl b => some (.bool b)
  | .int i => some (.int i)
  | .str x => some (.str x)
  | .tup xs => (D.pys xs).map .tuple
  | .lst xs => (D.pys xs).map .list
  | _ => none
def D.pys : List D → Option (List PyData)
  | [] => some []
  | x :: xs => match D.py x, D.pys xs with
    | some p, some ps => some (p :: ps)
    | _, _ => none
end
def eqD (a b : D) : Option Bool := match a.py, b.py with
  | some p, some q => if SeqAt.shaped p && SeqAt.shaped q then some (PyData.eqv p q) else none
  | _, _ => none

/-! ### operators -/
def ixN (n : Nat) (i : Int) : Option Nat := L2.ixN n i
def okMul (i j : Int) : Bool := (decide (-(2 ^ 64) < i) && decide (i < 2 ^ 64)) || (decide (-(2 ^ 64) < j) && decide (j < 2 ^ 64))

inductive Op2 where
  | add | sub | mul | fdiv | mod | pow | shl | shr | band | bor | bxor
  | eq | ne | lt | le | gt | ge | isin | notin | is | isnot
  | ix
  deriving DecidableEq

def dI (i : Int) : Option X := some (.d (.int i))
def dB (b : Bool) : Option X := some (.d (.bl b))
def dS (x : Str) : Option X := some (.d (.str x))
def addD : D → D → Option X
  | .int i, .int j => dI (i + j)
  | .str x, .str y => if x.length + y.length ≤ sizeLine then dS (x ++ y) else none
  | .tup x, .tup y => if x.length + y.length ≤ sizeLine then some (.d (.tup (x ++ y))) else none
  | .lst x, .lst y => if x.length + y.length ≤ sizeLine then some (.u (.lst (x ++ y))) else none
  | _, _ => none
def repL {A : Type} (xs : List A) (n : Nat) : List A := (List.replicate n xs).flatten
def mulD : D → D → Option X
  | .int i, .int j => if okMul i j then dI (i * j) else none
  | .str x, .int k => if x.length ≤ 1000 ∧ 0 ≤ k ∧ k ≤ 1000 then dS (Txt.mul x k) else none
  | .tup x, .int k => if x.isEmpty = false ∧ 2 ≤ k ∧ k ≤ 1000 ∧ x.length ≤ 1000 then some (.d (.tup (repL x k.toNat))) else none
  | .lst x, .int k => if x.length * k.toNat ≤ sizeLine ∧ -(2 ^ 63) ≤ k ∧ k < 2 ^ 63 then some (.u (.lst (repL x k.toNat))) else none
  | _, _ => none
def flatD : D → Bool
  | .non => true | .bl _ => true | .int _ => true | .str _ => true
  | _ => false
def eqF : D → D → Bool
  | .non, .non => true
  | .bl a, .bl b => a == b
  | .bl a, .int b => (if a then 1 else 0) == b
  | .int a, .bl b => a == (if b then 1 else 0)
  | .int a, .int b => a == b
  | .str a, .str b => a == b
  | _, _ => false
def lexI : List Int → List Int → Bool := HT.lexLt
def intsD : List D → Option (List Int)
  | [] => some []
  | .int i :: r => (intsD r).map (i :: ·)
  | _ => none
def strsD : List D → Option (List Str)
  | [] => some []
  | .str i :: r => (strsD r).map (i :: ·)
  | _ => none
def blsD : List D → Option (List Bool)
  | [] => some []
  | .bl i :: r => (blsD r).map (i :: ·)
  | _ => none
def ltD : D → D → Option X
  | .int i, .int j => dB (decide (i < j))
  | .str i, .str j => dB (decide (i.cps.toList < j.cps.toList))
  | .tup x, .tup y => match intsD x, intsD y with
    | some a, some b => dB (lexI a b)
    | _, _ => none
  | _, _ => none
/-- a key of a dict of numbers and texts -/
def keyD : D → Option L2.Key
  | .int i => some (.inl i)
  | .str x => some (.inr x)
  | _ => none
def oneSign (x : Str) : Option Nat := match x.cps.toList with
  | [c] => some c
  | _ => none
def inD (x : D) : D → Option Bool
  | .str y => match x with
    | .str z => (oneSign z).map fun c => decide (c ∈ y.cps.toList)
    | _ => none
  | .tup ys => if flatD x && ys.all flatD then some (ys.any fun y => eqF y x) else none
  | .lst ys => if flatD x && ys.all flatD then some (ys.any fun y => eqF y x) else none
  | _ => none
def getD (xs : List D) (i : Int) : Option D := L2.atI xs i
def ixD : D → D → Option X
  | .tup xs, .int i => (getD xs i).map .d
  | .lst xs, .int i => (getD xs i).map .d
  | .str x, .int i => if x.length ≤ sizeLine then (L2.atI x.cps.toList i).map fun c => .d (.str ⟨#[c]⟩) else none
  | _, _ => none
def isNon : D → Bool
  | .non => true
  | _ => false
def sem2 : Op2 → D → D → Option X
  | .add, a, b => addD a b
  | .sub, .int i, .int j => dI (i - j)
  | .mul, a, b => mulD a b
  | .fdiv, .int i, .int j => if j ≠ 0 ∧ j.natAbs < 1073741824 then dI (i.fdiv j) else none
  | .mod, .int i, .int j => if j ≠ 0 then dI (i.fmod j) else none
  | .pow, .int i, .int j => if 0 ≤ j ∧ j ≤ 1000000 ∧ i.natAbs < 2 ^ 64 then dI (i ^ j.toNat) else none
  | .shl, .int i, .int j => if 0 ≤ j ∧ j ≤ 1000000 ∧ i.natAbs < 2 ^ 64 then dI (i * 2 ^ j.toNat) else none
  | .shr, .int i, .int j => if 0 ≤ j then dI (i / 2 ^ j.toNat) else none
  | .band, .int i, .int j => dI (Builtin.bitAnd i j)
  | .bor, .int i, .int j => dI (Builtin.bitOr i j)
  | .bxor, .int i, .int j => dI (Builtin.bitXor i j)
  | .eq, a, b => (eqD a b).map fun k => .d (.bl k)
  | .ne, a, b => (eqD a b).map fun k => .d (.bl (!k))
  | .lt, a, b => ltD a b
  | .gt, .int i, .int j => dB (decide (j < i))
  | .le, .int i, .int j => dB (decide (i ≤ j))
  | .ge, .int i, .int j => dB (decide (j ≤ i))
  | .isin, a, b => (inD a b).map fun k => .d (.bl k)
  | .notin, a, b => (inD a b).map fun k => .d (.bl (!k))
  | .is, a, .non => dB (isNon a)
  | .isnot, a, .non => dB (!isNon a)
  | .ix, a, b => ixD a b
  | _, _, _ => none

/-- built-in functions and methods of one thing, of two, slices -/
inductive Op1 where
  | neg | len | sum | all | any | tuple | list | int | str | bool | abs
  deriving DecidableEq
def lenD : D → Option X
  | .str x => if x.length ≤ sizeLine then dI x.length else none
  | .tup xs => dI xs.length
  | .lst xs => dI xs.length
  | .scr xs => dI xs.length
  | .dct ks _ => dI ks.length
  | _ => none
def sumI : List Int → Int := List.sum
def sem1 : Op1 → D → Option X
  | .neg, .int i => dI (-i)
  | .len, a => lenD a
  | .sum, .lst xs => (intsD xs).map fun ns => .d (.int ns.sum)
  | .all, .lst xs => (blsD xs).map fun bs => .d (.bl (bs.all id))
  | .any, .lst xs => (blsD xs).map fun bs => .d (.bl (bs.any id))
  | .tuple, .lst xs => some (.d (.tup xs))
  | .tuple, .tup xs => some (.d (.tup xs))
  | .list, .lst xs => some (.u (.lst xs))
  | .list, .tup xs => some (.u (.lst xs))
  | .int, .int i => dI i
  | .int, .bl b => dI (if b then 1 else 0)
  | .int, .str x => if x.length ≤ 640 then (intText? x).map fun n => .d (.int n) else none
  | .str, .int i => if i.natAbs.log2 < 1920 then dS (toString i : Str) else none
  | .bool, .int i => dB (i != 0)
  | .bool, .bl b => dB b
  | .abs, .int i => dI (if i < 0 then -i else i)
  | _, _ => none
/-- methods of one argument -/
inductive OpM where
  | join | split | count | index
  deriving DecidableEq
def joinD (a : Str) (ys : List Str) : Option X :=
  if (ys.map (·.length)).sum + ys.length * a.length ≤ 16777216 then dS (Txt.join a ys) else none
def countB (b : Bool) : List Bool → Nat
  | [] => 0
  | x :: xs => (if x == b then 1 else 0) + countB b xs
def semM : OpM → D → D → Option X
  | .join, .str a, .lst xs => match strsD xs with
    | some ys => joinD a ys
    | none => none
  | .split, .str a, .str b => if (b.length == 0) = false ∧ a.length + 2 ≤ sizeLine ∧ (Txt.split a b).length ≤ sizeLine then some (.u (.lst ((Txt.split a b).map .str))) else none
  | _, _, _ => none

def semL : OpM → D → D → Option X
  | .count, .lst xs, d => if flatD d && xs.all flatD then dI ((xs.countP fun y => eqF y d : Nat) : Int) else none
  | .index, .lst xs, d => if flatD d && xs.all flatD then (xs.findIdx? fun y => eqF y d).map fun (i : Nat) => .d (.int (i : Int)) else none
  | _, _, _ => none
def cutL {A : Type} (xs : List A) (lo hi : Option Int) : List A := (xs.drop (HT.sIx xs.length 0 lo)).take (HT.sIx xs.length xs.length hi - HT.sIx xs.length 0 lo)
/-- a slice -/
def cutD (lo hi : Option Int) : D → Option X
  | .str x => if x.length ≤ sizeLine then dS (L2.cutS x lo hi) else none
  | .tup xs => some (.d (.tup (cutL xs lo hi)))
  | .lst xs => some (.u (.lst (cutL xs lo hi)))
  | .scr xs => some (.u (.lst ((cutL xs lo hi).map .int)))
  | _ => none

/-- classes that isinstance asks for -/
inductive Ty where
  | int | bool | str | tuple | list | dict
  | own (c : Nat)
  deriving DecidableEq

/-! ### the intermediate form -/
inductive Tg where
  | one (i : Nat) | many (is : List Nat)
inductive E where
  | var (i : Nat)
  | cst (d : D)
  | glb (g : Nat)
  | fnv (f : Nat)
  | nil | cons (a b : E)
  | tup (es : E) | lst (es : E) | dct0
  | op1 (o : Op1) (a : E) | op2 (o : Op2) (a b : E) | opm (o : OpM) (a b : E)
  | chain (o o2 : Op2) (a b c : E)
  | cut (a : E) (lo hi : E) | no
  | and (a b : E) | or (a b : E) | not (a : E) | ife (t a b : E)
  | call (f : Nat) (es : E) | mk (c : Nat) (es : E)
  | fld (a : E) (f : Nat)
  | isi (a : E) (ts : List Ty)
  | rng (a : E) | rng2 (a b : E) | enum (a : E) | zip (a b : E)
  | comp (own : List Nat) (elt : E) (tg : Tg) (it : E) (cond : E) | yes
  | lam (f : Nat) (body : E) | act (i : Nat)
  | app (i : Nat) (e : E)
  | eqo (neg : Bool) (c : Nat) (a b : E)
  | exisi (i : Nat) (c : Nat) | exve (i : Nat) | exfld (i f : Nat)
  | opl (o : OpM) (a b : E)
/-- how many in a row -/
def E.cnt : E → Nat
  | .cons _ b => b.cnt + 1
  | _ => 0
inductive S where
  | nil | cons (s r : S)
  | pass | brk | cont
  | asg (i : Nat) (e : E)
  | new (i : Nat) (e : E)
  | par (is : List Nat) (es : E)
  | parn (is : List Nat) (fs : List Bool) (es : E)
  | unp (is : List Nat) (e : E)
  | setx (i : Nat) (k e : E)
  | setf (i : Nat) (c : Nat) (f : Nat) (e : E)
  | expr (e : E)
  | ift (t : E) (a b : S)
  | whl (n : Nat) (t : E) (b : S)
  | for (tg : Tg) (it : E) (b : S) (dead : List Nat)
  | ret (e : E) | retn
  | rse (c : Nat) (es : E)
  | tri (b : S) (c : Nat) (i : Nat) (h : S)
  | kill (is : List Nat) | frz (i : Nat)

abbrev Env := List (Option W)
/-- the meaning of what is called -/
structure Cl where
  gl : Nat → Option D
  G : Nat → List W → Hs → R X
  mkO : Nat → List W → Hs → R X
  GT : Nat → (Hs → R X) → Hs → R X
  th : Hs → R X
  eqo : Nat → D → D → Hs → R X
  /-- is class a below class b -/
  sub : Nat → Nat → Bool
  /-- is class c below ValueError .. -/
  nf : Nat → Nat → Option Nat
  kc : Nat → Bool
  /-- which defs may be called, which classes made -/
  kf : Nat → Bool
  km : Nat → Bool
  /-- an error's field -/
  xfl : Nat → Option Nat

def lift {A : Type} (o : Option A) (h : Hs) : R A := o.map fun a => (.ok a, h)
@[simp] theorem lift_some {A : Type} (a : A) (h : Hs) : lift (some a) h = some (.ok a, h) := rfl
@[simp] theorem lift_none {A : Type} (h : Hs) : lift (none : Option A) h = none := rfl

def wipeE (env : Env) : List Nat → Env
  | [] => env
  | v :: vs => (wipeE env vs).set v none
def bindTs : List Nat → List D → Env → Option Env
  | [], [], env => some env
  | i :: is, d :: ds, env => bindTs is ds (env.set i (some (.d d)))
  | _, _, _ => none
def bindT : Tg → D → Env → Option Env
  | .one i, d, env => some (env.set i (some (.d d)))
  | .many is, .tup ds, env => bindTs is ds env
  | _, _, _ => none

/-- a comprehension's turns -/
def compL (f : D → Hs → R (Option D)) : List D → Hs → R (List D)
  | [], h => some (.ok [], h)
  | x :: xs, h => match f x h with
    | some (.ok r, h1) => match compL f xs h1 with
      | some (.ok rs, h2) => some (.ok (match r with | some d => d :: rs | none => rs), h2)
      | _ => none
    | _ => none

/-- the heap with the thing at j shut, where it is a thing of the heap -/
def shut (x : X) (h : Hs) : Hs := match x with
  | .r j => match h[j]? with
    | some (.lst xs) => h.set j (.lk xs)
    | _ => h
  | _ => h
def reopen (x : X) (h0 h : Hs) : Hs := match x with
  | .r j => match h0[j]? with
    | some (.lst xs) => h.set j (.lst xs)
    | _ => h
  | _ => h

def rangeD (lo hi : Int) : List D := (List.range (hi - lo).toNat).map fun (i : Nat) => D.int (lo + (i : Int))
def okR (i : Int) : Bool := decide (-(2 ^ 62) ≤ i) && decide (i < 2 ^ 62)
def enumD (xs : List D) : List D := (xs.zipIdx).map fun p => .tup [.int (p.2 : Int), p.1]
def zipD (xs ys : List D) : List D := (xs.zip ys).map fun p => .tup [p.1, p.2]
def seqD : D → Option (List D)
  | .lst xs => some xs
  | .tup xs => some xs
  | .str x => if x.length ≤ sizeLine then some (x.cps.toList.map fun c => .str ⟨#[c]⟩) else none
  | _ => none
def seqD2 : D → Option (List D)
  | .lst xs => some xs
  | .tup xs => some xs
  | _ => none

def isiD (C : Cl) (d : D) (t : Ty) : Option Bool := match d, t with
  | .non, .own _ => some false | .bl _, .own _ => some false | .int _, .own _ => some false | .str _, .own _ => some false
  | .tup _, .own _ => some false | .lst _, .own _ => some false | .dct _ _, .own _ => some false
  | .ins c _, .own c' => if C.kc c then some (C.sub c c') else none
  | .ins c _, _ => if C.kc c then some false else none
  | .non, _ => some false
  | .bl _, .bool => some true | .bl _, .int => some true | .bl _, _ => some false
  | .int _, .int => some true | .int _, _ => some false
  | .str _, .str => some true | .str _, _ => some false
  | .tup _, .tuple => some true | .tup _, _ => some false
  | .lst _, .list => some true | .lst _, _ => some false
  | .dct _ _, .dict => some true | .dct _ _, _ => some false
  | _, _ => none
def isiDs (C : Cl) (d : D) : List Ty → Option Bool
  | [] => some false
  | t :: ts => match isiD C d t with
    | some true => some true
    | some false => isiDs C d ts
    | none => none

def isStr : D → Option Unit
  | .str _ => some ()
  | _ => none
def rdo (h : Hs) (x : X) : Option D := x.rd h
def toB : X → Option Bool
  | .d (.bl b) => some b
  | _ => none
def argsW : List X → Option (List W)
  | [] => some []
  | x :: xs => match x.toW, argsW xs with
    | some w, some ws => some (w :: ws)
    | _, _ => none
def allToD : List X → Option (List D)
  | [] => some []
  | x :: xs => match x.toD, allToD xs with
    | some w, some ws => some (w :: ws)
    | _, _ => none
def opInt : D → Option (Option Int)
  | .int i => some (some i)
  | _ => none
def insFld (C : Cl) (f : Nat) : D → Option D
  | .ins c vs => match C.nf c f with
    | some i => vs[i]?
    | none => none
  | _ => none

/-- of two things that are walked together, the one of the heap -/
def zipS : X → X → Option X
  | .r _, .r _ => none
  | .r j, _ => some (.r j)
  | _, .r j => some (.r j)
  | _, _ => some (.d .non)
def zipX (h : Hs) (x y : X) : Option (X × List D) := (zipS x y).bind fun s => (x.rd h).bind fun d => (y.rd h).bind fun e => (seqD2 d).bind fun xs => (seqD2 e).map fun ys => (s, zipD xs ys)
mutual
/-- an expression -/
def ev (C : Cl) : E → Env → Hs → R X
  | .var i, env, h => match env[i]? with
    | some (some (.d d)) => some (.ok (.d d), h)
    | some (some (.r j)) => some (.ok (.r j), h)
    | _ => none
  | .cst d, _, h => some (.ok (.d d), h)
  | .glb g, _, h => lift ((C.gl g).map .d) h
  | .fnv f, _, h => some (.ok (.d (.fn f)), h)
  | .tup es, env, h => bnd (evs C es env h) fun xs h => lift ((allToD xs).map fun ds => .d (.tup ds)) h
  | .lst es, env, h => bnd (evs C es env h) fun xs h => lift ((allToD xs).map fun ds => .u (.lst ds)) h
  | .dct0, _, h => some (.ok (.u (.dct [] [])), h)
  | .op1 o a, env, h => bnd (ev C a env h) fun x h => lift ((x.rd h).bind (sem1 o)) h
  | .op2 o a b, env, h => bnd (ev C a env h) fun x h => bnd (ev C b env h) fun y h => lift ((x.rd h).bind fun d => (y.rd h).bind fun e => sem2 o d e) h
  | .opm o a b, env, h => bnd (ev C a env h) fun x h => bnd (lift ((x.rd h).bind isStr) h) fun _ h => bnd (ev C b env h) fun y h => lift ((x.rd h).bind fun d => (y.rd h).bind fun e => semM o d e) h
  | .chain o o2 a b c, env, h => bnd (ev C a env h) fun x h => bnd (ev C b env h) fun y h =>
      bnd (lift (((x.rd h).bind fun d => (y.rd h).bind fun e => sem2 o d e).bind toB) h) fun k h =>
        if k then bnd (ev C c env h) fun z h => lift ((y.rd h).bind fun d => (z.rd h).bind fun e => sem2 o2 d e) h else some (.ok (.d (.bl false)), h)
  | .cut a lo hi, env, h => bnd (ev C a env h) fun x h => bnd (evo C lo env h) fun l h => bnd (evo C hi env h) fun u h => lift ((x.rd h).bind (cutD l u)) h
  | .and a b, env, h => bnd (ev C a env h) fun x h => bnd (lift (toB x) h) fun k h => if k then ev C b env h else some (.ok (.d (.bl false)), h)
  | .or a b, env, h => bnd (ev C a env h) fun x h => bnd (lift (toB x) h) fun k h => if k then some (.ok (.d (.bl true)), h) else ev C b env h
  | .not a, env, h => bnd (ev C a env h) fun x h => lift ((toB x).map fun k => .d (.bl (!k))) h
  | .ife t a b, env, h => bnd (ev C t env h) fun x h => bnd (lift (toB x) h) fun k h => if k then ev C a env h else ev C b env h
  | .call f es, env, h => bnd (evs C es env h) fun xs h => bnd (lift (argsW xs) h) fun ws h => C.G f ws h
  | .mk c es, env, h => bnd (evs C es env h) fun xs h => bnd (lift (argsW xs) h) fun ws h => C.mkO c ws h
  | .fld a f, env, h => bnd (ev C a env h) fun x h => lift (((x.rd h).bind (insFld C f)).map .d) h
  | .isi a ts, env, h => bnd (ev C a env h) fun x h => lift (((x.rd h).bind fun d => isiDs C d ts).map fun k => .d (.bl k)) h
  | .comp own elt tg it cond, env, h => bnd (evi C it env h) fun p h =>
      match compL (fun d h => match bindT tg d (wipeE env own) with
        | some env' => bnd (ev C cond env' h) fun x h => bnd (lift (toB x) h) fun k h => if k then bnd (ev C elt env' h) fun y h => lift (y.toD.map some) h else some (.ok none, h)
        | none => none) p.2 (shut p.1 h ++ [.bn]) with
      | some (.ok ds, h') => some (.ok (.u (.lst ds)), reopen p.1 h (h'.take h.length))
      | _ => none
  | .yes, _, h => some (.ok (.d (.bl true)), h)
  | .lam f body, env, h => C.GT f (fun h => ev C body env h) h
  | .act i, env, h => match env[i]? with
    | some (some .th) => C.th h
    | _ => none
  | .app i e, env, h => match env[i]? with
    | some (some (.r j)) => match h[j]? with
      | some (.lst _) => bnd (ev C e env h) fun y h => match y.toD, h[j]? with
        | some d, some (.lst xs) => if xs.length < sizeLine then some (.ok (.d .non), h.set j (.lst (xs ++ [d]))) else none
        | _, _ => none
      | _ => none
    | _ => none
  | .eqo neg c a b, env, h => bnd (ev C a env h) fun x h => bnd (ev C b env h) fun y h => match x.toD, y.toD with
    | some (.ins c1 vs), some (.ins c2 ws) => if c1 = c ∧ c2 = c ∧ neg = true then bnd (C.eqo c (.ins c1 vs) (.ins c2 ws) h) fun z h => lift ((toB z).map fun k => .d (.bl (!k))) h else none
    | _, _ => none
  | .exisi i c', env, h => match env[i]? with
    | some (some (.ex c _)) => some (.ok (.d (.bl (C.sub c c'))), h)
    | _ => none
  | .exve i, env, h => match env[i]? with
    | some (some (.ex _ _)) => some (.ok (.d (.bl true)), h)
    | _ => none
  | .exfld i f, env, h => match env[i]? with
    | some (some (.ex c [v])) => if C.xfl c = some f then some (.ok (.d v), h) else none
    | _ => none
  | .opl o a b, env, h => bnd (ev C a env h) fun x h => match x.rd h with
    | some (.lst _) => bnd (ev C b env h) fun y h => lift ((x.rd h).bind fun d => (y.rd h).bind fun e => semL o d e) h
    | _ => none
  | _, _, _ => none
/-- expressions in a row -/
def evs (C : Cl) : E → Env → Hs → R (List X)
  | .nil, _, h => some (.ok [], h)
  | .cons a b, env, h => bnd (ev C a env h) fun x h => bnd (evs C b env h) fun xs h => some (.ok (x :: xs), h)
  | _, _, _ => none
/-- a slice's part -/
def evo (C : Cl) : E → Env → Hs → R (Option Int)
  | .no, _, h => some (.ok none, h)
  | .cons a .nil, env, h => bnd (ev C a env h) fun x h => lift ((x.rd h).bind opInt) h
  | _, _, _ => none
/-- what is walked: whence, the items -/
def evi (C : Cl) : E → Env → Hs → R (X × List D)
  | .rng a, env, h => bnd (ev C a env h) fun x h => lift ((x.rd h).bind fun d => match d with
      | .int n => if -(2 ^ 62) ≤ n ∧ n ≤ 16777216 then some (.d .non, rangeD 0 n) else none
      | _ => none) h
  | .rng2 a b, env, h => bnd (ev C a env h) fun x h => bnd (ev C b env h) fun y h => lift ((x.rd h).bind fun d => (y.rd h).bind fun e => match d, e with
      | .int m, .int n => if okR m = true ∧ okR n = true ∧ n - m ≤ 16777216 then some (.d .non, rangeD m n) else none
      | _, _ => none) h
  | .enum a, env, h => bnd (ev C a env h) fun x h => lift ((x.rd h).bind fun d => (seqD2 d).map fun xs => (x, enumD xs)) h
  | .zip a b, env, h => bnd (ev C a env h) fun x h => bnd (ev C b env h) fun y h => lift (zipX h x y) h
  | .cons a .nil, env, h => bnd (ev C a env h) fun x h => lift ((x.rd h).bind fun d => (seqD d).map fun xs => (x, xs)) h
  | _, _, _ => none
end

/-! ### statements -/
inductive Fl where
  | nx (env : Env) | brk (env : Env) | cont (env : Env) | ret (x : X) | err (c : Nat) (vs : List D) (env : Env)
abbrev RS := Option (Fl × Hs)
/-- behind an expression -/
def bns {A : Type} (r : R A) (env : Env) (k : A → Hs → RS) : RS :=
  match r with
  | some (.ok a, h) => k a h
  | some (.err c v, h) => some (.err c v env, h)
  | none => none
@[simp] theorem bns_ok {A : Type} (a : A) (h : Hs) (env : Env) (k : A → Hs → RS) : bns (some (.ok a, h)) env k = k a h := rfl
@[simp] theorem bns_err {A : Type} (c : Nat) (v : List D) (h : Hs) (env : Env) (k : A → Hs → RS) : bns (some (.err c v, h)) env k = some (.err c v env, h) := rfl
@[simp] theorem bns_none {A : Type} (env : Env) (k : A → Hs → RS) : bns none env k = none := rfl
/-- no caught error in a slot -/
def noEx : Env → Bool
  | [] => true
  | some (.ex _ _) :: _ => false
  | _ :: r => noEx r
def frzE (i j : Nat) (d : D) (env : Env) : Env := env.set i (some (.d d))

/-- a for's turns -/
def forL (f : D → Env → Hs → RS) (dead : List Nat) : List D → Env → Hs → RS
  | [], env, h => some (.nx env, h)
  | x :: xs, env, h => match f x env h with
    | some (.nx env', h') => forL f dead xs (wipeE env' dead) h'
    | some (.cont env', h') => forL f dead xs (wipeE env' dead) h'
    | some (.brk env', h') => some (.brk env', h')
    | r => r
def whlL (t : Env → Hs → R Bool) (f : Env → Hs → RS) : Nat → Env → Hs → RS
  | 0, _, _ => none
  | n + 1, env, h => match t env h with
    | some (.ok true, h1) => match f env h1 with
      | some (.nx env', h') => whlL t f n env' h'
      | some (.cont env', h') => whlL t f n env' h'
      | some (.brk env', h') => some (.brk env', h')
      | r => r
    | some (.ok false, h1) => some (.nx env, h1)
    | some (.err c v, h1) => some (.err c v env, h1)
    | none => none
/-- behind a loop: a break goes on -/
def unbrk (dead : List Nat) (x : X) (h0 : Hs) (r : RS) : RS := match r with
  | some (.nx env, h) => some (.nx (wipeE env dead), reopen x h0 h)
  | some (.brk env, h) => some (.nx (wipeE env dead), reopen x h0 h)
  | some (f, h) => some (f, reopen x h0 h)
  | none => none

/-- expressions in a row for names; those with a flag are new things, in the heap at once -/
def evn (C : Cl) : List Bool → E → Env → Hs → R (List W)
  | [], .nil, _, h => some (.ok [], h)
  | true :: fs, .cons a b, env, h => bnd (ev C a env h) fun x h => match x with
    | .u m => bnd (evn C fs b env (h ++ [m])) fun ws h' => some (.ok (.r h.length :: ws), h')
    | _ => none
  | false :: fs, .cons a b, env, h => bnd (ev C a env h) fun x h => match x.toW with
    | some w => bnd (evn C fs b env h) fun ws h' => some (.ok (w :: ws), h')
    | none => none
  | _, _, _, _ => none
def setsW : List Nat → List W → Env → Option Env
  | [], [], env => some env
  | i :: is, w :: ws, env => setsW is ws (env.set i (some w))
  | _, _, _ => none
def ex (C : Cl) : S → Env → Hs → RS
  | .nil, env, h => some (.nx env, h)
  | .cons s r, env, h => match ex C s env h with
    | some (.nx env', h') => ex C r env' h'
    | r => r
  | .pass, env, h => some (.nx env, h)
  | .brk, env, h => some (.brk env, h)
  | .cont, env, h => some (.cont env, h)
  | .asg i e, env, h => bns (ev C e env h) env fun x h => match x.toW with
    | some w => some (.nx (env.set i (some w)), h)
    | none => none
  | .new i e, env, h => bns (ev C e env h) env fun x h => match x with
    | .u m => some (.nx (env.set i (some (.r h.length))), h ++ [m])
    | _ => none
  | .par is es, env, h => bns (evs C es env h) env fun xs h => match argsW xs with
    | some ws => if ws.length = is.length then some (.nx ((is.zip ws).foldl (fun env p => env.set p.1 (some p.2)) env), h) else none
    | none => none
  | .parn is fs es, env, h => bns (evn C fs es env h) env fun ws h => match setsW is ws env with
    | some env' => some (.nx env', h)
    | none => none
  | .unp is e, env, h => bns (ev C e env h) env fun x h => match x.rd h with
    | some (.tup ds) => match bindTs is ds env with
      | some env' => some (.nx env', h)
      | none => none
    | _ => none
  | .setx i k e, env, h => bns (ev C e env h) env fun y h => match env[i]? with
    | some (some (.r j)) => bns (ev C k env h) env fun z h => match y.toD, z.rd h, h[j]? with
      | some d, some (.int n), some (.lst xs) => match ixN xs.length n with
        | some m => some (.nx env, h.set j (.lst (xs.set m d)))
        | none => none
      | _, _, _ => none
    | _ => none
  | .setf i c f e, env, h => bns (ev C e env h) env fun y h => match env[i]? with
    | some (some (.r j)) => match y.toD, h[j]? with
      | some d, some (.ins c' ws) => if ws.length = f ∧ c' = c then some (.nx env, h.set j (.ins c' (ws ++ [d]))) else none
      | _, _ => none
    | _ => none
  | .expr e, env, h => bns (ev C e env h) env fun _ h => some (.nx env, h)
  | .ift t a b, env, h => bns (ev C t env h) env fun x h => match toB x with
    | some true => ex C a env h
    | some false => ex C b env h
    | none => none
  | .whl n t b, env, h => unbrk [] (.d .non) h (whlL (fun env h => bnd (ev C t env h) fun x h => lift (toB x) h) (fun env h => ex C b env h) n env h)
  | .for tg it b dead, env, h => bns (evi C it env h) env fun p h =>
      unbrk dead p.1 h (forL (fun d env h => match bindT tg d env with
        | some env' => ex C b env' h
        | none => none) dead p.2 (wipeE env dead) (shut p.1 h))
  | .ret e, env, h => bns (ev C e env h) env fun x h => some (.ret x, h)
  | .retn, _, h => some (.ret (.d .non), h)
  | .rse c es, env, h => bns (evs C es env h) env fun xs h => match allToD xs with
    | some ds => some (.err c ds env, h)
    | none => none
  | .tri b c i hd, env, h => match ex C b env h with
    | some (.err c' vs env', h') => if C.sub c' c then
        match ex C hd (env'.set i (some (.ex c' vs))) h' with
        | some (.nx env2, h2) => if noEx (env2.set i none) then some (.nx (env2.set i none), h2) else none
        | some (.ret x, h2) => some (.ret x, h2)
        | _ => none
      else some (.err c' vs env', h')
    | r => r
  | .kill is, env, h => some (.nx (wipeE env is), h)
  | .frz i, env, h => match env[i]? with
    | some (some (.r j)) => match h[j]? with
      | some m => match m.toD with
        | some d => some (.nx (env.set i (some (.d d))), h.set j .dead)
        | none => none
      | none => none
    | _ => none

/-- made: by its __init__ -/
def mkBy (c : Nat) (g : List W → Hs → R X) (ws : List W) (h : Hs) : R X :=
  match g (.r h.length :: ws) (h ++ [.ins c []]) with
  | some (.ok (.d .non), h') => match h'[h.length]? with
    | some m => some (.ok (.u m), h'.take h.length)
    | none => none
  | some (.err c v, h') => some (.err c v, h'.take h.length)
  | _ => none
/-- a def: its body, its arguments -/
def startE (n : Nat) (ws : List W) : Env := ws.map some ++ List.replicate (n - ws.length) none
def fin (n : Nat) (x : X) (h : Hs) : R X := match x with
  | .r j => if j < n then some (.ok (.r j), h.take n) else match h[j]? with
    | some m => some (.ok (.u m), h.take n)
    | none => none
  | x => some (.ok x, h.take n)
def run (C : Cl) (n : Nat) (b : S) (ws : List W) (h : Hs) : R X := match ex C b (startE n ws) h with
  | some (.nx _, h') => fin h.length (.d .non) h'
  | some (.ret x, h') => fin h.length x h'
  | some (.err c vs _, h') => some (.err c vs, h'.take h.length)
  | _ => none
/-- a def's end -/
def endR (n : Nat) (r : RS) : R X := match r with
  | some (.nx _, h') => fin n (.d .non) h'
  | some (.ret x, h') => fin n x h'
  | some (.err c vs _, h') => some (.err c vs, h'.take n)
  | _ => none
/-! ### meanings by stages -/
def Cl.withTh (C : Cl) (t : Hs → R Ev.X) : Cl := { C with th := t }
def okOnly (r : R Ev.X) : R Ev.X := match r with
  | some (.ok x, h) => some (.ok x, h)
  | _ => none
def Cl.add (C : Cl) (f : Nat) (g : List W → Hs → R Ev.X) : Cl := { C with G := fun i => if i = f then g else C.G i, kf := fun i => i == f || C.kf i }
def Cl.addMk (C : Cl) (c : Nat) (g : List W → Hs → R Ev.X) : Cl := { C with mkO := fun i => if i = c then mkBy c g else C.mkO i, km := fun i => i == c || C.km i }
def Cl.addEq (C : Cl) (c : Nat) (g : List W → Hs → R Ev.X) : Cl := { C with eqo := fun i => if i = c then fun d e h => okOnly (g [.d d, .d e] h) else C.eqo i }
def Cl.addGT (C : Cl) (f n : Nat) (ir : S) : Cl := { C with GT := fun i => if i = f then fun t h => okOnly (run (C.withTh t) n ir [.th] h) else C.GT i }
/-- a def that calls itself: m calls deep -/
def fixN (C : Cl) (f n : Nat) (ir : S) : Nat → List W → Hs → R Ev.X
  | 0 => fun _ _ => none
  | m + 1 => run (C.add f (fixN C f n ir m)) n ir
section
variable (C : Cl) (f : Nat) (g : List W → Hs → R Ev.X) (i : Nat)
theorem Cl.add_G_eq : (C.add f g).G f = g := if_pos rfl
theorem Cl.add_G_ne (h : i ≠ f) : (C.add f g).G i = C.G i := if_neg h
theorem Cl.addMk_G : (C.addMk f g).G i = C.G i := rfl
theorem Cl.addEq_G : (C.addEq f g).G i = C.G i := rfl
theorem Cl.addMk_eq : (C.addMk f g).mkO f = mkBy f g := if_pos rfl
theorem Cl.addMk_mkO_ne (h : i ≠ f) : (C.addMk f g).mkO i = C.mkO i := if_neg h
theorem Cl.add_mkO : (C.add f g).mkO i = C.mkO i := rfl
theorem Cl.addEq_mkO : (C.addEq f g).mkO i = C.mkO i := rfl
variable (d e : D) (h : Hs) (t : Hs → R Ev.X)
theorem Cl.addEq_eq : (C.addEq f g).eqo f d e h = okOnly (g [.d d, .d e] h) := congrFun (congrFun (congrFun (if_pos rfl : (if f = f then (fun d e h => okOnly (g [.d d, .d e] h)) else C.eqo f) = _) d) e) h
theorem Cl.addEq_eqo_ne (n : i ≠ f) : (C.addEq f g).eqo i d e h = C.eqo i d e h := congrFun (congrFun (congrFun (if_neg n : (if i = f then (fun d e h => okOnly (g [.d d, .d e] h)) else C.eqo i) = _) d) e) h
theorem Cl.add_eqo : (C.add f g).eqo i d e h = C.eqo i d e h := rfl
theorem Cl.addMk_eqo : (C.addMk f g).eqo i d e h = C.eqo i d e h := rfl
theorem Cl.add_GT : (C.add f g).GT i t h = C.GT i t h := rfl
theorem Cl.addMk_GT : (C.addMk f g).GT i t h = C.GT i t h := rfl
theorem Cl.addEq_GT : (C.addEq f g).GT i t h = C.GT i t h := rfl
end
section
variable (C : Cl) (f : Nat) (g : List W → Hs → R Ev.X)
theorem Cl.add_gl : (C.add f g).gl = C.gl := rfl
theorem Cl.add_sub : (C.add f g).sub = C.sub := rfl
theorem Cl.add_nf : (C.add f g).nf = C.nf := rfl
theorem Cl.add_xfl : (C.add f g).xfl = C.xfl := rfl
theorem Cl.add_kc : (C.add f g).kc = C.kc := rfl
theorem Cl.addMk_gl : (C.addMk f g).gl = C.gl := rfl
theorem Cl.addMk_sub : (C.addMk f g).sub = C.sub := rfl
theorem Cl.addMk_nf : (C.addMk f g).nf = C.nf := rfl
theorem Cl.addMk_xfl : (C.addMk f g).xfl = C.xfl := rfl
theorem Cl.addMk_kc : (C.addMk f g).kc = C.kc := rfl
theorem Cl.addEq_gl : (C.addEq f g).gl = C.gl := rfl
theorem Cl.addEq_sub : (C.addEq f g).sub = C.sub := rfl
theorem Cl.addEq_nf : (C.addEq f g).nf = C.nf := rfl
theorem Cl.addEq_xfl : (C.addEq f g).xfl = C.xfl := rfl
theorem Cl.addEq_kc : (C.addEq f g).kc = C.kc := rfl
end
end Ev
set_option Elab.async false
set_option linter.all false
set_option maxRecDepth 100000
set_option maxHeartbeats 4000000
/-! Own work: how the evaluator's data stand in the abstract heap. -/
namespace Ev
open PySem PySem.Spec L2

/-- the names of the text -/
structure Nm where
  fn : Nat → Str
  cl : Nat → Str
  fd : Nat → List Str
  xf : Nat → Option Str
  gl : Nat → Str
  kc : Nat → Bool
  kt : Nat → Bool
  fl : Nat → Str
  ar : Nat → Nat
  am : Nat → Nat
  ke : Nat → Bool
  kx : Nat → Bool
  tabs : List (Addr × Str)

def TupAt (K : PySem.W.Frag) (H : Hp) (B : Addr → Prop) (a : Addr) (xs : List V) : Prop :=
  (H a = some (.tup xs) ∧ ¬ B a) ∨ ∃ (o : Obj) (its : Array Value) (n : Nat), K.lookup a = some o ∧ o.cls = .type "tuple" ∧ o.data = .seq its n ∧ its.size ≤ sizeLine ∧ Vals xs its.toList
theorem TupAt.sq {K : PySem.W.Frag} {H : Hp} {B : Addr → Prop} {a : Addr} {xs : List V} (h : TupAt K H B a xs) : SqT K H a xs := h.elim (fun h => .inl (.inl h.1)) .inr
def ScrAt (K : PySem.W.Frag) (H : Hp) (B : Addr → Prop) (a : Addr) (xs : List V) : Prop :=
  (Rd H a (.lst xs) ∧ ¬ B a) ∨ ∃ (o : Obj) (its : Array Value) (n : Nat), K.lookup a = some o ∧ o.cls = .type "list" ∧ o.dict = none ∧ o.data = .seq its n ∧ its.size ≤ sizeLine ∧ Vals xs its.toList
theorem ScrAt.sq {K : PySem.W.Frag} {H : Hp} {B : Addr → Prop} {a : Addr} {xs : List V} (h : ScrAt K H B a xs) : SqL K H a xs := h.elim (fun h => .inl h.1) .inr
/-- dicts: keys numbers and texts; or tuples of such -/
def keysK : List D → Option (List Key)
  | [] => some []
  | d :: ds => match keyD d, keysK ds with
    | some k, some ks => some (k :: ks)
    | _, _ => none
def keysT : List D → Option (List (List Key))
  | [] => some []
  | .tup d :: ds => match keysK d, keysT ds with
    | some k, some ks => some (k :: ks)
    | _, _ => none
  | _ => none

section
variable (N : Nm) (K : PySem.W.Frag) (mg : Str → Option Value) (H : Hp) (B : Addr → Prop)
mutual
def Rep : D → V → Prop
  | .non, v => v = .non
  | .bl b, v => v = .bl b
  | .int i, v => v = .int i
  | .str x, v => v = .str x
  | .tup ds, v => ∃ a xs, v = .ref a ∧ TupAt K H B a xs ∧ xs.length ≤ sizeLine ∧ RepL ds xs
  | .lst ds, v => ∃ a xs, v = .ref a ∧ H a = some (.lst xs) ∧ ¬ B a ∧ xs.length ≤ sizeLine ∧ RepL ds xs
  | .dct ks vs, v => ∃ a, v = .ref a ∧ ¬ B a ∧ ((∃ kvs, H a = some (.dK kvs) ∧ keysK ks = some (kvs.map (·.1)) ∧ RepL vs (kvs.map (·.2))) ∨ ∃ kvs, H a = some (.dT kvs) ∧ keysT ks = some (kvs.map (·.1)) ∧ RepL vs (kvs.map (·.2)))
  | .ins c ds, v => ∃ a C dx xs, v = .ref a ∧ mg (N.cl c) = some (.ref C) ∧ H a = some (.ins C dx ((N.fd c).zip xs)) ∧ ¬ B a ∧ xs.length ≤ (N.fd c).length ∧ RepL ds xs
  | .fn f, v => ∃ a, v = .ref a ∧ mg (N.fn f) = some (.ref a)
  | .cls c, v => ∃ a, v = .ref a ∧ mg (N.cl c) = some (.ref a)
  | .ty n, v => v = .ty n
  | .scr ns, v => ∃ a, v = .ref a ∧ ScrAt K H B a (ns.map V.int)
def RepL : List D → List V → Prop
  | [], vs => vs = []
  | d :: ds, vs => ∃ v r, vs = v :: r ∧ Rep d v ∧ RepL ds r
end
end

section
variable {N : Nm} {K : PySem.W.Frag} {mg : Str → Option Value} {H H' : Hp} {B B' : Addr → Prop}
/-- what is not in B is kept -/
def Nt : HO → Prop
  | .tbl _ => False
  | _ => True
def Kp (H H' : Hp) (B : Addr → Prop) : Prop := ∀ a o, H a = some o → ¬ B a → Nt o → H' a = some o
/-- nothing, or a table -/
def Fs (H : Hp) (a : Addr) : Prop := H a = none ∨ ∃ ps, H a = some (.tbl ps)
theorem Fs.no {H : Hp} {a : Addr} {o : HO} (f : Fs H a) (e : H a = some o) (hn : Nt o) : False := by
  rcases f with z | ⟨ps, z⟩
  · rw [z] at e; cases e
  · rw [z] at e; cases e; exact hn
/-- what B' has more was nothing -/
def Gr (H : Hp) (B B' : Addr → Prop) : Prop := ∀ a, B' a → ¬ B a → Fs H a
theorem Kp.nb (k : Kp H H' B) (g : Gr H B B') {a : Addr} {o : HO} (e : H a = some o) (n : ¬ B a) (hn : Nt o := by exact trivial) : H' a = some o ∧ ¬ B' a :=
  ⟨k a o e n hn, fun b => (g a b n).no e hn⟩
theorem TupAt.mono {a : Addr} {xs : List V} (k : Kp H H' B) (g : Gr H B B') (h : TupAt K H B a xs) : TupAt K H' B' a xs :=
  h.elim (fun h => .inl (k.nb g h.1 h.2)) .inr
theorem ScrAt.mono {a : Addr} {xs : List V} (k : Kp H H' B) (g : Gr H B B') (h : ScrAt K H B a xs) : ScrAt K H' B' a xs := by
  rcases h with ⟨h | ⟨o, h⟩, n⟩ | h
  · exact .inl ⟨.inl (k.nb g h n).1, (k.nb g h n).2⟩
  · exact .inl ⟨.inr ⟨o, (k.nb g h n).1⟩, (k.nb g h n).2⟩
  · exact .inr h
mutual
theorem Rep.mono (k : Kp H H' B) (g : Gr H B B') : ∀ (d : D) (v : V), Rep N K mg H B d v → Rep N K mg H' B' d v
  | .non, v, h => h
  | .bl b, v, h => h
  | .int i, v, h => h
  | .str x, v, h => h
  | .tup ds, v, h => by
    unfold Rep at h ⊢
    obtain ⟨a, xs, e, t, l, r⟩ := h
    exact ⟨a, xs, e, t.mono k g, l, RepL.mono k g ds xs r⟩
  | .lst ds, v, h => by
    unfold Rep at h ⊢
    obtain ⟨a, xs, e, t, n, l, r⟩ := h
    exact ⟨a, xs, e, (k.nb g t n).1, (k.nb g t n).2, l, RepL.mono k g ds xs r⟩
  | .dct ks vs, v, h => by
    unfold Rep at h ⊢
    obtain ⟨a, e, n, h⟩ := h
    rcases h with ⟨kvs, t, q, r⟩ | ⟨kvs, t, q, r⟩
    · exact ⟨a, e, (k.nb g t n).2, .inl ⟨kvs, (k.nb g t n).1, q, RepL.mono k g vs _ r⟩⟩
    · exact ⟨a, e, (k.nb g t n).2, .inr ⟨kvs, (k.nb g t n).1, q, RepL.mono k g vs _ r⟩⟩
  | .ins c ds, v, h => by
    unfold Rep at h ⊢
    obtain ⟨a, C, dx, xs, e, m, t, n, l, r⟩ := h
    exact ⟨a, C, dx, xs, e, m, (k.nb g t n).1, (k.nb g t n).2, l, RepL.mono k g ds xs r⟩
  | .fn f, v, h => by unfold Rep at h ⊢; exact h
  | .cls f, v, h => by unfold Rep at h ⊢; exact h
  | .ty n, v, h => by unfold Rep at h ⊢; exact h
  | .scr ns, v, h => by
    unfold Rep at h ⊢
    obtain ⟨a, e, s⟩ := h
    exact ⟨a, e, s.mono k g⟩
theorem RepL.mono (k : Kp H H' B) (g : Gr H B B') : ∀ (ds : List D) (vs : List V), RepL N K mg H B ds vs → RepL N K mg H' B' ds vs
  | [], vs, h => by unfold RepL at h ⊢; exact h
  | d :: ds, vs, h => by
    unfold RepL at h ⊢
    obtain ⟨v, r, e, h1, h2⟩ := h
    exact ⟨v, r, e, Rep.mono k g d v h1, RepL.mono k g ds r h2⟩
end

theorem RepL.nil_iff {vs : List V} : RepL N K mg H B [] vs ↔ vs = [] := by unfold RepL; exact Iff.rfl
theorem RepL.cons_iff {d : D} {ds : List D} {vs : List V} : RepL N K mg H B (d :: ds) vs ↔ ∃ v r, vs = v :: r ∧ Rep N K mg H B d v ∧ RepL N K mg H B ds r := by
  constructor
  · intro h; unfold RepL at h; exact h
  · intro h; unfold RepL; exact h
theorem RepL.len : ∀ {ds : List D} {vs : List V}, RepL N K mg H B ds vs → ds.length = vs.length
  | [], vs, h => by rw [RepL.nil_iff.mp h] <;> rfl
  | d :: ds, vs, h => by
    obtain ⟨v, r, e, h1, h2⟩ := RepL.cons_iff.mp h
    rw [e, List.length_cons, List.length_cons, RepL.len h2]
theorem RepL.get : ∀ {ds : List D} {vs : List V} {i : Nat} {d : D}, RepL N K mg H B ds vs → ds[i]? = some d → ∃ v, vs[i]? = some v ∧ Rep N K mg H B d v
  | [], vs, i, d, h, e => by simp at e
  | x :: ds, vs, 0, d, h, e => by
    obtain ⟨v, r, e1, h1, h2⟩ := RepL.cons_iff.mp h
    simp at e
    subst e e1
    exact ⟨v, rfl, h1⟩
  | x :: ds, vs, i + 1, d, h, e => by
    obtain ⟨v, r, e1, h1, h2⟩ := RepL.cons_iff.mp h
    subst e1
    obtain ⟨w, hw, q⟩ := RepL.get (i := i) h2 (by simpa using e)
    exact ⟨w, by simpa using hw, q⟩
theorem RepL.getV : ∀ {ds : List D} {vs : List V} {i : Nat} {v : V}, RepL N K mg H B ds vs → vs[i]? = some v → ∃ d, ds[i]? = some d ∧ Rep N K mg H B d v := fun {ds vs i v} h e => by
  have hl := h.len
  have hi : i < vs.length := (List.getElem?_eq_some_iff.mp e).1
  have hd : i < ds.length := by omega
  obtain ⟨w, hw, q⟩ := h.get (i := i) (d := ds[i]) (by simp [hd])
  rw [e] at hw
  cases hw
  exact ⟨ds[i], by simp [hd], q⟩
theorem RepL.append : ∀ {ds es : List D} {vs ws : List V}, RepL N K mg H B ds vs → RepL N K mg H B es ws → RepL N K mg H B (ds ++ es) (vs ++ ws)
  | [], es, vs, ws, h, q => by rw [RepL.nil_iff.mp h]; exact q
  | d :: ds, es, vs, ws, h, q => by
    obtain ⟨v, r, e1, h1, h2⟩ := RepL.cons_iff.mp h
    subst e1
    exact RepL.cons_iff.mpr ⟨v, r ++ ws, rfl, h1, h2.append q⟩
theorem RepL.one {d : D} {v : V} (h : Rep N K mg H B d v) : RepL N K mg H B [d] [v] := RepL.cons_iff.mpr ⟨v, [], rfl, h, RepL.nil_iff.mpr rfl⟩
theorem RepL.take : ∀ {ds : List D} {vs : List V} (n : Nat), RepL N K mg H B ds vs → RepL N K mg H B (ds.take n) (vs.take n)
  | _, _, 0, _ => by simp [RepL.nil_iff]
  | [], vs, n + 1, h => by rw [RepL.nil_iff.mp h]; simp [RepL.nil_iff]
  | d :: ds, vs, n + 1, h => by
    obtain ⟨v, r, e1, h1, h2⟩ := RepL.cons_iff.mp h
    subst e1
    exact RepL.cons_iff.mpr ⟨v, r.take n, rfl, h1, h2.take n⟩
theorem RepL.drop : ∀ {ds : List D} {vs : List V} (n : Nat), RepL N K mg H B ds vs → RepL N K mg H B (ds.drop n) (vs.drop n)
  | _, _, 0, h => by simpa using h
  | [], vs, n + 1, h => by rw [RepL.nil_iff.mp h]; simp [RepL.nil_iff]
  | d :: ds, vs, n + 1, h => by
    obtain ⟨v, r, e1, h1, h2⟩ := RepL.cons_iff.mp h
    subst e1
    simpa using h2.drop n
theorem RepL.set : ∀ {ds : List D} {vs : List V} {i : Nat} {d : D} {v : V}, RepL N K mg H B ds vs → Rep N K mg H B d v → RepL N K mg H B (ds.set i d) (vs.set i v)
  | [], vs, i, d, v, h, q => by rw [RepL.nil_iff.mp h]; simp [RepL.nil_iff]
  | x :: ds, vs, 0, d, v, h, q => by
    obtain ⟨w, r, e1, h1, h2⟩ := RepL.cons_iff.mp h
    subst e1
    exact RepL.cons_iff.mpr ⟨v, r, rfl, q, h2⟩
  | x :: ds, vs, i + 1, d, v, h, q => by
    obtain ⟨w, r, e1, h1, h2⟩ := RepL.cons_iff.mp h
    subst e1
    exact RepL.cons_iff.mpr ⟨w, r.set i v, rfl, h1, h2.set q⟩
/-- of one kind -/
theorem RepL.intsV : ∀ {ds : List D} {vs : List V} {ns : List Int}, RepL N K mg H B ds vs → intsD ds = some ns → vs = ns.map V.int
  | [], vs, ns, h, e => by
    rw [RepL.nil_iff.mp h]
    simp [intsD] at e
    rw [e] <;> rfl
  | d :: ds, vs, ns, h, e => by
    obtain ⟨w, r, e1, h1, h2⟩ := RepL.cons_iff.mp h
    cases d with
    | int i =>
      simp only [intsD, Option.map_eq_some_iff] at e
      obtain ⟨ms, e2, e3⟩ := e
      unfold Rep at h1
      rw [e1, h1, ← e3, RepL.intsV h2 e2] <;> rfl
    | _ => simp [intsD] at e
theorem RepL.blsV : ∀ {ds : List D} {vs : List V} {ns : List Bool}, RepL N K mg H B ds vs → blsD ds = some ns → vs = ns.map V.bl
  | [], vs, ns, h, e => by
    rw [RepL.nil_iff.mp h]
    simp [blsD] at e
    rw [e] <;> rfl
  | d :: ds, vs, ns, h, e => by
    obtain ⟨w, r, e1, h1, h2⟩ := RepL.cons_iff.mp h
    cases d with
    | bl i =>
      simp only [blsD, Option.map_eq_some_iff] at e
      obtain ⟨ms, e2, e3⟩ := e
      unfold Rep at h1
      rw [e1, h1, ← e3, RepL.blsV h2 e2] <;> rfl
    | _ => simp [blsD] at e
theorem RepL.strsV : ∀ {ds : List D} {vs : List V} {ns : List Str}, RepL N K mg H B ds vs → strsD ds = some ns → vs = ns.map V.str
  | [], vs, ns, h, e => by
    rw [RepL.nil_iff.mp h]
    simp [strsD] at e
    rw [e] <;> rfl
  | d :: ds, vs, ns, h, e => by
    obtain ⟨w, r, e1, h1, h2⟩ := RepL.cons_iff.mp h
    cases d with
    | str i =>
      simp only [strsD, Option.map_eq_some_iff] at e
      obtain ⟨ms, e2, e3⟩ := e
      unfold Rep at h1
      rw [e1, h1, ← e3, RepL.strsV h2 e2] <;> rfl
    | _ => simp [strsD] at e
theorem RepL.ints : ∀ {ns : List Int}, RepL N K mg H B (ns.map D.int) (ns.map V.int)
  | [] => RepL.nil_iff.mpr rfl
  | n :: ns => RepL.cons_iff.mpr ⟨_, _, rfl, by unfold Rep; rfl, RepL.ints⟩
theorem RepL.strs : ∀ {ns : List Str}, RepL N K mg H B (ns.map D.str) (ns.map V.str)
  | [] => RepL.nil_iff.mpr rfl
  | n :: ns => RepL.cons_iff.mpr ⟨_, _, rfl, by unfold Rep; rfl, RepL.strs⟩
theorem RepL.flatAll : ∀ {ds : List D} {vs : List V}, RepL N K mg H B ds vs → ds.all flatD = true → vs.all flatV = true
  | [], vs, h, e => by rw [RepL.nil_iff.mp h] <;> rfl
  | d :: ds, vs, h, e => by
    obtain ⟨w, r, e1, h1, h2⟩ := RepL.cons_iff.mp h
    subst e1
    simp only [List.all_cons, Bool.and_eq_true] at e ⊢
    refine ⟨?_, h2.flatAll e.2⟩
    have e0 := e.1
    cases d <;> simp [flatD] at e0 <;> (unfold Rep at h1; subst h1; rfl)
theorem eqF_V {d e : D} {v u : V} (hd : Rep N K mg H B d v) (he : Rep N K mg H B e u) (fd : flatD d = true) (fe : flatD e = true) : eqV v u = eqF d e := by
  cases d <;> simp [flatD] at fd <;> cases e <;> simp [flatD] at fe <;> (unfold Rep at hd he; subst hd he; rfl)
theorem RepL.any : ∀ {ds : List D} {vs : List V} {d : D} {v : V}, RepL N K mg H B ds vs → Rep N K mg H B d v → flatD d = true → ds.all flatD = true → inV v vs = ds.any (fun y => eqF y d)
  | [], vs, d, v, h, q, f, e => by rw [RepL.nil_iff.mp h] <;> rfl
  | x :: ds, vs, d, v, h, q, f, e => by
    obtain ⟨w, r, e1, h1, h2⟩ := RepL.cons_iff.mp h
    subst e1
    simp only [List.all_cons, Bool.and_eq_true] at e
    unfold inV
    rw [List.any_cons, List.any_cons, eqF_V h1 q e.1 f]
    have := h2.any q f e.2
    unfold inV at this
    rw [this]
end
end Ev
set_option Elab.async false
set_option linter.all false
set_option maxRecDepth 100000
set_option maxHeartbeats 4000000
/-! Own work: states, what stands behind an expression. -/
namespace Ev
open PySem PySem.Spec L2

/-- what may be written -/
def Wr : HO → Prop
  | .lst _ => True
  | .ins _ _ _ => True
  | .dK _ => True
  | .dT _ => True
  | _ => False
theorem Wr.nt {o : HO} (h : Wr o) : Nt o := by cases o <;> first | trivial | exact h.elim
/-- what a slot of the thunk, of a caught error holds -/
structure Pm where
  th : List Addr → V → Hp → Prop
  er : List Addr → Nat → List D → V → Hp → Prop
abbrev InR (ρ : List Addr) : Addr → Prop := fun a => a ∈ ρ
/-- shut: read alone -/
def Shut (hp : Hs) (j : Nat) : Prop := ∃ m, hp[j]? = some m ∧ MO.shut m = true
/-- what is not in ρ, and what is shut, is kept -/
def Kp2 (ρ : List Addr) (hp : Hs) (H H' : Hp) : Prop := ∀ a o, H a = some o → (∀ j, ρ[j]? = some a → Shut hp j) → Nt o → H' a = some o
structure Pm.Ok (Θ : Pm) : Prop where
  th : ∀ (ρ ρ' : List Addr) (H H' : Hp) v, Θ.th ρ v H → Kp H H' (InR ρ) → Gr H (InR ρ) (InR ρ') → (∃ ex, ρ' = ρ ++ ex) → Θ.th ρ' v H'
  er : ∀ (ρ ρ' : List Addr) (H H' : Hp) c vs v, Θ.er ρ c vs v H → Kp H H' (InR ρ) → Gr H (InR ρ) (InR ρ') → (∃ ex, ρ' = ρ ++ ex) → Θ.er ρ' c vs v H'

section
variable (N : Nm) (K : PySem.W.Frag) (mg : Str → Option Value) (Θ : Pm) (ρ : List Addr) (H : Hp)
def RW : W → V → Prop
  | .d d, v => Rep N K mg H (InR ρ) d v
  | .r j, v => ∃ a, ρ[j]? = some a ∧ v = .ref a
  | .th, v => Θ.th ρ v H
  | .ex c vs, v => Θ.er ρ c vs v H
def RWs : List W → List V → Prop
  | [], vs => vs = []
  | w :: ws, vs => ∃ v r, vs = v :: r ∧ RW N K mg Θ ρ H w v ∧ RWs ws r
end
def MoR (N : Nm) (K : PySem.W.Frag) (mg : Str → Option Value) (Θ : Pm) (ρ : List Addr) (H : Hp) (a : Addr) : MO → Prop
  | .lst ds => ∃ xs, H a = some (.lst xs) ∧ xs.length ≤ sizeLine ∧ RepL N K mg H (InR ρ) ds xs
  | .lk ds => ∃ xs, H a = some (.lst xs) ∧ xs.length ≤ sizeLine ∧ RepL N K mg H (InR ρ) ds xs
  | .dct ks vs => (∃ kvs, H a = some (.dK kvs) ∧ keysK ks = some (kvs.map (·.1)) ∧ RepL N K mg H (InR ρ) vs (kvs.map (·.2))) ∨ ∃ kvs, H a = some (.dT kvs) ∧ keysT ks = some (kvs.map (·.1)) ∧ RepL N K mg H (InR ρ) vs (kvs.map (·.2))
  | .ins c ds => ∃ C dx xs, mg (N.cl c) = some (.ref C) ∧ H a = some (.ins C dx ((N.fd c).zip xs)) ∧ xs.length ≤ (N.fd c).length ∧ RepL N K mg H (InR ρ) ds xs
  | .dead => True
  | .bn => True
section
variable (N : Nm) (K : PySem.W.Frag) (mg : Str → Option Value) (Θ : Pm) (ρ : List Addr) (H : Hp)
structure HpR (hp : Hs) : Prop where
  len : ρ.length = hp.length
  nd : ρ.Nodup
  tb : LamX.Tabs N.tabs H
  at_ : ∀ (j : Nat) (a : Addr) (m : MO), ρ[j]? = some a → hp[j]? = some m → (∃ o, H a = some o ∧ Wr o) ∧ MoR N K mg Θ ρ H a m
def StR (env : Env) (σ : St) : Prop := env.length = σ.length ∧ ∀ (i : Nat) (w : W), env[i]? = some (some w) → ∃ v, σ[i]? = some (some v) ∧ RW N K mg Θ ρ H w v
/-- what an expression came to, begun at H0 -/
def RX (H0 : Hp) : X → V → Prop
  | .d d, v => Rep N K mg H (InR ρ) d v
  | .r j, v => ∃ a, ρ[j]? = some a ∧ v = .ref a
  | .u m, v => ∃ a, v = .ref a ∧ a ∉ ρ ∧ Fs H0 a ∧ (∃ o, H a = some o ∧ Wr o) ∧ MoR N K mg Θ ρ H a m
end
/-- from there to here -/
structure Aft (N : Nm) (K : PySem.W.Frag) (mg : Str → Option Value) (Θ : Pm) (ρ : List Addr) (hp : Hs) (ρ' : List Addr) (hp' : Hs) (H H' : Hp) : Prop where
  pre : ∃ ex, ρ' = ρ ++ ex ∧ ∀ a ∈ ex, Fs H a
  kp : Kp2 ρ hp H H'
  dom : ∀ a, Fs H' a → Fs H a
  shut : ∀ (j : Nat) (m : MO), hp[j]? = some m → MO.shut m = true → hp'[j]? = some m
  hpr : HpR N K mg Θ ρ' H' hp'

section
variable {N : Nm} {K : PySem.W.Frag} {mg : Str → Option Value} {Θ : Pm} {ρ ρ' ρ2 : List Addr} {hp hp' hp2 : Hs} {H H' H2 : Hp}
theorem Aft.kpB (a : Aft N K mg Θ ρ hp ρ' hp' H H') : Kp H H' (InR ρ) := fun b o e n hn => a.kp b o e (fun j q => absurd (List.mem_of_getElem? q) n) hn
theorem Aft.gr (a : Aft N K mg Θ ρ hp ρ' hp' H H') : Gr H (InR ρ) (InR ρ') := fun b h n => by
  obtain ⟨ex, rfl, q⟩ := a.pre
  rcases List.mem_append.mp h with z | z
  · exact absurd z n
  · exact q b z
theorem Aft.refl (h : HpR N K mg Θ ρ H hp) : Aft N K mg Θ ρ hp ρ hp H H := ⟨⟨[], by simp, fun _ z => by cases z⟩, fun _ _ e _ _ => e, fun _ e => e, fun _ _ e _ => e, h⟩
theorem Aft.get (a : Aft N K mg Θ ρ hp ρ' hp' H H') {j : Nat} {b : Addr} (e : ρ[j]? = some b) : ρ'[j]? = some b := by
  obtain ⟨ex, rfl, q⟩ := a.pre
  rw [List.getElem?_append_left (List.getElem?_eq_some_iff.mp e).1]
  exact e
theorem Aft.trans (a : Aft N K mg Θ ρ hp ρ' hp' H H') (b : Aft N K mg Θ ρ' hp' ρ2 hp2 H' H2) : Aft N K mg Θ ρ hp ρ2 hp2 H H2 where
  pre := by
    obtain ⟨ex, rfl, q⟩ := a.pre
    obtain ⟨ex2, rfl, q2⟩ := b.pre
    refine ⟨ex ++ ex2, by simp, fun c hc => ?_⟩
    rcases List.mem_append.mp hc with z | z
    · exact q c z
    · exact a.dom c (q2 c z)
  kp := fun c o e h hn => by
    refine b.kp c o (a.kp c o e h hn) (fun j hj => ?_) hn
    obtain ⟨ex, rfl, q⟩ := a.pre
    by_cases hl : j < ρ.length
    · rw [List.getElem?_append_left hl] at hj
      obtain ⟨xs, z, z2⟩ := h j hj
      exact ⟨xs, a.shut j xs z z2, z2⟩
    · rw [List.getElem?_append_right (by omega)] at hj
      have := q c (List.mem_of_getElem? hj)
      exact (this.no e hn).elim
  dom := fun c e => a.dom c (b.dom c e)
  shut := fun j xs e q => b.shut j xs (a.shut j xs e q) q
  hpr := b.hpr
theorem RW.mono (hΘ : Θ.Ok) (a : Aft N K mg Θ ρ hp ρ' hp' H H') {w : W} {v : V} (h : RW N K mg Θ ρ H w v) : RW N K mg Θ ρ' H' w v := by
  cases w with
  | d d => exact Rep.mono a.kpB a.gr d v h
  | r j =>
    obtain ⟨b, e, z⟩ := h
    exact ⟨b, a.get e, z⟩
  | th => exact hΘ.th ρ ρ' H H' v h a.kpB a.gr (let ⟨ex, e, _⟩ := a.pre; ⟨ex, e⟩)
  | ex c vs => exact hΘ.er ρ ρ' H H' c vs v h a.kpB a.gr (let ⟨ex, e, _⟩ := a.pre; ⟨ex, e⟩)
theorem StR.mono (hΘ : Θ.Ok) (a : Aft N K mg Θ ρ hp ρ' hp' H H') {env : Env} {σ : St} (h : StR N K mg Θ ρ H env σ) : StR N K mg Θ ρ' H' env σ :=
  ⟨h.1, fun i w e => let ⟨v, e1, r⟩ := h.2 i w e; ⟨v, e1, r.mono hΘ a⟩⟩
/-- things other than those of ρ -/
theorem RWs.mono (hΘ : Θ.Ok) (a : Aft N K mg Θ ρ hp ρ' hp' H H') : ∀ {ws : List W} {vs : List V}, RWs N K mg Θ ρ H ws vs → RWs N K mg Θ ρ' H' ws vs
  | [], vs, h => h
  | w :: ws, vs, h => by
    obtain ⟨v, r, e, h1, h2⟩ := h
    exact ⟨v, r, e, h1.mono hΘ a, RWs.mono hΘ a h2⟩
theorem MoR.mono (hΘ : Θ.Ok) (a : Aft N K mg Θ ρ hp ρ' hp' H H') {b : Addr} {m : MO} (hb : b ∉ ρ) (h : MoR N K mg Θ ρ H b m) : MoR N K mg Θ ρ' H' b m := by
  cases m with
  | lst ds => obtain ⟨xs, e, l, r⟩ := h; exact ⟨xs, a.kpB b _ e hb trivial, l, RepL.mono a.kpB a.gr ds xs r⟩
  | lk ds => obtain ⟨xs, e, l, r⟩ := h; exact ⟨xs, a.kpB b _ e hb trivial, l, RepL.mono a.kpB a.gr ds xs r⟩
  | dct ks vs =>
    rcases h with ⟨kvs, e, l, r⟩ | ⟨kvs, e, l, r⟩
    · exact .inl ⟨kvs, a.kpB b _ e hb trivial, l, RepL.mono a.kpB a.gr vs _ r⟩
    · exact .inr ⟨kvs, a.kpB b _ e hb trivial, l, RepL.mono a.kpB a.gr vs _ r⟩
  | ins c ws => obtain ⟨C, dx, xs, m, e, l, r⟩ := h; exact ⟨C, dx, xs, m, a.kpB b _ e hb trivial, l, RepL.mono a.kpB a.gr ws xs r⟩
  | dead => trivial
  | bn => trivial
/-- further on, within one ρ -/
theorem RX.mono (hΘ : Θ.Ok) (a : Aft N K mg Θ ρ hp ρ hp' H H') {H0 : Hp} {x : X} {v : V} (h : RX N K mg Θ ρ H H0 x v) : RX N K mg Θ ρ H' H0 x v := by
  cases x with
  | d d => exact Rep.mono a.kpB a.gr d v h
  | r j => exact h
  | u m =>
    obtain ⟨b, e, n, z, nn, r⟩ := h
    exact ⟨b, e, n, z, (let ⟨o, e1, w1⟩ := nn; ⟨o, a.kpB b o e1 n w1.nt, w1⟩), r.mono hΘ a n⟩
/-- begun sooner -/
theorem RX.sooner {Hs0 H0 : Hp} {x : X} {v : V} (hd : ∀ a, Fs H0 a → Fs Hs0 a) (h : RX N K mg Θ ρ H H0 x v) : RX N K mg Θ ρ H Hs0 x v := by
  cases x with
  | d d => exact h
  | r j => exact h
  | u m =>
    obtain ⟨b, e, n, z, nn, r⟩ := h
    exact ⟨b, e, n, hd b z, nn, r⟩

/-! ### read just now -/
section
variable (N K mg H)
def RepR (B : Addr → Prop) : D → V → Prop
  | .lst ds, v => ∃ a xs, v = .ref a ∧ H a = some (.lst xs) ∧ xs.length ≤ sizeLine ∧ RepL N K mg H B ds xs
  | .dct ks vs, v => ∃ a, v = .ref a ∧ ((∃ kvs, H a = some (.dK kvs) ∧ keysK ks = some (kvs.map (·.1)) ∧ RepL N K mg H B vs (kvs.map (·.2))) ∨ ∃ kvs, H a = some (.dT kvs) ∧ keysT ks = some (kvs.map (·.1)) ∧ RepL N K mg H B vs (kvs.map (·.2)))
  | .ins c ds, v => ∃ a C dx xs, v = .ref a ∧ mg (N.cl c) = some (.ref C) ∧ H a = some (.ins C dx ((N.fd c).zip xs)) ∧ xs.length ≤ (N.fd c).length ∧ RepL N K mg H B ds xs
  | d, v => Rep N K mg H B d v
end
theorem Rep.read {B : Addr → Prop} {d : D} {v : V} (h : Rep N K mg H B d v) : RepR N K mg H B d v := by
  cases d with
  | lst ds => unfold Rep at h; obtain ⟨a, xs, e, t, n, l, r⟩ := h; exact ⟨a, xs, e, t, l, r⟩
  | dct ks vs => unfold Rep at h; obtain ⟨a, e, n, r⟩ := h; exact ⟨a, e, r⟩
  | ins c ds => unfold Rep at h; obtain ⟨a, C, dx, xs, e, m, t, n, l, r⟩ := h; exact ⟨a, C, dx, xs, e, m, t, l, r⟩
  | _ => exact h
theorem MoR.rd {a : Addr} {m : MO} {d : D} (h : MoR N K mg Θ ρ H a m) (e : m.rd = some d) : RepR N K mg H (InR ρ) d (.ref a) := by
  cases m with
  | lst ds => cases e; obtain ⟨xs, h1, l, r⟩ := h; exact ⟨a, xs, rfl, h1, l, r⟩
  | lk ds => cases e; obtain ⟨xs, h1, l, r⟩ := h; exact ⟨a, xs, rfl, h1, l, r⟩
  | dct ks vs => cases e; exact ⟨a, rfl, h⟩
  | ins c ws => cases e; obtain ⟨C, dx, xs, m1, h1, l, r⟩ := h; exact ⟨a, C, dx, xs, rfl, m1, h1, l, r⟩
  | dead => cases e
  | bn => cases e
theorem MoR.toD {a : Addr} {m : MO} {d : D} (h : MoR N K mg Θ ρ H a m) (hb : a ∉ ρ) (e : m.toD = some d) : Rep N K mg H (InR ρ) d (.ref a) := by
  cases m with
  | lst ds => cases e; obtain ⟨xs, h1, l, r⟩ := h; unfold Rep; exact ⟨a, xs, rfl, h1, hb, l, r⟩
  | lk ds => cases e
  | dct ks vs => cases e; unfold Rep; exact ⟨a, rfl, hb, h⟩
  | ins c ws => cases e; obtain ⟨C, dx, xs, m1, h1, l, r⟩ := h; unfold Rep; exact ⟨a, C, dx, xs, rfl, m1, h1, hb, l, r⟩
  | dead => cases e
  | bn => cases e
theorem RX.rd {H0 : Hp} {x : X} {v : V} {d : D} (h : RX N K mg Θ ρ H H0 x v) (q : HpR N K mg Θ ρ H hp) (e : x.rd hp = some d) : RepR N K mg H (InR ρ) d v := by
  cases x with
  | d z => cases e; exact Rep.read h
  | r j =>
    obtain ⟨a, ea, ev⟩ := h
    have e2 : (match hp[j]? with | some m => m.rd | none => none) = some d := e
    cases hm : hp[j]? with
    | none => rw [hm] at e2; cases e2
    | some m =>
      rw [hm] at e2
      subst ev
      exact (q.at_ j a m ea hm).2.rd e2
  | u m =>
    obtain ⟨a, ea, n, z, nn, r⟩ := h
    subst ea
    exact r.rd e
theorem RX.toD {H0 : Hp} {x : X} {v : V} {d : D} (h : RX N K mg Θ ρ H H0 x v) (e : x.toD = some d) : Rep N K mg H (InR ρ) d v := by
  cases x with
  | d z => cases e; exact h
  | r j => cases e
  | u m =>
    obtain ⟨a, ea, n, z, nn, r⟩ := h
    subst ea
    exact r.toD n e
theorem RX.toW {H0 : Hp} {x : X} {v : V} {w : W} (h : RX N K mg Θ ρ H H0 x v) (e : x.toW = some w) : RW N K mg Θ ρ H w v := by
  cases x with
  | d z => cases e; exact h
  | r j => cases e; exact h
  | u m =>
    have e2 : m.toD.map W.d = some w := e
    obtain ⟨d, e3, e4⟩ := Option.map_eq_some_iff.mp e2
    subst e4
    exact RX.toD (x := .u m) h e3

/-! ### new things, in the abstract heap -/
theorem HpR.nin (q : HpR N K mg Θ ρ H hp) {p : Addr} (hp0 : H p = none) : p ∉ ρ := fun hm => by
  obtain ⟨j, hj, e⟩ := List.mem_iff_getElem.mp hm
  have hj2 : j < hp.length := by rw [← q.len]; exact hj
  exact (q.at_ j p hp[j] (by rw [List.getElem?_eq_getElem hj, e]) (by simp [hj2])).1.elim fun o h => by rw [hp0] at h; cases h.1
theorem kp_upd {p : Addr} {o : HO} (hp0 : H p = none) (B : Addr → Prop) : Kp H (upd H p o) B := fun a u e _ _ => by rw [upd_ne (ne_of_none e hp0)]; exact e
theorem gr_same {B : Addr → Prop} : Gr H B B := fun _ h n => absurd h n
theorem RW.upd (hΘ : Θ.Ok) {p : Addr} {o : HO} (hp0 : H p = none) {w : W} {v : V} (h : RW N K mg Θ ρ H w v) : RW N K mg Θ ρ (upd H p o) w v := by
  cases w with
  | d d => exact Rep.mono (kp_upd hp0 _) gr_same d v h
  | r j => exact h
  | th => exact hΘ.th ρ ρ _ _ v h (kp_upd hp0 _) gr_same ⟨[], by simp⟩
  | ex c vs => exact hΘ.er ρ ρ _ _ c vs v h (kp_upd hp0 _) gr_same ⟨[], by simp⟩
theorem RWs.upd (hΘ : Θ.Ok) {p : Addr} {o : HO} (hp0 : H p = none) : ∀ {ws : List W} {vs : List V}, RWs N K mg Θ ρ H ws vs → RWs N K mg Θ ρ (upd H p o) ws vs
  | [], vs, h => h
  | w :: ws, vs, h => by
    obtain ⟨v, r, e, h1, h2⟩ := h
    exact ⟨v, r, e, RW.upd hΘ hp0 h1, RWs.upd hΘ hp0 h2⟩
theorem RepL.upd {B : Addr → Prop} {p : Addr} {o : HO} (hp0 : H p = none) {ds : List D} {vs : List V} (h : RepL N K mg H B ds vs) : RepL N K mg (L2.upd H p o) B ds vs := RepL.mono (kp_upd hp0 _) gr_same ds vs h
theorem Rep.upd {B : Addr → Prop} {p : Addr} {o : HO} (hp0 : H p = none) {ds : D} {vs : V} (h : Rep N K mg H B ds vs) : Rep N K mg (L2.upd H p o) B ds vs := Rep.mono (kp_upd hp0 _) gr_same ds vs h
theorem MoR.upd (hΘ : Θ.Ok) {p : Addr} {o : HO} (hp0 : H p = none) {b : Addr} {m : MO} (h : MoR N K mg Θ ρ H b m) : MoR N K mg Θ ρ (L2.upd H p o) b m := by
  have k : ∀ a u, H a = some u → L2.upd H p o a = some u := fun a u e => by rw [upd_ne (ne_of_none e hp0)]; exact e
  cases m with
  | lst ds => obtain ⟨xs, e, l, r⟩ := h; exact ⟨xs, k _ _ e, l, r.upd hp0⟩
  | lk ds => obtain ⟨xs, e, l, r⟩ := h; exact ⟨xs, k _ _ e, l, r.upd hp0⟩
  | dct ks vs =>
    rcases h with ⟨kvs, e, l, r⟩ | ⟨kvs, e, l, r⟩
    · exact .inl ⟨kvs, k _ _ e, l, r.upd hp0⟩
    · exact .inr ⟨kvs, k _ _ e, l, r.upd hp0⟩
  | ins c ws => obtain ⟨C, dx, xs, m, e, l, r⟩ := h; exact ⟨C, dx, xs, m, k _ _ e, l, r.upd hp0⟩
  | dead => trivial
  | bn => trivial
theorem HpR.upd (hΘ : Θ.Ok) (q : HpR N K mg Θ ρ H hp) {p : Addr} {o : HO} (hp0 : H p = none) : HpR N K mg Θ ρ (L2.upd H p o) hp :=
  ⟨q.len, q.nd, q.tb.ext fun b u e => by rw [upd_ne (ne_of_none e hp0)]; exact e, fun j a m e1 e2 => by
    obtain ⟨h1, h2⟩ := q.at_ j a m e1 e2
    obtain ⟨o1, h1, w1⟩ := h1
    exact ⟨⟨o1, by rw [upd_ne (ne_of_none h1 hp0)]; exact h1, w1⟩, h2.upd hΘ hp0⟩⟩
/-- a new thing is laid -/
theorem Aft.new (hΘ : Θ.Ok) (q : HpR N K mg Θ ρ H hp) {p : Addr} {o : HO} (hp0 : H p = none) : Aft N K mg Θ ρ hp ρ hp H (L2.upd H p o) :=
  ⟨⟨[], by simp, fun _ z => by cases z⟩, fun a u e _ _ => by rw [upd_ne (ne_of_none e hp0)]; exact e, fun a e => by
    by_cases z : a = p
    · rw [z]; exact .inl hp0
    · unfold Fs at e ⊢; rw [upd_ne z] at e; exact e, fun _ _ e _ => e, q.upd hΘ hp0⟩
theorem HpR.beside (q : HpR N K mg Θ ρ H hp) {p : Addr} {o : HO} {m : MO} (hp0 : H p = none) (hw : Wr o) (hm : MoR N K mg Θ (ρ ++ [p]) (L2.upd H p o) p m) : HpR N K mg Θ (ρ ++ [p]) (L2.upd H p o) (hp ++ [m]) := by
  have np := q.nin hp0
  refine ⟨by rw [List.length_append, List.length_append, q.len]; rfl, ?_, q.tb.ext fun b u e => by rw [upd_ne (ne_of_none e hp0)]; exact e, fun j b mo e1 e2 => ?_⟩
  · rw [List.nodup_append]
    refine ⟨q.nd, by simp, fun x hx y hy => ?_⟩
    simp at hy
    rw [hy]
    exact fun z => np (by rw [← z]; exact hx)
  · by_cases hj : j < ρ.length
    · rw [List.getElem?_append_left hj] at e1
      rw [List.getElem?_append_left (by rw [← q.len]; exact hj)] at e2
      obtain ⟨h1, h2⟩ := q.at_ j b mo e1 e2
      have nb : b ≠ p := fun z => by subst z; exact np (List.mem_of_getElem? e1)
      obtain ⟨o1, h1, w1⟩ := h1
      refine ⟨⟨o1, by rw [upd_ne nb]; exact h1, w1⟩, ?_⟩
      have k : Kp H (L2.upd H p o) (InR ρ) := kp_upd hp0 _
      have g : Gr H (InR ρ) (InR (ρ ++ [p])) := fun x hx nx => by
        rcases List.mem_append.mp hx with z | z
        · exact absurd z nx
        · simp at z; rw [z]; exact .inl hp0
      have ku : ∀ x u, H x = some u → L2.upd H p o x = some u := fun x u e => by rw [upd_ne (ne_of_none e hp0)]; exact e
      cases mo with
      | lst ds => obtain ⟨xs, e, l, r⟩ := h2; exact ⟨xs, ku _ _ e, l, RepL.mono k g ds xs r⟩
      | lk ds => obtain ⟨xs, e, l, r⟩ := h2; exact ⟨xs, ku _ _ e, l, RepL.mono k g ds xs r⟩
      | dct ks vs =>
        rcases h2 with ⟨kvs, e, l, r⟩ | ⟨kvs, e, l, r⟩
        · exact .inl ⟨kvs, ku _ _ e, l, RepL.mono k g vs _ r⟩
        · exact .inr ⟨kvs, ku _ _ e, l, RepL.mono k g vs _ r⟩
      | ins c ds => obtain ⟨C, dx, xs, m1, e, l, r⟩ := h2; exact ⟨C, dx, xs, m1, ku _ _ e, l, RepL.mono k g ds xs r⟩
      | dead => trivial
      | bn => trivial
    · have hlj : j < (ρ ++ [p]).length := (List.getElem?_eq_some_iff.mp e1).1
      rw [List.length_append] at hlj
      have ej : j = ρ.length := by simp at hlj; omega
      subst ej
      rw [List.getElem?_append_right (Nat.le_refl _)] at e1
      rw [q.len, List.getElem?_append_right (Nat.le_refl _)] at e2
      simp at e1 e2
      subst e1 e2
      exact ⟨⟨o, upd_same, hw⟩, hm⟩
theorem gr_one {p : Addr} (hp0 : H p = none) : Gr H (InR ρ) (InR (ρ ++ [p])) := fun x hx nx => by
  rcases List.mem_append.mp hx with z | z
  · exact absurd z nx
  · simp at z; rw [z]; exact .inl hp0
/-- a new thing is no one's yet -/
def Fr (N : Nm) (K : PySem.W.Frag) (mg : Str → Option Value) (Θ : Pm) (ρ : List Addr) (H : Hp) (hp : Hs) : X → V → Prop
  | .u m, v => ∀ a, v = .ref a → HpR N K mg Θ (ρ ++ [a]) H (hp ++ [m])
  | .d _, _ => True
  | .r _, _ => True
def RXF (N : Nm) (K : PySem.W.Frag) (mg : Str → Option Value) (Θ : Pm) (ρ : List Addr) (H : Hp) (hp : Hs) (H0 : Hp) (x : X) (v : V) : Prop := RX N K mg Θ ρ H H0 x v ∧ Fr N K mg Θ ρ H hp x v
theorem RXF.sooner {Hs0 H0 : Hp} {x : X} {v : V} (hd : ∀ a, Fs H0 a → Fs Hs0 a) (h : RXF N K mg Θ ρ H hp H0 x v) : RXF N K mg Θ ρ H hp Hs0 x v := ⟨h.1.sooner hd, h.2⟩
theorem tabs_wr {T : List (Addr × Str)} {H : Hp} {a : Addr} {o o' : HO} (t : LamX.Tabs T H) (e : H a = some o) (hw : Wr o) : LamX.Tabs T (L2.upd H a o') := fun p hp => by
  obtain ⟨ps, h1, h2, h3⟩ := t p hp
  refine ⟨ps, ?_, h2, fun pos cv hc => ?_⟩
  · rw [upd_ne (fun z => by rw [z, e] at h1; cases h1; exact hw)]; exact h1
  · obtain ⟨c, e1, e2⟩ := h3 pos cv hc
    exact ⟨c, e1, by rw [upd_ne (fun z => by rw [z, e] at e2; unfold LamX.CodeO at e2; cases e2; exact hw)]; exact e2⟩
theorem rx_newM (q : HpR N K mg Θ ρ H hp) {p : Addr} {o : HO} {m : MO} (hp0 : H p = none) (hw : Wr o) (h1 : MoR N K mg Θ ρ (L2.upd H p o) p m) (h2 : MoR N K mg Θ (ρ ++ [p]) (L2.upd H p o) p m) : RXF N K mg Θ ρ (L2.upd H p o) hp H (.u m) (.ref p) :=
  ⟨⟨p, rfl, q.nin hp0, .inl hp0, ⟨o, upd_same, hw⟩, h1⟩, fun a e => by cases e; exact q.beside hp0 hw h2⟩
theorem rx_newL (q : HpR N K mg Θ ρ H hp) {p : Addr} {xs : List V} {ds : List D} (hp0 : H p = none) (l : xs.length ≤ sizeLine) (r : RepL N K mg H (InR ρ) ds xs) : RXF N K mg Θ ρ (L2.upd H p (.lst xs)) hp H (.u (.lst ds)) (.ref p) :=
  rx_newM q hp0 trivial ⟨xs, upd_same, l, r.upd hp0⟩ ⟨xs, upd_same, l, RepL.mono (kp_upd hp0 _) (gr_one hp0) _ _ r⟩
theorem rx_newT (q : HpR N K mg Θ ρ H hp) {p : Addr} {xs : List V} {ds : List D} {H0 : Hp} (hp0 : H p = none) (l : xs.length ≤ sizeLine) (r : RepL N K mg H (InR ρ) ds xs) : RXF N K mg Θ ρ (L2.upd H p (.tup xs)) hp H0 (.d (.tup ds)) (.ref p) := by
  refine ⟨?_, trivial⟩
  show Rep _ _ _ _ _ _ _
  unfold Rep
  exact ⟨p, xs, rfl, .inl ⟨upd_same, q.nin hp0⟩, l, r.upd hp0⟩
end
end Ev
set_option Elab.async false
set_option linter.all false
set_option maxRecDepth 100000
set_option maxHeartbeats 4000000
/-! Own work: operators. -/
namespace Ev
open PySem PySem.Spec L2

section
variable (N : Nm) (Θ : Pm) (X : Cx)
/-- an operator by what the evaluator makes of it -/
def rOp (f : D → D → Option Ev.X) : R2 := fun v u H Q => ∃ ρ hp d e z, HpR N X.K X.mg Θ ρ H hp ∧ RepR N X.K X.mg H (InR ρ) d v ∧ RepR N X.K X.mg H (InR ρ) e u ∧ f d e = some z ∧
  ∀ w H', Aft N X.K X.mg Θ ρ hp ρ hp H H' → RXF N X.K X.mg Θ ρ H' hp H z w → Q w H'
def rOp1 (f : D → Option Ev.X) : V → Hp → VK → Prop := fun v H Q => ∃ ρ hp d z, HpR N X.K X.mg Θ ρ H hp ∧ RepR N X.K X.mg H (InR ρ) d v ∧ f d = some z ∧
  ∀ w H', Aft N X.K X.mg Θ ρ hp ρ hp H H' → RXF N X.K X.mg Θ ρ H' hp H z w → Q w H'
end
section
variable {N : Nm} {Θ : Pm} {X : Cx}
theorem rx_int {ρ : List Addr} {hp : Hs} {H H0 : Hp} (i : Int) : RXF N X.K X.mg Θ ρ H hp H0 (.d (.int i)) (.int i) := by refine ⟨?_, trivial⟩; show Rep _ _ _ _ _ _ _; unfold Rep; rfl
theorem rx_bl {ρ : List Addr} {hp : Hs} {H H0 : Hp} (i : Bool) : RXF N X.K X.mg Θ ρ H hp H0 (.d (.bl i)) (.bl i) := by refine ⟨?_, trivial⟩; show Rep _ _ _ _ _ _ _; unfold Rep; rfl
theorem rx_str {ρ : List Addr} {hp : Hs} {H H0 : Hp} (i : Str) : RXF N X.K X.mg Θ ρ H hp H0 (.d (.str i)) (.str i) := by refine ⟨?_, trivial⟩; show Rep _ _ _ _ _ _ _; unfold Rep; rfl
theorem rx_non {ρ : List Addr} {hp : Hs} {H H0 : Hp} : RXF N X.K X.mg Θ ρ H hp H0 (.d .non) .non := by refine ⟨?_, trivial⟩; show Rep _ _ _ _ _ _ _; unfold Rep; rfl
theorem repR_int {H : Hp} {B : Addr → Prop} {i : Int} {v : V} (h : RepR N X.K X.mg H B (.int i) v) : v = .int i := by unfold RepR Rep at h; exact h
theorem repR_bl {H : Hp} {B : Addr → Prop} {i : Bool} {v : V} (h : RepR N X.K X.mg H B (.bl i) v) : v = .bl i := by unfold RepR Rep at h; exact h
theorem repR_str {H : Hp} {B : Addr → Prop} {i : Str} {v : V} (h : RepR N X.K X.mg H B (.str i) v) : v = .str i := by unfold RepR Rep at h; exact h
theorem repR_non {H : Hp} {B : Addr → Prop} {v : V} (h : RepR N X.K X.mg H B .non v) : v = .non := by unfold RepR Rep at h; exact h
theorem repR_tup {H : Hp} {B : Addr → Prop} {ds : List D} {v : V} (h : RepR N X.K X.mg H B (.tup ds) v) : ∃ a xs, v = .ref a ∧ TupAt X.K H B a xs ∧ xs.length ≤ sizeLine ∧ RepL N X.K X.mg H B ds xs := by unfold RepR Rep at h; exact h
theorem repR_lst {H : Hp} {B : Addr → Prop} {ds : List D} {v : V} (h : RepR N X.K X.mg H B (.lst ds) v) : ∃ a xs, v = .ref a ∧ H a = some (.lst xs) ∧ xs.length ≤ sizeLine ∧ RepL N X.K X.mg H B ds xs := h
theorem repR_scr {H : Hp} {B : Addr → Prop} {ns : List Int} {v : V} (h : RepR N X.K X.mg H B (.scr ns) v) : ∃ a, v = .ref a ∧ ScrAt X.K H B a (ns.map V.int) := by unfold RepR Rep at h; exact h

theorem tupAt_rx {ρ : List Addr} {hp : Hs} {H H0 : Hp} {a : Addr} {xs : List V} {ds : List D} (t : TupAt X.K H (InR ρ) a xs) (l : xs.length ≤ sizeLine) (r : RepL N X.K X.mg H (InR ρ) ds xs) : RXF N X.K X.mg Θ ρ H hp H0 (.d (.tup ds)) (.ref a) := by
  refine ⟨?_, trivial⟩
  show Rep _ _ _ _ _ _ _
  unfold Rep
  exact ⟨a, xs, rfl, t, l, r⟩

theorem op_addD (hΘ : Θ.Ok) : OpR X (binaryOp .Add) (rOp N Θ X addD) := by
  intro pins s σ H v u v' u' Q I rv ru ⟨ρ, hp, d, e, z, hr, hd, he, hz, q⟩
  cases d with
  | int i => cases e with
    | int j =>
      cases hz
      obtain rfl := repR_int hd
      obtain rfl := repR_int he
      exact op_add pins s σ H _ _ _ _ _ I rv ru ⟨_, _, rfl, rfl, q _ _ (.refl hr) (rx_int _)⟩
    | _ => cases hz
  | str i => cases e with
    | str j =>
      obtain rfl := repR_str hd
      obtain rfl := repR_str he
      by_cases hl : i.length + j.length ≤ sizeLine
      · have hz2 : (if i.length + j.length ≤ sizeLine then dS (i ++ j) else none) = some z := hz
        rw [if_pos hl] at hz2
        cases hz2
        exact op_add_str pins s σ H _ _ _ _ _ I rv ru ⟨_, _, rfl, rfl, hl, q _ _ (.refl hr) (rx_str _)⟩
      · have hz2 : (if i.length + j.length ≤ sizeLine then dS (i ++ j) else none) = some z := hz
        rw [if_neg hl] at hz2
        cases hz2
    | _ => cases hz
  | tup i => cases e with
    | tup j =>
      obtain ⟨a, xs, rfl, ta, la, ra⟩ := repR_tup hd
      obtain ⟨b, ys, rfl, tb, lb, rb⟩ := repR_tup he
      have hz2 : (if i.length + j.length ≤ sizeLine then some (Ev.X.d (.tup (i ++ j))) else none) = some z := hz
      by_cases hl : i.length + j.length ≤ sizeLine
      · rw [if_pos hl] at hz2
        cases hz2
        have e1 := ra.len
        have e2 := rb.len
        refine op_catA pins s σ H _ _ _ _ _ I rv ru ⟨a, b, xs, ys, rfl, rfl, ta.sq, tb.sq, by omega, fun z1 => ?_, fun z1 z2 => ?_, fun z1 z2 p hp0 => ?_⟩
        · subst z1
          have : i = [] := List.length_eq_zero_iff.mp (by simpa using e1)
          subst this
          exact q _ _ (.refl hr) (tupAt_rx tb lb rb)
        · subst z2
          have : j = [] := List.length_eq_zero_iff.mp (by simpa using e2)
          subst this
          rw [List.append_nil] at q
          exact q _ _ (.refl hr) (tupAt_rx ta la ra)
        · exact q _ _ (.new hΘ hr hp0) (rx_newT hr hp0 (by rw [List.length_append]; omega) (ra.append rb))
      · rw [if_neg hl] at hz2; cases hz2
    | _ => cases hz
  | lst i => cases e with
    | lst j =>
      obtain ⟨a, xs, rfl, ta, la, ra⟩ := repR_lst hd
      obtain ⟨b, ys, rfl, tb, lb, rb⟩ := repR_lst he
      have hz2 : (if i.length + j.length ≤ sizeLine then some (Ev.X.u (.lst (i ++ j))) else none) = some z := hz
      by_cases hl : i.length + j.length ≤ sizeLine
      · rw [if_pos hl] at hz2
        cases hz2
        have e1 := ra.len
        have e2 := rb.len
        exact op_cat pins s σ H _ _ _ _ _ I rv ru ⟨a, b, xs, ys, rfl, rfl, ta, tb, by omega, fun p hp0 => q _ _ (.new hΘ hr hp0) (rx_newL hr hp0 (by rw [List.length_append]; omega) (ra.append rb))⟩
      · rw [if_neg hl] at hz2; cases hz2
    | _ => cases hz
  | _ => cases hz

theorem opIntR {f : Value → Value → Sem Value} {C : Int → Int → Prop} {g : Int → Int → V} {sem : D → D → Option Ev.X} (base : OpR X f (rI C g))
    (hs : ∀ d e z, sem d e = some z → ∃ i j, d = .int i ∧ e = .int j ∧ C i j ∧ ((∃ k, g i j = .int k ∧ z = .d (.int k)) ∨ ∃ k, g i j = .bl k ∧ z = .d (.bl k))) : OpR X f (rOp N Θ X sem) := by
  intro pins s σ H v u v' u' Q I rv ru ⟨ρ, hp, d, e, z, hr, hd, he, hz, q⟩
  obtain ⟨i, j, rfl, rfl, hC, hg⟩ := hs d e z hz
  obtain rfl := repR_int hd
  obtain rfl := repR_int he
  refine base pins s σ H _ _ _ _ _ I rv ru ⟨i, j, rfl, rfl, hC, ?_⟩
  rcases hg with ⟨k, e1, rfl⟩ | ⟨k, e1, rfl⟩
  · rw [e1]; exact q _ _ (.refl hr) (rx_int _)
  · rw [e1]; exact q _ _ (.refl hr) (rx_bl _)
theorem opInt0 {f : Value → Value → Sem Value} {g : Int → Int → V} {sem : D → D → Option Ev.X} (base : OpR X f (rI0 g))
    (hs : ∀ d e z, sem d e = some z → ∃ i j, d = .int i ∧ e = .int j ∧ ((∃ k, g i j = .int k ∧ z = .d (.int k)) ∨ ∃ k, g i j = .bl k ∧ z = .d (.bl k))) : OpR X f (rOp N Θ X sem) := by
  refine opIntR (C := fun _ _ => True) (g := g) (fun pins s σ H v u v' u' Q I rv ru ⟨i, j, e1, e2, _, q⟩ => base pins s σ H v u v' u' Q I rv ru ⟨i, j, e1, e2, q⟩) fun d e z hz => ?_
  obtain ⟨i, j, e1, e2, h⟩ := hs d e z hz
  exact ⟨i, j, e1, e2, trivial, h⟩
theorem op_subD : OpR X (binaryOp .Sub) (rOp N Θ X (sem2 .sub)) := opInt0 op_sub fun d e z hz => by
  cases d <;> cases e <;> first | (cases hz; exact ⟨_, _, rfl, rfl, .inl ⟨_, rfl, rfl⟩⟩) | cases hz
theorem op_bandD : OpR X (binaryOp .BitAnd) (rOp N Θ X (sem2 .band)) := opInt0 op_and fun d e z hz => by
  cases d <;> cases e <;> first | (cases hz; exact ⟨_, _, rfl, rfl, .inl ⟨_, rfl, rfl⟩⟩) | cases hz
theorem op_borD : OpR X (binaryOp .BitOr) (rOp N Θ X (sem2 .bor)) := opInt0 op_or fun d e z hz => by
  cases d <;> cases e <;> first | (cases hz; exact ⟨_, _, rfl, rfl, .inl ⟨_, rfl, rfl⟩⟩) | cases hz
theorem op_bxorD : OpR X (binaryOp .BitXor) (rOp N Θ X (sem2 .bxor)) := opInt0 op_xor fun d e z hz => by
  cases d <;> cases e <;> first | (cases hz; exact ⟨_, _, rfl, rfl, .inl ⟨_, rfl, rfl⟩⟩) | cases hz
theorem op_leD : OpR X (compareOp .LtE) (rOp N Θ X (sem2 .le)) := opInt0 op_le fun d e z hz => by
  cases d <;> cases e <;> first | (cases hz; exact ⟨_, _, rfl, rfl, .inr ⟨_, rfl, rfl⟩⟩) | cases hz
theorem op_gtD : OpR X (compareOp .Gt) (rOp N Θ X (sem2 .gt)) := opInt0 op_gt fun d e z hz => by
  cases d <;> cases e <;> first | (cases hz; exact ⟨_, _, rfl, rfl, .inr ⟨_, rfl, rfl⟩⟩) | cases hz
theorem op_geD : OpR X (compareOp .GtE) (rOp N Θ X (sem2 .ge)) := opInt0 op_ge fun d e z hz => by
  cases d <;> cases e <;> first | (cases hz; exact ⟨_, _, rfl, rfl, .inr ⟨_, rfl, rfl⟩⟩) | cases hz
theorem ite_some {A : Type} {c : Prop} [Decidable c] {x z : A} (h : (if c then some x else none) = some z) : c ∧ x = z := by
  by_cases hc : c
  · rw [if_pos hc] at h; exact ⟨hc, Option.some.inj h⟩
  · rw [if_neg hc] at h; cases h
theorem ite_some2 {A : Type} {c : Prop} [Decidable c] {x : Option A} {z : A} (h : (if c then x else none) = some z) : c ∧ x = some z := by
  by_cases hc : c
  · rw [if_pos hc] at h; exact ⟨hc, h⟩
  · rw [if_neg hc] at h; cases h
theorem op_fdivD : OpR X (binaryOp .FloorDiv) (rOp N Θ X (sem2 .fdiv)) := opIntR op_fdivN fun d e z hz => by
  cases d with
  | int i => cases e with
    | int j =>
      obtain ⟨hc, e1⟩ := ite_some2 (show (if j ≠ 0 ∧ j.natAbs < 1073741824 then dI (i.fdiv j) else none) = some z from hz)
      cases e1
      exact ⟨_, _, rfl, rfl, hc, .inl ⟨_, rfl, rfl⟩⟩
    | _ => cases hz
  | _ => cases e <;> cases hz
theorem op_modD : OpR X (binaryOp .Mod) (rOp N Θ X (sem2 .mod)) := opIntR op_modN fun d e z hz => by
  cases d with
  | int i => cases e with
    | int j =>
      obtain ⟨hc, e1⟩ := ite_some2 (show (if j ≠ 0 then dI (i.fmod j) else none) = some z from hz)
      cases e1
      exact ⟨_, _, rfl, rfl, hc, .inl ⟨_, rfl, rfl⟩⟩
    | _ => cases hz
  | _ => cases e <;> cases hz
theorem op_powD : OpR X (binaryOp .Pow) (rOp N Θ X (sem2 .pow)) := opIntR op_pow fun d e z hz => by
  cases d with
  | int i => cases e with
    | int j =>
      obtain ⟨hc, e1⟩ := ite_some2 (show (if 0 ≤ j ∧ j ≤ 1000000 ∧ i.natAbs < 2 ^ 64 then dI (i ^ j.toNat) else none) = some z from hz)
      cases e1
      exact ⟨_, _, rfl, rfl, hc, .inl ⟨_, rfl, rfl⟩⟩
    | _ => cases hz
  | _ => cases e <;> cases hz
theorem op_shlD : OpR X (binaryOp .LShift) (rOp N Θ X (sem2 .shl)) := opIntR op_shl fun d e z hz => by
  cases d with
  | int i => cases e with
    | int j =>
      obtain ⟨hc, e1⟩ := ite_some2 (show (if 0 ≤ j ∧ j ≤ 1000000 ∧ i.natAbs < 2 ^ 64 then dI (i * 2 ^ j.toNat) else none) = some z from hz)
      cases e1
      exact ⟨_, _, rfl, rfl, hc, .inl ⟨_, rfl, rfl⟩⟩
    | _ => cases hz
  | _ => cases e <;> cases hz
theorem op_shrD : OpR X (binaryOp .RShift) (rOp N Θ X (sem2 .shr)) := opIntR op_shr fun d e z hz => by
  cases d with
  | int i => cases e with
    | int j =>
      obtain ⟨hc, e1⟩ := ite_some2 (show (if 0 ≤ j then dI (i / 2 ^ j.toNat) else none) = some z from hz)
      cases e1
      exact ⟨_, _, rfl, rfl, hc, .inl ⟨_, rfl, rfl⟩⟩
    | _ => cases hz
  | _ => cases e <;> cases hz
theorem okMul_ok {i j : Int} (h : okMul i j = true) : CMul i j := by
  unfold okMul at h
  simp only [Bool.or_eq_true, Bool.and_eq_true, decide_eq_true_eq] at h
  exact h
theorem mulOk_of {x : Str} {k : Int} (h1 : x.length ≤ 1000) (h2 : 0 ≤ k) (h3 : k ≤ 1000) : MulOk x k := by
  have hz : x.length * k.toNat ≤ 1000 * 1000 := Nat.mul_le_mul h1 (by omega)
  refine ⟨?_, fun q _ => ?_, fun _ _ => ?_⟩
  · simp only [Bool.or_eq_false_iff, decide_eq_false_iff_not]
    omega
  · have hk : 1 ≤ k := by omega
    have h4 : (1000 : Int) ≤ (2 ^ 63 - 1) / k := by
      rw [Int.le_ediv_iff_mul_le (by omega)]
      omega
    omega
  · unfold Builtin.Str.tooLong
    simp only [decide_eq_false_iff_not, gt_iff_lt, Nat.not_lt]
    have : sizeLine = 16777216 := by decide
    omega
theorem op_mulD (hΘ : Θ.Ok) : OpR X (binaryOp .Mult) (rOp N Θ X mulD) := by
  intro pins s σ H v u v' u' Q I rv ru ⟨ρ, hp, d, e, z, hr, hd, he, hz, q⟩
  cases e with
  | int j =>
    obtain rfl := repR_int he
    cases d with
    | int i =>
      obtain rfl := repR_int hd
      obtain ⟨hc, e1⟩ := ite_some2 (show (if okMul i j = true then dI (i * j) else none) = some z from hz)
      cases e1
      exact op_mul pins s σ H _ _ _ _ _ I rv ru ⟨_, _, rfl, rfl, okMul_ok hc, q _ _ (.refl hr) (rx_int _)⟩
    | str x =>
      obtain rfl := repR_str hd
      obtain ⟨hc, e1⟩ := ite_some2 (show (if x.length ≤ 1000 ∧ 0 ≤ j ∧ j ≤ 1000 then dS (Txt.mul x j) else none) = some z from hz)
      cases e1
      obtain ⟨t, rfl⟩ := rv
      obtain ⟨t2, rfl⟩ := ru
      exact SB.mul (mulOk_of hc.1 hc.2.1 hc.2.2) fun t' k => ⟨.str _, H, I.tok k, ⟨_, rfl⟩, q _ _ (.refl hr) (rx_str _)⟩
    | tup x =>
      obtain ⟨a, xs, rfl, ta, la, ra⟩ := repR_tup hd
      obtain ⟨hc, e1⟩ := ite_some (show (if x.isEmpty = false ∧ 2 ≤ j ∧ j ≤ 1000 ∧ x.length ≤ 1000 then some (Ev.X.d (.tup (Ev.repL x j.toNat))) else none) = some z from hz)
      subst e1
      have el := ra.len
      have hn : xs ≠ [] := fun e => by
        subst e
        have : x = [] := List.length_eq_zero_iff.mp (by simpa using el)
        rw [this] at hc; cases hc.1
      refine op_repT pins s σ H _ _ _ _ _ I rv ru ⟨a, j, xs, rfl, rfl, ta.sq, hn, hc.2.1, hc.2.2.1, by omega, fun p hp0 => ?_⟩
      have rr : ∀ n : Nat, RepL N X.K X.mg H (InR ρ) (Ev.repL x n) (List.replicate n xs).flatten := fun n => by
        unfold Ev.repL
        induction n with
        | zero => exact RepL.nil_iff.mpr rfl
        | succ n ih => rw [List.replicate_succ, List.replicate_succ, List.flatten_cons, List.flatten_cons]; exact ra.append ih
      refine q _ _ (.new hΘ hr hp0) (rx_newT hr hp0 ?_ (rr _))
      have e3 : ((List.replicate j.toNat xs).flatten).length = j.toNat * xs.length := by simp
      rw [e3]
      have : j.toNat * xs.length ≤ 1000 * 1000 := Nat.mul_le_mul (by omega) (by omega)
      have : sizeLine = 16777216 := by decide
      omega
    | lst x =>
      obtain ⟨a, xs, rfl, ta, la, ra⟩ := repR_lst hd
      obtain ⟨hc, e1⟩ := ite_some (show (if x.length * j.toNat ≤ sizeLine ∧ -(2 ^ 63) ≤ j ∧ j < 2 ^ 63 then some (Ev.X.u (.lst (Ev.repL x j.toNat))) else none) = some z from hz)
      subst e1
      have el := ra.len
      refine op_rep pins s σ H _ _ _ _ _ I rv ru ⟨a, j, xs, rfl, rfl, ta, hc.2.1, hc.2.2, by rw [← el]; exact hc.1, fun p hp0 => ?_⟩
      have rr : ∀ n : Nat, RepL N X.K X.mg H (InR ρ) (Ev.repL x n) (List.replicate n xs).flatten := fun n => by
        unfold Ev.repL
        induction n with
        | zero => exact RepL.nil_iff.mpr rfl
        | succ n ih => rw [List.replicate_succ, List.replicate_succ, List.flatten_cons, List.flatten_cons]; exact ra.append ih
      refine q _ _ (.new hΘ hr hp0) (rx_newL hr hp0 ?_ (rr _))
      have e3 : ((List.replicate j.toNat xs).flatten).length = j.toNat * xs.length := by simp
      rw [e3, Nat.mul_comm, ← el]
      exact hc.1
    | _ => cases hz
  | _ => cases d <;> cases hz

/-! ### == -/
mutual
theorem Rep.dp {H : Hp} {B : Addr → Prop} : ∀ (d : D) (v : V) (p : PyData), Rep N X.K X.mg H B d v → d.py = some p → Dp X.K H v p
  | .non, v, p, h, e => by unfold Rep at h; subst h; simp only [D.py] at e; cases e; exact .non
  | .bl b, v, p, h, e => by unfold Rep at h; subst h; simp only [D.py] at e; cases e; exact .bl b
  | .int b, v, p, h, e => by unfold Rep at h; subst h; simp only [D.py] at e; cases e; exact .int b
  | .str b, v, p, h, e => by unfold Rep at h; subst h; simp only [D.py] at e; cases e; exact .str b
  | .tup ds, v, p, h, e => by
    unfold Rep at h
    obtain ⟨a, xs, rfl, t, l, r⟩ := h
    simp only [D.py, Option.map_eq_some_iff] at e
    obtain ⟨ps, e1, rfl⟩ := e
    exact .tup t.sq (RepL.dp ds xs ps r e1)
  | .lst ds, v, p, h, e => by
    unfold Rep at h
    obtain ⟨a, xs, rfl, t, n, l, r⟩ := h
    simp only [D.py, Option.map_eq_some_iff] at e
    obtain ⟨ps, e1, rfl⟩ := e
    exact .lst (.of t) (RepL.dp ds xs ps r e1)
  | .dct ks vs, v, p, h, e => by simp [D.py] at e
  | .ins c ds, v, p, h, e => by simp [D.py] at e
  | .fn f, v, p, h, e => by simp [D.py] at e
  | .cls c, v, p, h, e => by simp [D.py] at e
  | .ty n, v, p, h, e => by simp [D.py] at e
  | .scr ns, v, p, h, e => by simp [D.py] at e
theorem RepL.dp {H : Hp} {B : Addr → Prop} : ∀ (ds : List D) (vs : List V) (ps : List PyData), RepL N X.K X.mg H B ds vs → D.pys ds = some ps → DpAll X.K H vs ps
  | [], vs, ps, h, e => by
    rw [RepL.nil_iff.mp h]
    simp only [D.pys] at e
    cases e
    exact .nil
  | d :: ds, vs, ps, h, e => by
    obtain ⟨v, r, e1, h1, h2⟩ := RepL.cons_iff.mp h
    subst e1
    simp only [D.pys] at e
    cases hp : d.py with
    | none => rw [hp] at e; cases e
    | some p =>
      cases hq : D.pys ds with
      | none => rw [hp, hq] at e; cases e
      | some qs =>
        rw [hp, hq] at e
        cases e
        exact .cons (Rep.dp d v p h1 hp) (RepL.dp ds r qs h2 hq)
end
theorem RepR.dp {H : Hp} {B : Addr → Prop} {d : D} {v : V} {p : PyData} (h : RepR N X.K X.mg H B d v) (e : d.py = some p) : Dp X.K H v p := by
  cases d with
  | lst ds =>
    obtain ⟨a, xs, rfl, t, l, r⟩ := repR_lst h
    simp only [D.py, Option.map_eq_some_iff] at e
    obtain ⟨ps, e1, rfl⟩ := e
    exact .lst (.of t) (RepL.dp ds xs ps r e1)
  | dct ks vs => simp [D.py] at e
  | ins c ds => simp [D.py] at e
  | _ => exact Rep.dp _ _ _ h e
theorem eqD_some {d e : D} {k : Bool} (h : eqD d e = some k) : ∃ p q, d.py = some p ∧ e.py = some q ∧ SeqAt.shaped p = true ∧ SeqAt.shaped q = true ∧ k = PyData.eqv p q := by
  unfold eqD at h
  cases hp : d.py with
  | none => rw [hp] at h; cases h
  | some p =>
    cases hq : e.py with
    | none => rw [hp, hq] at h; cases h
    | some q =>
      rw [hp, hq] at h
      obtain ⟨hc, e1⟩ := ite_some h
      simp only [Bool.and_eq_true] at hc
      exact ⟨p, q, rfl, rfl, hc.1, hc.2, e1.symm⟩
theorem op_eqDD (hu : X.A.units + 64 < cLine) : OpR X (compareOp .Eq) (rOp N Θ X (sem2 .eq)) := by
  intro pins s σ H v u v' u' Q I rv ru ⟨ρ, hp, d, e, z, hr, hd, he, hz, q⟩
  have hz2 : (eqD d e).map (fun k => Ev.X.d (.bl k)) = some z := hz
  obtain ⟨k, e1, rfl⟩ := Option.map_eq_some_iff.mp hz2
  obtain ⟨p1, p2, h1, h2, h3, h4, rfl⟩ := eqD_some e1
  exact op_eqD hu pins s σ H _ _ _ _ _ I rv ru ⟨p1, p2, hd.dp h1, he.dp h2, h3, h4, q _ _ (.refl hr) (rx_bl _)⟩
theorem op_neDD (hu : X.A.units + 64 < cLine) : OpR X (compareOp .NotEq) (rOp N Θ X (sem2 .ne)) := by
  intro pins s σ H v u v' u' Q I rv ru ⟨ρ, hp, d, e, z, hr, hd, he, hz, q⟩
  have hz2 : (eqD d e).map (fun k => Ev.X.d (.bl (!k))) = some z := hz
  obtain ⟨k, e1, rfl⟩ := Option.map_eq_some_iff.mp hz2
  obtain ⟨p1, p2, h1, h2, h3, h4, rfl⟩ := eqD_some e1
  exact op_neD hu pins s σ H _ _ _ _ _ I rv ru ⟨p1, p2, hd.dp h1, he.dp h2, h3, h4, q _ _ (.refl hr) (rx_bl _)⟩
theorem op_ltD (hu : X.A.units < cLine) : OpR X (compareOp .Lt) (rOp N Θ X ltD) := by
  intro pins s σ H v u v' u' Q I rv ru ⟨ρ, hp, d, e, z, hr, hd, he, hz, q⟩
  cases d with
  | int i => cases e with
    | int j =>
      cases hz
      obtain rfl := repR_int hd
      obtain rfl := repR_int he
      exact op_lt pins s σ H _ _ _ _ _ I rv ru ⟨_, _, rfl, rfl, q _ _ (.refl hr) (rx_bl _)⟩
    | _ => cases hz
  | str i => cases e with
    | str j =>
      cases hz
      obtain rfl := repR_str hd
      obtain rfl := repR_str he
      exact op_lt_str pins s σ H _ _ _ _ _ I rv ru ⟨_, _, rfl, rfl, q _ _ (.refl hr) (rx_bl _)⟩
    | _ => cases hz
  | tup i => cases e with
    | tup j =>
      obtain ⟨a, xs, rfl, ta, la, ra⟩ := repR_tup hd
      obtain ⟨b, ys, rfl, tb, lb, rb⟩ := repR_tup he
      have hz2 : (match intsD i, intsD j with | some a, some b => dB (lexI a b) | _, _ => none) = some z := hz
      cases h1 : intsD i with
      | none => rw [h1] at hz2; cases hz2
      | some ns =>
        cases h2 : intsD j with
        | none => rw [h1, h2] at hz2; cases hz2
        | some ms =>
          rw [h1, h2] at hz2
          cases hz2
          have t1 := ta.sq
          have t2 := tb.sq
          rw [ra.intsV h1] at t1
          rw [rb.intsV h2] at t2
          exact op_ltT hu pins s σ H _ _ _ _ _ I rv ru ⟨a, b, ns, ms, rfl, rfl, t1, t2, q _ _ (.refl hr) (rx_bl _)⟩
    | _ => cases hz
  | _ => cases e <;> cases hz
end
end Ev
set_option Elab.async false
set_option linter.all false
set_option maxRecDepth 100000
set_option maxHeartbeats 4000000
/-! Own work: in, is, subscripts, slices, built-in functions and methods. -/
namespace Ev
open PySem PySem.Spec L2

section
variable {N : Nm} {Θ : Pm} {X : Cx}
theorem flatRep {H : Hp} {B : Addr → Prop} {d : D} {v : V} (h : RepR N X.K X.mg H B d v) (f : flatD d = true) : Rep N X.K X.mg H B d v ∧ flatV v = true := by
  cases d <;> simp [flatD] at f <;> (have h2 := h; unfold RepR at h2; refine ⟨h2, ?_⟩; unfold Rep at h2; subst h2; rfl)
theorem oneSign_eq {x : Str} {c : Nat} (h : oneSign x = some c) : x = ⟨#[c]⟩ := by
  obtain ⟨⟨l⟩⟩ := x
  unfold oneSign at h
  match l, h with
  | [a], h => cases h; rfl
  | [], h => cases h
  | a :: b :: r, h => cases h
theorem inD_sem {neg : Bool} {op : CmpOp} (hs : OpR X (compareOp op) (rIn X.K neg)) (hc : OpR X (compareOp op) (fun x y H Q => ∃ (c : Nat) (z : Str), x = .str ⟨#[c]⟩ ∧ y = .str z ∧ Q (.bl (if neg then !decide (c ∈ z.cps.toList) else decide (c ∈ z.cps.toList))) H))
    {sem : D → D → Option Ev.X} (hsem : ∀ d e, sem d e = (inD d e).map fun k => .d (.bl (if neg then !k else k))) : OpR X (compareOp op) (rOp N Θ X sem) := by
  intro pins s σ H v u v' u' Q I rv ru ⟨ρ, hp, d, e, z, hr, hd, he, hz, q⟩
  rw [hsem] at hz
  obtain ⟨k, e1, rfl⟩ := Option.map_eq_some_iff.mp hz
  cases e with
  | str y =>
    obtain rfl := repR_str he
    cases d with
    | str x =>
      obtain rfl := repR_str hd
      obtain ⟨c, e2, rfl⟩ := Option.map_eq_some_iff.mp (show (oneSign x).map (fun c => decide (c ∈ y.cps.toList)) = some k from e1)
      obtain rfl := oneSign_eq e2
      exact hc pins s σ H _ _ _ _ _ I rv ru ⟨c, y, rfl, rfl, q _ _ (.refl hr) (rx_bl _)⟩
    | _ => cases e1
  | tup ys =>
    obtain ⟨a, xs, rfl, ta, la, ra⟩ := repR_tup he
    unfold inD at e1
    obtain ⟨hf, e2⟩ := ite_some e1
    simp only [Bool.and_eq_true] at hf
    obtain ⟨h1, h2⟩ := flatRep hd hf.1
    have := ra.any h1 hf.1 hf.2
    rw [← this] at e2
    refine hs pins s σ H _ _ _ _ _ I rv ru ⟨a, xs, rfl, .inr ta.sq, h2, ra.flatAll hf.2, ?_⟩
    subst e2
    have q2 := q (.bl (if neg then !inV v xs else inV v xs)) H (.refl hr) (rx_bl _)
    exact q2
  | lst ys =>
    obtain ⟨a, xs, rfl, ta, la, ra⟩ := repR_lst he
    unfold inD at e1
    obtain ⟨hf, e2⟩ := ite_some e1
    simp only [Bool.and_eq_true] at hf
    obtain ⟨h1, h2⟩ := flatRep hd hf.1
    have := ra.any h1 hf.1 hf.2
    rw [← this] at e2
    refine hs pins s σ H _ _ _ _ _ I rv ru ⟨a, xs, rfl, .inl (.of ta), h2, ra.flatAll hf.2, ?_⟩
    subst e2
    have q2 := q (.bl (if neg then !inV v xs else inV v xs)) H (.refl hr) (rx_bl _)
    exact q2
  | _ => cases e1
theorem op_inD : OpR X (compareOp .In) (rOp N Θ X (sem2 .isin)) := inD_sem (neg := false) op_in_seq op_in_sign fun d e => by cases d <;> rfl
theorem op_notinD : OpR X (compareOp .NotIn) (rOp N Θ X (sem2 .notin)) := inD_sem (neg := true) op_notIn_seq op_notIn_sign fun d e => by cases d <;> rfl
theorem isNon_V {H : Hp} {B : Addr → Prop} {d : D} {v : V} (h : RepR N X.K X.mg H B d v) : isNon d = decide (v = .non) := by
  cases d with
  | non => obtain rfl := repR_non h; rfl
  | bl b => obtain rfl := repR_bl h; rfl
  | int b => obtain rfl := repR_int h; rfl
  | str b => obtain rfl := repR_str h; rfl
  | tup ds => obtain ⟨a, xs, rfl, _⟩ := repR_tup h; rfl
  | lst ds => obtain ⟨a, xs, rfl, _⟩ := repR_lst h; rfl
  | dct ks vs => obtain ⟨a, rfl, _⟩ := h; rfl
  | ins c ds => obtain ⟨a, _, _, _, rfl, _⟩ := h; rfl
  | fn f => unfold RepR Rep at h; obtain ⟨a, rfl, _⟩ := h; rfl
  | cls f => unfold RepR Rep at h; obtain ⟨a, rfl, _⟩ := h; rfl
  | ty n => unfold RepR Rep at h; subst h; rfl
  | scr ns => obtain ⟨a, rfl, _⟩ := repR_scr h; rfl
theorem op_isD : OpR X (compareOp .Is) (rOp N Θ X (sem2 .is)) := by
  intro pins s σ H v u v' u' Q I rv ru ⟨ρ, hp, d, e, z, hr, hd, he, hz, q⟩
  have h2 : e = .non ∧ z = .d (.bl (isNon d)) := by
    cases e <;> cases d <;> first | (cases hz; exact ⟨rfl, rfl⟩) | cases hz
  obtain ⟨rfl, rfl⟩ := h2
  obtain rfl := repR_non he
  refine op_isN pins s σ H _ _ _ _ _ I rv ru ⟨rfl, ?_⟩
  rw [← isNon_V hd]
  exact q _ _ (.refl hr) (rx_bl _)
theorem op_isnotD : OpR X (compareOp .IsNot) (rOp N Θ X (sem2 .isnot)) := by
  intro pins s σ H v u v' u' Q I rv ru ⟨ρ, hp, d, e, z, hr, hd, he, hz, q⟩
  have h2 : e = .non ∧ z = .d (.bl (!isNon d)) := by
    cases e <;> cases d <;> first | (cases hz; exact ⟨rfl, rfl⟩) | cases hz
  obtain ⟨rfl, rfl⟩ := h2
  obtain rfl := repR_non he
  refine op_notN pins s σ H _ _ _ _ _ I rv ru ⟨rfl, ?_⟩
  rw [← isNon_V hd]
  exact q _ _ (.refl hr) (rx_bl _)

/-! ### subscripts, slices -/
theorem atI_rep {H : Hp} {B : Addr → Prop} {ds : List D} {xs : List V} {i : Int} {d : D} (r : RepL N X.K X.mg H B ds xs) (e : L2.atI ds i = some d) : ∃ v, L2.atI xs i = some v ∧ Rep N X.K X.mg H B d v := by
  unfold L2.atI at e ⊢
  rw [← r.len]
  cases h : L2.ixN ds.length i with
  | none => rw [h] at e; cases e
  | some j =>
    rw [h] at e
    obtain ⟨v, h1, h2⟩ := r.get (i := j) (d := d) e
    exact ⟨v, h1, h2⟩
theorem ix_D : IxR X (rOp N Θ X ixD) := by
  intro value slice pins s σ H v u v' u' Q I rv ru ⟨ρ, hp, d, e, z, hr, hd, he, hz, q⟩ hsub
  cases e with
  | int i =>
    obtain rfl := repR_int he
    cases d with
    | tup ds =>
      obtain ⟨a, xs, rfl, ta, la, ra⟩ := repR_tup hd
      have hz2 : (getD ds i).map Ev.X.d = some z := hz
      obtain ⟨w, e1, rfl⟩ := Option.map_eq_some_iff.mp hz2
      obtain ⟨x, e2, rx⟩ := atI_rep ra e1
      exact ix_tup value slice pins s σ H _ _ _ _ _ I rv ru ⟨a, xs, i, x, rfl, rfl, ta.sq, e2, q _ _ (.refl hr) ⟨rx, trivial⟩⟩ hsub
    | lst ds =>
      obtain ⟨a, xs, rfl, ta, la, ra⟩ := repR_lst hd
      have hz2 : (getD ds i).map Ev.X.d = some z := hz
      obtain ⟨w, e1, rfl⟩ := Option.map_eq_some_iff.mp hz2
      obtain ⟨x, e2, rx⟩ := atI_rep ra e1
      exact ix_list value slice pins s σ H _ _ _ _ _ I rv ru ⟨a, xs, i, x, rfl, rfl, .of ta, e2, q _ _ (.refl hr) ⟨rx, trivial⟩⟩ hsub
    | str x =>
      obtain rfl := repR_str hd
      obtain ⟨hl, hz2⟩ := ite_some2 (show (if x.length ≤ sizeLine then (L2.atI x.cps.toList i).map fun c => Ev.X.d (.str ⟨#[c]⟩) else none) = some z from hz)
      obtain ⟨c, e1, rfl⟩ := Option.map_eq_some_iff.mp hz2
      exact ix_str value slice pins s σ H _ _ _ _ _ I rv ru ⟨x, i, c, rfl, rfl, hl, e1, q _ _ (.refl hr) (rx_str _)⟩ hsub
    | _ => cases hz
  | _ => cases d <;> cases hz
variable (N Θ X) in
def rSl : V → Option Int → Option Int → Hp → VK → Prop := fun v lo hi H Q => ∃ ρ hp d z, HpR N X.K X.mg Θ ρ H hp ∧ RepR N X.K X.mg H (InR ρ) d v ∧ cutD lo hi d = some z ∧
  ∀ w H', Aft N X.K X.mg Θ ρ hp ρ hp H H' → RXF N X.K X.mg Θ ρ H' hp H z w → Q w H'
theorem cutL_whole {A : Type} (xs : List A) (lo hi : Option Int) (h : HT.sIx xs.length 0 lo = 0 ∧ HT.sIx xs.length xs.length hi = xs.length) : cutL xs lo hi = xs := by
  unfold cutL
  rw [h.1, h.2]
  simp
theorem cutL_rep {H : Hp} {B : Addr → Prop} {ds : List D} {xs : List V} {lo hi : Option Int} (r : RepL N X.K X.mg H B ds xs) : RepL N X.K X.mg H B (cutL ds lo hi) (cutV xs lo hi) := by
  unfold cutL cutV
  rw [r.len]
  exact (r.drop _).take _
theorem sl_D (hΘ : Θ.Ok) : SlR X (rSl N Θ X) := by
  intro pins s σ H v v' vl vu lo hi sl Q I rv hs pl pu ⟨ρ, hp, d, z, hr, hd, hz, q⟩
  cases d with
  | str x =>
    obtain rfl := repR_str hd
    obtain ⟨hl, hz2⟩ := ite_some2 (show (if x.length ≤ sizeLine then dS (L2.cutS x lo hi) else none) = some z from hz)
    cases hz2
    exact sl_str pins s σ H _ _ _ _ _ _ _ _ I rv hs pl pu ⟨x, rfl, hl, q _ _ (.refl hr) (rx_str _)⟩
  | tup ds =>
    obtain ⟨a, xs, rfl, ta, la, ra⟩ := repR_tup hd
    cases hz
    refine sl_tupA pins s σ H _ _ _ _ _ _ _ _ I rv hs pl pu ⟨a, xs, rfl, ta.sq, fun hw => ?_, fun hw p hp0 => ?_⟩
    · rw [← ra.len] at hw
      rw [cutL_whole ds lo hi hw] at q
      exact q _ _ (.refl hr) (tupAt_rx ta la ra)
    · exact q _ _ (.new hΘ hr hp0) (rx_newT hr hp0 (Nat.le_trans (cutV_length _ _ _) la) (cutL_rep ra))
  | lst ds =>
    obtain ⟨a, xs, rfl, ta, la, ra⟩ := repR_lst hd
    cases hz
    exact sl_list pins s σ H _ _ _ _ _ _ _ _ I rv hs pl pu ⟨a, xs, rfl, .of ta, fun p hp0 => q _ _ (.new hΘ hr hp0) (rx_newL hr hp0 (Nat.le_trans (cutV_length _ _ _) la) (cutL_rep ra))⟩
  | scr ns =>
    obtain ⟨a, rfl, sa⟩ := repR_scr hd
    cases hz
    refine sl_list pins s σ H _ _ _ _ _ _ _ _ I rv hs pl pu ⟨a, ns.map V.int, rfl, sa.sq, fun p hp0 => ?_⟩
    obtain ⟨its, r1, p1, hl⟩ := I.list sa.sq
    have e1 : cutV (ns.map V.int) lo hi = (cutL ns lo hi).map V.int := by
      unfold cutV cutL
      rw [List.length_map, List.map_take, List.map_drop]
    rw [e1]
    refine q _ _ (.new hΘ hr hp0) (rx_newL hr hp0 ?_ RepL.ints)
    rw [← e1]
    exact Nat.le_trans (cutV_length _ _ _) hl
  | _ => cases hz

/-! ### built-in functions of one thing -/
variable (N Θ X) in
def rCall (f : D → Option Ev.X) : List V → Hp → VK → Prop := fun vs H Q => ∃ v, vs = [v] ∧ rOp1 N Θ X f v H Q
theorem keysK_len : ∀ {ks : List D} {l : List Key}, keysK ks = some l → ks.length = l.length
  | [], l, h => by simp [keysK] at h; subst h; rfl
  | k :: ks, l, h => by
    simp only [keysK] at h
    split at h
    · rename_i k1 l1 e1 e2
      cases h
      rw [List.length_cons, List.length_cons, keysK_len e2]
    · cases h
theorem keysT_len : ∀ {ks : List D} {l : List (List Key)}, keysT ks = some l → ks.length = l.length
  | [], l, h => by simp [keysT] at h; subst h; rfl
  | .tup k :: ks, l, h => by
    simp only [keysT] at h
    split at h
    · rename_i k1 l1 e1 e2
      cases h
      rw [List.length_cons, List.length_cons, keysT_len e2]
    · cases h
theorem call_lenDD : CallR X (.builtin "len") (rCall N Θ X (sem1 .len)) := by
  intro pins s σ H vs us Q I r ⟨v, e1, ρ, hp, d, z, hr, hd, hz, q⟩
  subst e1
  cases d with
  | str x =>
    obtain rfl := repR_str hd
    obtain ⟨hl, hz2⟩ := ite_some2 (show (if x.length ≤ sizeLine then dI x.length else none) = some z from hz)
    cases hz2
    exact call_len_str pins s σ H _ _ _ I r ⟨x, rfl, hl, q _ _ (.refl hr) (rx_int _)⟩
  | tup ds =>
    obtain ⟨a, xs, rfl, ta, la, ra⟩ := repR_tup hd
    cases hz
    rw [ra.len] at q
    exact call_len_seq pins s σ H _ _ _ I r ⟨a, xs, rfl, .inr ta.sq, q _ _ (.refl hr) (rx_int _)⟩
  | lst ds =>
    obtain ⟨a, xs, rfl, ta, la, ra⟩ := repR_lst hd
    cases hz
    rw [ra.len] at q
    exact call_len_seq pins s σ H _ _ _ I r ⟨a, xs, rfl, .inl (.of ta), q _ _ (.refl hr) (rx_int _)⟩
  | scr ns =>
    obtain ⟨a, rfl, sa⟩ := repR_scr hd
    cases hz
    have e : ns.length = (ns.map V.int).length := by simp
    rw [e] at q
    exact call_len_seq pins s σ H _ _ _ I r ⟨a, _, rfl, .inl sa.sq, q _ _ (.refl hr) (rx_int _)⟩
  | dct ks vs =>
    obtain ⟨a, rfl, hk⟩ := hd
    cases hz
    rcases hk with ⟨kvs, h1, h2, h3⟩ | ⟨kvs, h1, h2, h3⟩
    · rw [keysK_len h2, List.length_map] at q
      exact (call_lenD (X := X)) pins s σ H _ _ _ I r ⟨a, kvs, rfl, h1, q _ _ (.refl hr) (rx_int _)⟩
    · rw [keysT_len h2, List.length_map] at q
      exact (call_len_dT (X := X)) pins s σ H _ _ _ I r ⟨a, kvs, rfl, h1, q _ _ (.refl hr) (rx_int _)⟩
  | _ => cases hz
theorem call_sumD (hc : X.calm = true) : CallR X (.builtin "sum") (rCall N Θ X (sem1 .sum)) := by
  intro pins s σ H vs us Q I r ⟨v, e1, ρ, hp, d, z, hr, hd, hz, q⟩
  subst e1
  cases d with
  | lst ds =>
    obtain ⟨a, xs, rfl, ta, la, ra⟩ := repR_lst hd
    obtain ⟨ns, h1, rfl⟩ := Option.map_eq_some_iff.mp (show (intsD ds).map (fun ns => Ev.X.d (.int ns.sum)) = some z from hz)
    rw [ra.intsV h1] at ta
    exact cr_sum hc pins s σ H _ _ _ I r ⟨a, ns, rfl, .of ta, q _ _ (.refl hr) (rx_int _)⟩
  | _ => cases hz
theorem call_allD (hc : X.calm = true) : CallR X (.builtin "all") (rCall N Θ X (sem1 .all)) := by
  intro pins s σ H vs us Q I r ⟨v, e1, ρ, hp, d, z, hr, hd, hz, q⟩
  subst e1
  cases d with
  | lst ds =>
    obtain ⟨a, xs, rfl, ta, la, ra⟩ := repR_lst hd
    obtain ⟨ns, h1, rfl⟩ := Option.map_eq_some_iff.mp (show (blsD ds).map (fun ns => Ev.X.d (.bl (ns.all id))) = some z from hz)
    rw [ra.blsV h1] at ta
    exact cr_all hc pins s σ H _ _ _ I r ⟨a, ns, rfl, .of ta, q _ _ (.refl hr) (rx_bl _)⟩
  | _ => cases hz
theorem call_anyD (hc : X.calm = true) : CallR X (.builtin "any") (rCall N Θ X (sem1 .any)) := by
  intro pins s σ H vs us Q I r ⟨v, e1, ρ, hp, d, z, hr, hd, hz, q⟩
  subst e1
  cases d with
  | lst ds =>
    obtain ⟨a, xs, rfl, ta, la, ra⟩ := repR_lst hd
    obtain ⟨ns, h1, rfl⟩ := Option.map_eq_some_iff.mp (show (blsD ds).map (fun ns => Ev.X.d (.bl (ns.any id))) = some z from hz)
    rw [ra.blsV h1] at ta
    exact cr_any hc pins s σ H _ _ _ I r ⟨a, ns, rfl, .of ta, q _ _ (.refl hr) (rx_bl _)⟩
  | _ => cases hz
theorem call_absD : CallR X (.builtin "abs") (rCall N Θ X (sem1 .abs)) := by
  intro pins s σ H vs us Q I r ⟨v, e1, ρ, hp, d, z, hr, hd, hz, q⟩
  subst e1
  cases d with
  | int i =>
    obtain rfl := repR_int hd
    cases hz
    exact call_abs pins s σ H _ _ _ I r ⟨i, rfl, q _ _ (.refl hr) (rx_int _)⟩
  | _ => cases hz
theorem call_tupleD (hΘ : Θ.Ok) : CallR X (.type "tuple") (rCall N Θ X (sem1 .tuple)) := by
  intro pins s σ H vs us Q I r ⟨v, e1, ρ, hp, d, z, hr, hd, hz, q⟩
  subst e1
  cases d with
  | lst ds =>
    obtain ⟨a, xs, rfl, ta, la, ra⟩ := repR_lst hd
    cases hz
    exact call_tuple_of pins s σ H _ _ _ I r ⟨a, xs, rfl, .inl ⟨.of ta, fun p hp0 => q _ _ (.new hΘ hr hp0) (rx_newT hr hp0 la ra)⟩⟩
  | tup ds =>
    obtain ⟨a, xs, rfl, ta, la, ra⟩ := repR_tup hd
    cases hz
    exact call_tuple_of pins s σ H _ _ _ I r ⟨a, xs, rfl, .inr ⟨ta.sq, q _ _ (.refl hr) (tupAt_rx ta la ra)⟩⟩
  | _ => cases hz
theorem call_listD (hΘ : Θ.Ok) : CallR X (.type "list") (rCall N Θ X (sem1 .list)) := by
  intro pins s σ H vs us Q I r ⟨v, e1, ρ, hp, d, z, hr, hd, hz, q⟩
  subst e1
  cases d with
  | lst ds =>
    obtain ⟨a, xs, rfl, ta, la, ra⟩ := repR_lst hd
    cases hz
    exact call_list_of pins s σ H _ _ _ I r ⟨a, xs, rfl, .inl (.of ta), fun p hp0 => q _ _ (.new hΘ hr hp0) (rx_newL hr hp0 la ra)⟩
  | tup ds =>
    obtain ⟨a, xs, rfl, ta, la, ra⟩ := repR_tup hd
    cases hz
    exact call_list_of pins s σ H _ _ _ I r ⟨a, xs, rfl, .inr ta.sq, fun p hp0 => q _ _ (.new hΘ hr hp0) (rx_newL hr hp0 la ra)⟩
  | _ => cases hz
theorem call_intD : CallR X (.type "int") (rCall N Θ X (sem1 .int)) := by
  intro pins s σ H vs us Q I r ⟨v, e1, ρ, hp, d, z, hr, hd, hz, q⟩
  subst e1
  cases d with
  | int i =>
    obtain rfl := repR_int hd
    cases hz
    exact call_int1 pins s σ H _ _ _ I r (.inl ⟨i, rfl, q _ _ (.refl hr) (rx_int _)⟩)
  | bl b =>
    obtain rfl := repR_bl hd
    cases hz
    exact call_int1 pins s σ H _ _ _ I r (.inr ⟨b, rfl, q _ _ (.refl hr) (rx_int _)⟩)
  | str x =>
    obtain rfl := repR_str hd
    obtain ⟨hl, hz2⟩ := ite_some2 (show (if x.length ≤ 640 then (intText? x).map fun n => Ev.X.d (.int n) else none) = some z from hz)
    obtain ⟨n, e1, rfl⟩ := Option.map_eq_some_iff.mp hz2
    exact call_int_str pins s σ H _ _ _ I r ⟨x, n, rfl, e1, hl, q _ _ (.refl hr) (rx_int _)⟩
  | _ => cases hz
theorem call_strD : CallR X (.type "str") (rCall N Θ X (sem1 .str)) := by
  intro pins s σ H vs us Q I r ⟨v, e1, ρ, hp, d, z, hr, hd, hz, q⟩
  subst e1
  cases d with
  | int i =>
    obtain rfl := repR_int hd
    obtain ⟨hl, hz2⟩ := ite_some2 (show (if i.natAbs.log2 < 1920 then dS (toString i : Str) else none) = some z from hz)
    cases hz2
    exact call_str_int pins s σ H _ _ _ I r ⟨i, rfl, hl, q _ _ (.refl hr) (rx_str _)⟩
  | _ => cases hz
theorem call_boolD : CallR X (.type "bool") (rCall N Θ X (sem1 .bool)) := by
  intro pins s σ H vs us Q I r ⟨v, e1, ρ, hp, d, z, hr, hd, hz, q⟩
  subst e1
  cases d with
  | int i =>
    obtain rfl := repR_int hd
    cases hz
    exact call_bool1 pins s σ H _ _ _ I r (.inl ⟨i, rfl, q _ _ (.refl hr) (rx_bl _)⟩)
  | bl b =>
    obtain rfl := repR_bl hd
    cases hz
    exact call_bool1 pins s σ H _ _ _ I r (.inr ⟨b, rfl, q _ _ (.refl hr) (rx_bl _)⟩)
  | _ => cases hz
theorem un_negD : UnR X (unaryOp .USub) (rOp1 N Θ X (sem1 .neg)) := by
  intro pins s σ H v v' Q I rv ⟨ρ, hp, d, z, hr, hd, hz, q⟩
  cases d with
  | int i =>
    obtain rfl := repR_int hd
    cases hz
    exact un_neg pins s σ H _ _ _ I rv ⟨i, rfl, q _ _ (.refl hr) (rx_int _)⟩
  | _ => cases hz

/-! ### methods of texts -/
variable (N Θ X) in
def rMt (f : D → D → Option Ev.X) : V → List V → Hp → VK → Prop := fun v vs H Q => ∃ u, vs = [u] ∧ rOp N Θ X f v u H Q
theorem mt_joinD : MtR X "str.join" (rMt N Θ X (semM .join)) := by
  intro pins s σ H v vs v' us Q I rv r ⟨u, e1, ρ, hp, d, e, z, hr, hd, he, hz, q⟩
  subst e1
  cases d with
  | str a => cases e with
    | lst ds =>
      obtain rfl := repR_str hd
      obtain ⟨p, xs, rfl, ta, la, ra⟩ := repR_lst he
      have hz2 : (match strsD ds with | some ys => joinD a ys | none => none) = some z := hz
      cases h1 : strsD ds with
      | none => rw [h1] at hz2; cases hz2
      | some ys =>
        rw [h1] at hz2
        obtain ⟨hl, hz3⟩ := ite_some2 (show (if (ys.map (·.length)).sum + ys.length * a.length ≤ 16777216 then dS (Txt.join a ys) else none) = some z from hz2)
        cases hz3
        rw [ra.strsV h1] at ta
        exact mt_join pins s σ H _ _ _ _ _ I rv r ⟨a, p, ys, rfl, rfl, .inl (.of ta), hl, q _ _ (.refl hr) (rx_str _)⟩
    | _ => cases hz
  | _ => cases hz
theorem split_len (a b : Str) : True := trivial
theorem mt_splitD (hΘ : Θ.Ok) : MtR X "str.split" (rMt N Θ X (semM .split)) := by
  intro pins s σ H v vs v' us Q I rv r ⟨u, e1, ρ, hp, d, e, z, hr, hd, he, hz, q⟩
  subst e1
  cases d with
  | str a => cases e with
    | str b =>
      obtain rfl := repR_str hd
      obtain rfl := repR_str he
      obtain ⟨hl, hz2⟩ := ite_some (show (if (b.length == 0) = false ∧ a.length + 2 ≤ sizeLine ∧ (Txt.split a b).length ≤ sizeLine then some (Ev.X.u (.lst ((Txt.split a b).map .str))) else none) = some z from hz)
      subst hz2
      exact mt_split pins s σ H _ _ _ _ _ I rv r ⟨a, b, rfl, rfl, hl.1, hl.2.1, fun p hp0 => q _ _ (.new hΘ hr hp0) (rx_newL hr hp0 (by rw [List.length_map]; exact hl.2.2) RepL.strs)⟩
    | _ => cases hz
  | _ => cases hz
end
end Ev
set_option Elab.async false
set_option linter.all false
set_option maxRecDepth 100000
set_option maxHeartbeats 4000000
/-! Own work: what is wanted behind an evaluation. -/
namespace L2
open PySem PySem.Spec
theorem PE.imp {X : Cx} {e : Expr} {t t' : TE} (h : PE X e t) (w : ∀ σ H Q, t' σ H Q → t σ H Q) : PE X e t' := ⟨fun pins s σ H Q I q => h.run pins s σ H Q I (w σ H Q q)⟩
theorem PT.imp {X : Cx} {e : Expr} {t t' : TT} (h : PT X e t) (w : ∀ σ H Q, t' σ H Q → t σ H Q) : PT X e t' := ⟨fun pins s σ H Q I q => h.run pins s σ H Q I (w σ H Q q)⟩
theorem PW.imp {X : Cx} {e : Expr} {t t' : TT} (h : PW X e t) (w : ∀ σ H Q, t' σ H Q → t σ H Q) : PW X e t' := ⟨fun wh pins s σ H Q I q => h.run wh pins s σ H Q I (w σ H Q q)⟩
theorem PA.imp {X : Cx} {e : List Expr} {t t' : TA} (h : PA X e t) (w : ∀ σ H Q, t' σ H Q → t σ H Q) : PA X e t' := ⟨fun p pins s σ H Q I q => h.run p pins s σ H Q I (w σ H Q q)⟩
theorem PS.imp {X : Cx} {e : Stmt} {t t' : TS} (h : PS X e t) (w : ∀ D σ H, t' D σ H → t D σ H) : PS X e t' := ⟨fun pins s σ H D I q => h.run pins s σ H D I (w D σ H q)⟩
theorem PSs.imp {X : Cx} {e : List Stmt} {t t' : TS} (h : PSs X e t) (w : ∀ D σ H, t' D σ H → t D σ H) : PSs X e t' := ⟨fun pins s σ H D I q => h.run pins s σ H D I (w D σ H q)⟩
theorem PI.imp {X : Cx} {tg e : Expr} {t t' : TI} (h : PI X tg e t) (w : ∀ σ H Q, t' σ H Q → t σ H Q) : PI X tg e t' := ⟨fun pins s σ H Q I q => h.run pins s σ H Q I (w σ H Q q)⟩

end L2
namespace Ev
open PySem PySem.Spec L2

/-- an error's own data: its dict holds its field -/
def ErrR (N : Nm) (K : PySem.W.Frag) (mg : Str → Option Value) (ρ : List Addr) (H : Hp) (c : Nat) (vs : List D) (d : Option Addr) : Prop :=
  N.ke c = true ∧ match N.xf c, vs with
  | none, [] => d = none
  | some f, [x] => ∃ dd v, d = some dd ∧ H dd = some (.xd [(f, v)]) ∧ dd ∉ ρ ∧ Rep N K mg H (InR ρ) x v
  | _, _ => False

/-- how what is told stands to what is wanted -/
structure Rl (A B : Type) where
  rel : Hp → Hp → Hs → A → B → Prop
  so : ∀ (H0 H1 H' : Hp) (h : Hs) a b, (∀ x, Fs H1 x → Fs H0 x) → rel H1 H' h a b → rel H0 H' h a b
section
variable (N : Nm) (K : PySem.W.Frag) (mg : Str → Option Value) (Θ : Pm) (W : WX) (σ : L2.St) (ρ : List Addr)
def RXs (H0 H : Hp) : List Ev.X → List V → Prop
  | [], vs => vs = []
  | x :: xs, vs => ∃ v r, vs = v :: r ∧ RX N K mg Θ ρ H H0 x v ∧ RXs H0 H xs r
def RlX : Rl Ev.X V := ⟨fun H0 H' hp x v => RXF N K mg Θ ρ H' hp H0 x v, fun _ _ _ _ _ _ h r => r.sooner h⟩
def RlT : Rl Bool Bool := ⟨fun _ _ _ a b => a = b, fun _ _ _ _ _ _ _ r => r⟩
def RlA : Rl (List Ev.X) (List V) := ⟨fun H0 H' _ x v => RXs N K mg Θ ρ H0 H' x v, fun H0 H1 H' _ xs => by
  induction xs with
  | nil => exact fun _ _ r => r
  | cons x xs ih =>
    intro vs h r
    obtain ⟨v, r', e, r1, r2⟩ := r
    exact ⟨v, r', e, r1.sooner h, ih r' h r2⟩⟩
/-- B0: where the whole began -/
def Post {A B : Type} (L : Rl A B) (B0 : Hp) (hp : Hs) (H : Hp) (r : R A) (Q : B → Hp → Prop) : Prop :=
  match r with
  | some (.ok a, hp') => ∀ b H', Aft N K mg Θ ρ hp ρ hp' H H' → L.rel B0 H' hp' a b → Q b H'
  | some (.err c vs, hp') => ∀ Ca d H', mg (N.cl c) = some (.ref Ca) → Aft N K mg Θ ρ hp ρ hp' H H' → ErrR N K mg ρ H' c vs d → W (.ref Ca) d σ H'
  | none => False
end
section
variable {N : Nm} {K : PySem.W.Frag} {mg : Str → Option Value} {Θ : Pm} {W : WX} {σ : L2.St} {ρ : List Addr} {A B A2 B2 : Type} {L : Rl A B} {L2 : Rl A2 B2} {hp hp1 : Hs} {H H1 B0 B1 : Hp}
theorem Post.imp {r : R A} {Q Q' : B → Hp → Prop} (h : Post N K mg Θ W σ ρ L B0 hp H r Q) (w : ∀ b H', Q b H' → Q' b H') : Post N K mg Θ W σ ρ L B0 hp H r Q' := by
  unfold Post at h ⊢
  split
  · exact fun b H' a r => w b H' (h b H' a r)
  · exact h
  · exact h
/-- later: from behind a first part -/
theorem Post.next {r : R A} {Q : B → Hp → Prop} (h : Post N K mg Θ W σ ρ L B0 hp H r Q) (a : Aft N K mg Θ ρ hp ρ hp1 H H1) : Post N K mg Θ W σ ρ L B0 hp1 H1 r Q := by
  unfold Post at h ⊢
  split
  · exact fun b H' a2 r => h b H' (a.trans a2) r
  · exact fun Ca d H' e a2 r => h Ca d H' e (a.trans a2) r
  · exact h
theorem Post.bnd {r : R A} {k : A → Hs → R A2} {Q : B2 → Hp → Prop} (h : Post N K mg Θ W σ ρ L2 B0 hp H (Ev.bnd r k) Q) :
    Post N K mg Θ W σ ρ L B1 hp H r (fun b H1 => ∃ a hp1, Aft N K mg Θ ρ hp ρ hp1 H H1 ∧ L.rel B1 H1 hp1 a b ∧ Post N K mg Θ W σ ρ L2 B0 hp1 H1 (k a hp1) Q) := by
  match r, h with
  | some (.ok a, hp'), h => exact fun b H' af rl => ⟨a, hp', af, rl, Post.next h af⟩
  | some (.err c vs, hp'), h => exact h
theorem Post.lift {o : Option A} {Q : B → Hp → Prop} (h : Post N K mg Θ W σ ρ L B0 hp H (Ev.lift o hp1) Q) : ∃ z, o = some z ∧ ∀ b H', Aft N K mg Θ ρ hp ρ hp1 H H' → L.rel B0 H' hp1 z b → Q b H' := by
  cases o with
  | none => exact h.elim
  | some z => exact ⟨z, rfl, h⟩
/-- the base may be the beginning -/
theorem Post.base {r : R A} {Q : B → Hp → Prop} (h : Post N K mg Θ W σ ρ L B0 hp H r Q) (hd : ∀ x, Fs H x → Fs B0 x) : Post N K mg Θ W σ ρ L H hp H r Q := by
  unfold Post at h ⊢
  split
  · exact fun b H' a r => h b H' a (L.so _ _ _ _ _ _ hd r)
  · exact h
  · exact h
end

section
variable (N : Nm) (C : Cl) (Θ : Pm) (X : Cx) (W : WX)
def tE (e : E) : TE := fun σ H Q => ∃ ρ env hp, StR N X.K X.mg Θ ρ H env σ ∧ HpR N X.K X.mg Θ ρ H hp ∧ Post N X.K X.mg Θ W σ ρ (RlX N X.K X.mg Θ ρ) H hp H (ev C e env hp) Q
def tT (e : E) : TT := fun σ H Q => ∃ ρ env hp, StR N X.K X.mg Θ ρ H env σ ∧ HpR N X.K X.mg Θ ρ H hp ∧ Post N X.K X.mg Θ W σ ρ RlT H hp H (bnd (ev C e env hp) fun x h => lift (toB x) h) Q
def tA (e : E) : TA := fun σ H Q => ∃ ρ env hp, StR N X.K X.mg Θ ρ H env σ ∧ HpR N X.K X.mg Θ ρ H hp ∧ Post N X.K X.mg Θ W σ ρ (RlA N X.K X.mg Θ ρ) H hp H (evs C e env hp) Q
end
section
variable {N : Nm} {C : Cl} {Θ : Pm} {X : Cx} {W : WX} {H B0 : Hp} {σ : L2.St}
/-- begin with an expression -/
theorem tE_bnd {A B : Type} {L : Rl A B} {e : E} {ρ : List Addr} {env : Env} {hp : Hs} {k : Ev.X → Hs → R A} {Q : B → Hp → Prop} {T : VK} (hΘ : Θ.Ok) (st : StR N X.K X.mg Θ ρ H env σ) (hr : HpR N X.K X.mg Θ ρ H hp)
    (po : Post N X.K X.mg Θ W σ ρ L B0 hp H (bnd (ev C e env hp) k) Q)
    (w : ∀ x hp1 v H1, Aft N X.K X.mg Θ ρ hp ρ hp1 H H1 → RX N X.K X.mg Θ ρ H1 H x v → StR N X.K X.mg Θ ρ H1 env σ → HpR N X.K X.mg Θ ρ H1 hp1 → Post N X.K X.mg Θ W σ ρ L B0 hp1 H1 (k x hp1) Q → T v H1) : tE N C Θ X W e σ H T :=
  ⟨ρ, env, hp, st, hr, (Post.bnd (L := RlX N X.K X.mg Θ ρ) po).imp fun v H1 ⟨x, hp1, af, rx, po1⟩ => w x hp1 v H1 af rx.1 (st.mono hΘ af) af.hpr po1⟩
theorem tT_bnd {A B : Type} {L : Rl A B} {e : E} {ρ : List Addr} {env : Env} {hp : Hs} {k : Bool → Hs → R A} {Q : B → Hp → Prop} {T : Bool → Hp → Prop} (hΘ : Θ.Ok) (st : StR N X.K X.mg Θ ρ H env σ) (hr : HpR N X.K X.mg Θ ρ H hp)
    (po : Post N X.K X.mg Θ W σ ρ L B0 hp H (bnd (ev C e env hp) fun x h => bnd (lift (toB x) h) k) Q)
    (w : ∀ x hp1 H1, Aft N X.K X.mg Θ ρ hp ρ hp1 H H1 → StR N X.K X.mg Θ ρ H1 env σ → HpR N X.K X.mg Θ ρ H1 hp1 → Post N X.K X.mg Θ W σ ρ L B0 hp1 H1 (k x hp1) Q → T x H1) : tT N C Θ X W e σ H T := by
  have e1 : (bnd (ev C e env hp) fun x h => bnd (lift (toB x) h) k) = bnd (bnd (ev C e env hp) fun x h => lift (toB x) h) k := by
    match ev C e env hp with
    | none => rfl
    | some (.err c v, h) => rfl
    | some (.ok x, h) => rfl
  rw [e1] at po
  exact ⟨ρ, env, hp, st, hr, (Post.bnd (L := RlT) po).imp fun v H1 ⟨x, hp1, af, rx, po1⟩ => by
    have rx2 : x = v := rx
    subst rx2
    exact w x hp1 H1 af (st.mono hΘ af) af.hpr po1⟩
theorem tA_bnd {A B : Type} {L : Rl A B} {e : E} {ρ : List Addr} {env : Env} {hp : Hs} {k : List Ev.X → Hs → R A} {Q : B → Hp → Prop} {T : List V → Hp → Prop} (hΘ : Θ.Ok) (st : StR N X.K X.mg Θ ρ H env σ) (hr : HpR N X.K X.mg Θ ρ H hp)
    (po : Post N X.K X.mg Θ W σ ρ L B0 hp H (bnd (evs C e env hp) k) Q)
    (w : ∀ x hp1 v H1, Aft N X.K X.mg Θ ρ hp ρ hp1 H H1 → RXs N X.K X.mg Θ ρ H H1 x v → StR N X.K X.mg Θ ρ H1 env σ → HpR N X.K X.mg Θ ρ H1 hp1 → Post N X.K X.mg Θ W σ ρ L B0 hp1 H1 (k x hp1) Q → T v H1) : tA N C Θ X W e σ H T :=
  ⟨ρ, env, hp, st, hr, (Post.bnd (L := RlA N X.K X.mg Θ ρ) po).imp fun v H1 ⟨x, hp1, af, rx, po1⟩ => w x hp1 v H1 af rx (st.mono hΘ af) af.hpr po1⟩
theorem opt_bind {A B : Type} {o : Option A} {f : A → Option B} {z : B} (h : o.bind f = some z) : ∃ a, o = some a ∧ f a = some z := by
  cases o with
  | none => cases h
  | some a => exact ⟨a, rfl, h⟩
/-- an operator of two things -/
theorem tE_op2 (hΘ : Θ.Ok) {a b : E} {f : D → D → Option Ev.X} {ρ : List Addr} {env : Env} {hp : Hs} {Q : VK} (st : StR N X.K X.mg Θ ρ H env σ) (hr : HpR N X.K X.mg Θ ρ H hp) (hd : ∀ x, Fs H x → Fs B0 x)
    (po : Post N X.K X.mg Θ W σ ρ (RlX N X.K X.mg Θ ρ) B0 hp H (bnd (ev C a env hp) fun x h => bnd (ev C b env h) fun y h => lift ((x.rd h).bind fun d => (y.rd h).bind fun e => f d e) h) Q) :
    tOp (rOp N Θ X f) (tE N C Θ X W a) (tE N C Θ X W b) σ H Q := by
  refine tE_bnd hΘ st hr po fun x hp1 v H1 af rx st1 hr1 po1 => tE_bnd hΘ st1 hr1 po1 fun y hp2 u H2 af2 ry st2 hr2 po2 => ?_
  obtain ⟨z, e, q⟩ := po2.lift
  obtain ⟨d, e1, e2⟩ := opt_bind e
  obtain ⟨d2, e3, e4⟩ := opt_bind e2
  exact ⟨ρ, hp2, d, d2, z, hr2, (rx.mono hΘ af2).rd hr2 e1, ry.rd hr2 e3, e4, fun w H' af3 rz => q w H' af3 (RXF.sooner (fun a z => hd a (af.dom a (af2.dom a z))) rz)⟩
theorem tE_op1 (hΘ : Θ.Ok) {a : E} {f : D → Option Ev.X} {ρ : List Addr} {env : Env} {hp : Hs} {Q : VK} (st : StR N X.K X.mg Θ ρ H env σ) (hr : HpR N X.K X.mg Θ ρ H hp) (hd : ∀ x, Fs H x → Fs B0 x)
    (po : Post N X.K X.mg Θ W σ ρ (RlX N X.K X.mg Θ ρ) B0 hp H (bnd (ev C a env hp) fun x h => lift ((x.rd h).bind f) h) Q) :
    tE N C Θ X W a σ H (fun v H1 => rOp1 N Θ X f v H1 Q) := by
  refine tE_bnd hΘ st hr po fun x hp1 v H1 af rx st1 hr1 po1 => ?_
  obtain ⟨z, e, q⟩ := po1.lift
  obtain ⟨d, e1, e2⟩ := opt_bind e
  exact ⟨ρ, hp1, d, z, hr1, rx.rd hr1 e1, e2, fun w H' af3 rz => q w H' af3 (RXF.sooner (fun a z => hd a (af.dom a z)) rz)⟩
end
end Ev
set_option Elab.async false
set_option linter.all false
set_option maxRecDepth 100000
set_option maxHeartbeats 4000000
/-! Own work: what is walked: enumerate and zip of lists and tuples in any mix. -/
namespace PySem
open Sem (wp)
theorem meets_enumerate_new1 {v : Value} {o : Obj} {H : Heap → Prop} (B : Begins v o H) :
    Meets (Builtin.«enumerate.__new__» ⟨[.type "enumerate", v], []⟩) (fun _ R s => H s.heap ∧
      R (.ok (.ret (.ref (s.heap.push o).objs.size))) { s with heap := (s.heap.push o).push { cls := .type "enumerate", data := .fields #[.none, .bool false, .ref s.heap.objs.size, rawInt 0, .none, .none] } }) :=
  .of_wp fun prog w A R s h => by
    obtain ⟨hp, g, d, tk, os⟩ := s; obtain ⟨h1, h⟩ := h
    have hsub := sub_enumerate
    have q1 : ∀ {A' : Around} {E : Value → Shared → Prop} {Q : Value → Shared → Prop}, Q (.ref hp.objs.size) ⟨hp.push o, g, d, tk, os⟩ → wpAny (model prog w) A' (pyIter v) Q E ⟨hp, g, d, tk, os⟩ :=
      fun q => B.iter prog w _ _ ⟨hp, g, d, tk, os⟩ _ h1 q
    wp_walk using q1
    refine wpAny_stack_any fun st => wpAny_pure ?_
    split
    · rename_i c _ _ _ _ _
      cases (c == Value.type "enumerate")
      · wp_walk using q1
        exact ⟨_, rfl, h⟩
      · wp_walk using q1
        exact ⟨_, rfl, h⟩
    · wp_walk using q1
      exact ⟨_, rfl, h⟩
theorem enum_begins1 {prog : Program} {w : World} {A : Around} {E : Value → Shared → Prop} {s : Shared} {v : Value} {o : Obj} {H : Heap → Prop} {Q : Value → Shared → Prop} (B : Begins v o H) (h1 : H s.heap)
    (h : ∀ h', IsEnum h' (s.heap.objs.size + 1) s.heap.objs.size 0 .none → h'.get? s.heap.objs.size = some o → h'.objs.size = s.heap.objs.size + 2 →
      (∀ b o, s.heap.get? b = some o → h'.get? b = some o) → Q (.ref (s.heap.objs.size + 1)) { s with heap := h' }) :
    wpAny (model prog w) A (call (.type "enumerate") [v]) Q E s := by
  refine callType_new F.called_enumerate (by decide) (F.typeCall_enumerate_1 _) (F.newCall_enumerate_1 _) (fun obj => F.args_object_init_2 obj _) F.entry_enumerate_new
    (meets_enumerate_new1 B) ⟨h1, ?_⟩
  have hz : (s.heap.push o).objs.size = s.heap.objs.size + 1 := Heap.size_push ..
  show _ ∧ _
  rw [hz]
  have he : IsEnum ((s.heap.push o).push { cls := .type "enumerate", data := .fields #[.none, .bool false, .ref s.heap.objs.size, rawInt 0, .none, .none] }) (s.heap.objs.size + 1) s.heap.objs.size 0 .none := by
    have := Heap.get?_push_size (s.heap.push o) (o := { cls := .type "enumerate", data := .fields #[.none, .bool false, .ref s.heap.objs.size, rawInt 0, .none, .none] }) rfl
    rw [hz] at this; exact this
  refine ⟨⟨_, he, rfl⟩, h _ he (Heap.get?_push_of_some _ (Heap.get?_push_size _ B.free)) (by rw [Heap.size_push, hz]) fun b o x => Heap.get?_push_of_some _ (Heap.get?_push_of_some _ x)⟩
end PySem
namespace Ev
open PySem PySem.Spec PyProof.Rows

inductive Kd where
  | l | t
def SqK (k : Kd) (K : PySem.W.Frag) (H : L2.Hp) (a : Addr) (xs : List L2.V) : Prop := match k with
  | .l => L2.SqL K H a xs
  | .t => L2.SqT K H a xs
def ItKd (k : Kd) (h : Heap) (it a : Addr) (i : Nat) : Prop := match k with
  | .l => h.IsListIter it a i
  | .t => h.IsTupleIter it a i
def SoK (k : Kd) (h : Heap) (a : Addr) (its : Array Value) : Prop := match k with
  | .l => h.IsList a its
  | .t => h.IsTuple a its
def itO (k : Kd) (a : Addr) : Obj := match k with
  | .l => { cls := .type "list_iterator", data := .fields #[.ref a, .int 0 0] }
  | .t => { cls := .type "tuple_iterator", data := .fields #[.ref a, .int 0 0] }
theorem draws_K (k : Kd) {prog : Program} {w : World} {A : Around} (hh : A.handled = none) (it a : Addr) (hne : a ≠ it) (items : Array Value) :
    Draws prog w A it [it, a] items.size (fun i v => items[i]? = some v) (fun i h => ItKd k h it a i ∧ SoK k h a items) := by
  cases k with
  | l => exact Draws.list hh it a hne items
  | t => exact Draws.tuple hh it a hne items
theorem begins_K (k : Kd) (a : Addr) (items : Array Value) : Begins (.ref a) (itO k a) (fun h => SoK k h a items) := by
  cases k with
  | l => exact begins_list a items
  | t => exact begins_tuple a items
theorem itK_obj {k : Kd} {h : Heap} {it a : Addr} {i : Nat} (st : ItKd k h it a i) : ∃ o, h.get? it = some o ∧ ∀ v, o.data ≠ .cell v := by
  cases k with
  | l => obtain ⟨o, e, c, d⟩ := st; exact ⟨o, e, fun v z => by rw [d] at z; cases z⟩
  | t => obtain ⟨o, e, c, d⟩ := st; exact ⟨o, e, fun v z => by rw [d] at z; cases z⟩
theorem itK_at {k : Kd} {h h' : Heap} {it a : Addr} {i : Nat} (st : ItKd k h it a i) (e : ∀ o, h.get? it = some o → h'.get? it = some o) : ItKd k h' it a i := by
  cases k with
  | l => exact Heap.IsListIter.at (show h.IsListIter it a i from st) e
  | t => exact Heap.IsTupleIter.at (show h.IsTupleIter it a i from st) e
theorem itK_new {k : Kd} {h : Heap} {it a : Addr} (e : h.get? it = some (itO k a)) : ItKd k h it a 0 := by
  cases k with
  | l => exact ⟨_, e, rfl, rfl⟩
  | t => exact ⟨_, e, rfl, rfl⟩
theorem soK_lt {k : Kd} {h : Heap} {a : Addr} {its : Array Value} (s : SoK k h a its) : a < h.objs.size := by
  cases k with
  | l => obtain ⟨o, e, _⟩ := s; exact Heap.lt_size e
  | t => obtain ⟨o, e, _⟩ := s; exact Heap.lt_size e
section
variable {X : L2.Cx} {pins : List (Addr × Obj)} {σ : L2.St} {H : L2.Hp} {s : Shared} {a : Addr} {xs ys : List L2.V}
theorem inv_sqK {k : Kd} (I : L2.Inv X pins σ H s) (h : SqK k X.K H a xs) : ∃ its : List Value, L2.Vals xs its ∧ SoK k s.heap a its.toArray ∧ xs.length ≤ sizeLine := by
  cases k with
  | l => obtain ⟨its, r, p, z⟩ := I.list h; exact ⟨its, r, p.isList, z⟩
  | t => obtain ⟨its, r, p, z⟩ := I.tuple h; exact ⟨its, r, p, z⟩
theorem sqK_inj {k : Kd} (I : L2.Inv X pins σ H s) (h : SqK k X.K H a xs) (h' : SqK k X.K H a ys) : xs = ys := by
  cases k with
  | l => exact I.list_inj h h'
  | t => exact I.tuple_inj h h'
end
open L2 (It Turn PI PIE TI TA FpOk upd upd_ne upd_same ObjOk Inv Cx V Hp)
/-- the sequence at a as it stands at each turn, its items in new pairs with their numbers -/
def IteK (k : Kd) (K : PySem.W.Frag) (a : Addr) : It :=
  ⟨fun i H => ∃ (xs : List V) (x : V), SqK k K H a xs ∧ xs[i]? = some x, fun i H v H' => ∃ T x, v = .ref T ∧ H T = none ∧ H' = upd H T (.tup [.int (i : Nat), x]) ∧ ∀ xs, SqK k K H a xs → xs[i]? = some x, fun i H => ∃ xs : List V, SqK k K H a xs ∧ xs.length = i⟩
theorem turn_enumK {P : Program} {w : World} {K : PySem.W.Frag} {elts : List Expr} {kk : Nat} {tpos : Pos} (k : Kd) (a e it : Addr) (hai : a ≠ it) :
    Turn P w K (.Tuple elts kk tpos) (IteK k K a) [e, it] e (fun i h => (∃ old, IsEnum h e it ((i : Nat) : Int) old) ∧ ItKd k h it a i ∧ e ≠ it ∧ e ≠ a) where
  mem := by simp
  obj := fun i h st b hb => by
    obtain ⟨⟨old, he⟩, hi, _⟩ := st
    have e' : b = e ∨ b = it := by simpa using hb
    rcases e' with z | z
    · rw [z]; exact ⟨_, he, fun v q => nomatch q⟩
    · rw [z]; exact itK_obj hi
  keep := fun i h h' st k => let ⟨⟨old, he⟩, hi, hne⟩ := st; ⟨⟨old, k e (by simp) _ he⟩, itK_at hi fun o q => k it (by simp) o q, hne⟩
  item := by
    intro X hP hw hK hc i pins s σ H E I hf st hg
    subst hP hw hK
    obtain ⟨⟨old, he⟩, hit, hne, hea⟩ := st
    obtain ⟨xs, x, hq, hx⟩ := hg
    obtain ⟨its, rv, p, hz⟩ := inv_sqK I hq
    obtain ⟨u, hu, ru⟩ := rv.get hx
    have hel : e < s.heap.objs.size := Heap.lt_size he
    have hil : it < s.heap.objs.size := by obtain ⟨_, q, _⟩ := itK_obj hit; exact Heap.lt_size q
    have hlt : i < its.toArray.size := by
      have := (List.getElem?_eq_some_iff.mp hu).1
      simpa using this
    refine wpAny_pyNext_enum_itemC (draws_K k (prog := X.prog) (w := X.w) (A := X.A.in1) (I.ok.hd hc) it a hai its.toArray) he ⟨hit, p⟩ hlt hne (by simp [hne, hea]) fun y h' tk hy ho hst hT hsz hk => ?_
    have ey : y = u := by
      have : its[i]? = some y := by simpa using hy
      rw [hu] at this
      exact (Option.some.inj this).symm
    subst ey
    refine ⟨_, rfl, wpAny_letOwnedTupleGo_enum (s := { s with heap := h', toks := tk + 1 }) ho fun h'' he' sb => ?_⟩
    have hT2 : h''.get? s.heap.objs.size = some { cls := .type "tuple", data := .seq #[.int i tk, y] } := (sb.2 _ (Nat.ne_of_gt hel)).trans hT
    have new : ObjOk X.prog X.w (upd H s.heap.objs.size (.tup [.int (i : Nat), x])) h'' s.heap.objs.size (.tup [.int (i : Nat), x]) :=
      ⟨by show 2 ≤ sizeLine; decide, [.int i tk, y], .cons ⟨_, rfl⟩ (.cons ru .nil), ⟨_, hT2, rfl, _, rfl⟩⟩
    have I1 : Inv X pins σ (upd H s.heap.objs.size (.tup [.int (i : Nat), x])) { s with heap := h'', toks := tk + 1 } :=
      I.turnedNew (ch := [e, it]) (fun b ob hb q => (sb.2 b (fun z => hb (by simp [z]))).trans (hk b ob (fun z => hb (by simp [z])) (fun z => hb (by simp [z])) q)) hf (Nat.le_refl _) new
    refine ⟨.ref s.heap.objs.size, _, I1, rfl, ⟨_, x, rfl, I.hok.fresh (Nat.le_refl _), rfl, fun ys hy => by rw [sqK_inj I hy hq]; exact hx⟩, ⟨⟨y, ?_⟩, itK_at hst.1 fun o q => (sb.2 it (Ne.symm hne)).trans q, hne, hea⟩, fun b hb => ?_⟩
    · have e1 : ((i + 1 : Nat) : Int) = (i : Int) + 1 := by omega
      rw [e1]; exact he'
    · have hb' : b < s.heap.objs.size := by
        have e' : b = e ∨ b = it := by simpa using hb
        rcases e' with z | z
        · rw [z]; exact hel
        · rw [z]; exact hil
      rw [upd_ne (Nat.ne_of_lt hb')]
      exact (hf b hb).1
  done := by
    intro X hP hw hK hc i pins s σ H E I hf st hg
    subst hP hw hK
    obtain ⟨⟨old, he⟩, hit, hne, hea⟩ := st
    obtain ⟨xs, hq, hx⟩ := hg
    obtain ⟨its, rv, p, hz⟩ := inv_sqK I hq
    obtain ⟨f0, f1, f2, f3, f4, f5⟩ := hf it (by simp)
    have hl := rv.length
    have hn : i = its.toArray.size := by simp; omega
    rw [hn] at hit
    exact wpAny_pyNext_enum_endD (draws_K k (prog := X.prog) (w := X.w) (A := X.A.in1) (I.ok.hd hc) it a hai its.toArray) he ⟨hit, p⟩ fun h' eb => ⟨rfl, I.turned (t' := s.toks) (fun b o hb q => eb b o hb q) f0 f1 f3 f4 f5⟩
  self := fun A i s Q E st h => let ⟨⟨_, he⟩, _⟩ := st; wpAny_pyIter_enum he h
def iEnumK (K : PySem.W.Frag) (ta : TA) : TI := fun σ H R => ta σ H fun vs H1 => ∃ k a xs, vs = [.ref a] ∧ SqK k K H1 a xs ∧ R (IteK k K a) H1
theorem pi_enumK {X : Cx} {e : Expr} {ta : TA} {p pos tpos : Pos} {elts : List Expr} {kk : Nat} (hg : L2.Gl X "enumerate") (hm : X.mg "enumerate" = none) (ha : L2.PA X [e] ta) (hs : starEach [e] X.env = [(false, eval e X.env)]) :
    PI X (.Tuple elts kk tpos) (.Call (.Name "enumerate" p) [e] [] pos) (iEnumK X.K ta) := by
  refine ⟨fun pins s σ H R I h => ?_⟩
  refine Call_ (L2.ld_blt I hg hm boot_enumerate (PyProof.Rows.callWith_type1 (L2.thn (ha.run pos pins s σ H _ I h) fun us s1 ⟨vs, H1, I1, r1, q1⟩ => ?_) hs rfl))
  obtain ⟨k, a, xs, ex, hq, q⟩ := q1
  subst ex
  cases r1 with
  | cons r rr =>
    cases rr
    cases r
    obtain ⟨its, rv, p', hz⟩ := inv_sqK I1 hq
    have hal := soK_lt p'
    refine enum_begins1 (begins_K k a its.toArray) p' fun h' he hit hsz hk => wpAny_pyIter_enum he ?_
    have I2 : Inv X pins σ H1 { s1 with heap := h' } := I1.kept (t' := s1.toks) hk
    refine ⟨s1.heap.objs.size + 1, [s1.heap.objs.size + 1, s1.heap.objs.size], _, _, H1, rfl, I2, turn_enumK k a (s1.heap.objs.size + 1) s1.heap.objs.size (Nat.ne_of_lt hal), ⟨⟨.none, he⟩, itK_new hit, Nat.succ_ne_self _, Nat.ne_of_gt (Nat.lt_succ_of_lt hal)⟩, fun b hb => ?_, q⟩
    have e' : b = s1.heap.objs.size + 1 ∨ b = s1.heap.objs.size := by simpa using hb
    have hle : s1.heap.objs.size ≤ b := by
      rcases e' with z | z
      · rw [z]; exact Nat.le_add_right _ _
      · rw [z]; exact Nat.le_refl _
    exact I1.fpOk hle (I1.hok.fresh hle)
/-- two sequences as they stand at each turn, the items in new pairs -/
def ItzK (k l : Kd) (K : PySem.W.Frag) (a b : Addr) : It :=
  ⟨fun i H => ∃ (xs ys : List V) (x y : V), SqK k K H a xs ∧ SqK l K H b ys ∧ xs[i]? = some x ∧ ys[i]? = some y,
    fun i H v H' => ∃ T x y, v = .ref T ∧ H T = none ∧ H' = upd H T (.tup [x, y]) ∧ (∀ xs, SqK k K H a xs → xs[i]? = some x) ∧ ∀ ys, SqK l K H b ys → ys[i]? = some y,
    fun i H => ∃ xs ys : List V, SqK k K H a xs ∧ SqK l K H b ys ∧ i ≤ xs.length ∧ i ≤ ys.length ∧ (xs.length = i ∨ ys.length = i)⟩
theorem turn_zipK {P : Program} {w : World} {K : PySem.W.Frag} {elts : List Expr} {kk : Nat} {tpos : Pos} (k l : Kd) {a b z TI TO i1 i2 : Addr} (D : ZipSep2 z TI TO i1 i2 [i1, a] [i2, b]) (ha : a ≠ i1) (hb : b ≠ i2) :
    Turn P w K (.Tuple elts kk tpos) (ItzK k l K a b) [z, TI, TO, i1, i2] z (fun i h => IsZip h z TI TO .none ∧ IsTupOf2 h TI (.ref i1) (.ref i2) ∧ (∃ x y, IsTupOf2 h TO x y) ∧ ItKd k h i1 a i ∧ ItKd l h i2 b i) where
  mem := by simp
  obj := fun i h st c hc => by
    obtain ⟨hz, hTI, ⟨x, y, hTO⟩, h1, h2⟩ := st
    have e' : c = z ∨ c = TI ∨ c = TO ∨ c = i1 ∨ c = i2 := by simpa using hc
    rcases e' with q | q | q | q | q
    · rw [q]; exact ⟨_, hz, fun v q => nomatch q⟩
    · rw [q]; exact ⟨_, hTI, fun v q => nomatch q⟩
    · rw [q]; exact ⟨_, hTO, fun v q => nomatch q⟩
    · rw [q]; exact itK_obj h1
    · rw [q]; exact itK_obj h2
  keep := fun i h h' st k => by
    obtain ⟨hz, hTI, ⟨x, y, hTO⟩, h1, h2⟩ := st
    exact ⟨k z (by simp) _ hz, k TI (by simp) _ hTI, ⟨x, y, k TO (by simp) _ hTO⟩, itK_at h1 fun o q => k i1 (by simp) o q, itK_at h2 fun o q => k i2 (by simp) o q⟩
  item := by
    intro X hP hw hK hc i pins s σ H E I hf st hg
    subst hP hw hK
    obtain ⟨hz, hTI, ⟨x0, y0, hTO⟩, h1, h2⟩ := st
    obtain ⟨xs, ys, x, y, hqx, hqy, hx, hy⟩ := hg
    obtain ⟨its, rv, p, _⟩ := inv_sqK I hqx
    obtain ⟨its2, rv2, p2, _⟩ := inv_sqK I hqy
    obtain ⟨u, hu, ru⟩ := rv.get hx
    obtain ⟨u2, hu2, ru2⟩ := rv2.get hy
    have hzl : z < s.heap.objs.size := Heap.lt_size hz
    have hlt1 : i < its.toArray.size := by
      have := (List.getElem?_eq_some_iff.mp hu).1
      simpa using this
    have hlt2 : i < its2.toArray.size := by
      have := (List.getElem?_eq_some_iff.mp hu2).1
      simpa using this
    refine wpAny_pyNext_zipD2_item D (draws_K k (prog := X.prog) (w := X.w) (A := X.A.in1) (I.ok.hd hc) i1 a ha its.toArray) (draws_K l (prog := X.prog) (w := X.w) (A := X.A.in1) (I.ok.hd hc) i2 b hb its2.toArray) hz hTI hTO ⟨h1, p⟩ ⟨h2, p2⟩ hlt1 hlt2
      fun v1 v2 h' tk e1 e2 z' TO' h1' h2' hT hsz hk => ?_
    have e1' : v1 = u := by
      have : its[i]? = some v1 := by simpa using e1
      rw [hu] at this; exact (Option.some.inj this).symm
    have e2' : v2 = u2 := by
      have : its2[i]? = some v2 := by simpa using e2
      rw [hu2] at this; exact (Option.some.inj this).symm
    subst e1' e2'
    refine ⟨_, rfl, wpAny_letOwnedTupleGo_zip (s := { s with heap := h', toks := tk }) z' fun h'' z'' sb => ?_⟩
    have hT2 : h''.get? s.heap.objs.size = some { cls := .type "tuple", data := .seq #[v1, v2] } := (sb.2 _ (Nat.ne_of_gt hzl)).trans hT
    have new : ObjOk X.prog X.w (upd H s.heap.objs.size (.tup [x, y])) h'' s.heap.objs.size (.tup [x, y]) :=
      ⟨by show 2 ≤ sizeLine; decide, [v1, v2], .cons ru (.cons ru2 .nil), ⟨_, hT2, rfl, _, rfl⟩⟩
    have I1 : Inv X pins σ (upd H s.heap.objs.size (.tup [x, y])) { s with heap := h'', toks := tk } :=
      I.turnedNew (t' := tk) (ch := [z, TI, TO, i1, i2]) (fun c o hb q => (sb.2 c (fun q' => hb (by simp [q']))).trans (hk c o (fun q' => hb (by simp [q'])) (fun q' => hb (by simp [q'])) (fun q' => hb (by simp [q'])) (fun q' => hb (by simp [q'])) q)) hf (Nat.le_refl _) new
    refine ⟨.ref s.heap.objs.size, _, I1, rfl, ⟨_, x, y, rfl, I.hok.fresh (Nat.le_refl _), rfl, fun l hl => by rw [sqK_inj I hl hqx]; exact hx, fun l hl => by rw [sqK_inj I hl hqy]; exact hy⟩, ⟨z'', ?_, ⟨v1, v2, ?_⟩, ?_, ?_⟩, fun c hcm => ?_⟩
    · exact (sb.2 _ D.TIz).trans (hk _ _ D.TIz D.TITO D.TIi1 D.TIi2 hTI)
    · exact (sb.2 _ D.TOz).trans TO'
    · exact itK_at h1'.1 fun o q => (sb.2 _ (Ne.symm D.zi1)).trans q
    · exact itK_at h2'.1 fun o q => (sb.2 _ (Ne.symm D.zi2)).trans q
    · have hlt : c < s.heap.objs.size := by
        have e' : c = z ∨ c = TI ∨ c = TO ∨ c = i1 ∨ c = i2 := by simpa using hcm
        rcases e' with q | q | q | q | q
        · rw [q]; exact hzl
        · rw [q]; exact Heap.lt_size hTI
        · rw [q]; exact Heap.lt_size hTO
        · rw [q]; obtain ⟨_, e1, _⟩ := itK_obj h1; exact Heap.lt_size e1
        · rw [q]; obtain ⟨_, e2, _⟩ := itK_obj h2; exact Heap.lt_size e2
      rw [upd_ne (Nat.ne_of_lt hlt)]
      exact (hf c hcm).1
  done := by
    intro X hP hw hK hc i pins s σ H E I hf st hg
    subst hP hw hK
    obtain ⟨hz, hTI, ⟨x0, y0, hTO⟩, h1, h2⟩ := st
    obtain ⟨xs, ys, hqx, hqy, hl1, hl2, hend⟩ := hg
    obtain ⟨its, rv, p, _⟩ := inv_sqK I hqx
    obtain ⟨its2, rv2, p2, _⟩ := inv_sqK I hqy
    have l1 := rv.length
    have l2 := rv2.length
    exact wpAny_pyNext_zipD2_end D (draws_K k (prog := X.prog) (w := X.w) (A := X.A.in1) (I.ok.hd hc) i1 a ha its.toArray) (draws_K l (prog := X.prog) (w := X.w) (A := X.A.in1) (I.ok.hd hc) i2 b hb its2.toArray) hz hTI hTO ⟨h1, p⟩ ⟨h2, p2⟩
      (by simp; omega) (by simp; omega) (by simp; omega) fun h' tk hk => ⟨rfl, I.turnedL (t' := tk) (ch := [z, TI, TO, i1, i2]) (fun c o hb q =>
      hk c o (fun q' => hb (by simp [q'])) (fun q' => hb (by simp [q'])) (fun q' => hb (by simp [q'])) (fun q' => hb (by simp [q'])) q) hf⟩
  self := fun A i s Q E st h => wpAny_pyIter_zip st.1 h
def iZipK (K : PySem.W.Frag) (ta : TA) : TI := fun σ H R => ta σ H fun vs H1 => ∃ k l a b xs ys, vs = [.ref a, .ref b] ∧ SqK k K H1 a xs ∧ SqK l K H1 b ys ∧ R (ItzK k l K a b) H1
theorem pi_zipK {X : Cx} {e e2 : Expr} {ta : TA} {p pos tpos : Pos} {elts : List Expr} {kk : Nat} (hg : L2.Gl X "zip") (hm : X.mg "zip" = none) (ha : L2.PA X [e, e2] ta)
    (hs : starEach [e, e2] X.env = (false, eval e X.env) :: starEach [e2] X.env) (hpl : (backTo pos (starEach [e2] X.env)).any (·.1) = false) :
    PI X (.Tuple elts kk tpos) (.Call (.Name "zip" p) [e, e2] [] pos) (iZipK X.K ta) := by
  refine ⟨fun pins s σ H R I h => ?_⟩
  refine Call_ (L2.ld_blt I hg hm PyProof.Rows.boot_zip (PyProof.Rows.callWith_type1 (L2.thn (ha.run pos pins s σ H _ I h) fun us s1 ⟨vs, H1, I1, r1, q1⟩ => ?_) hs hpl))
  obtain ⟨k, l, a, b, xs, ys, ex, hqx, hqy, q⟩ := q1
  subst ex
  cases r1 with
  | cons r rr =>
    cases rr with
    | cons r' rr =>
      cases rr
      cases r
      cases r'
      have fresh5 : ∀ c, c ∈ [s1.heap.objs.size + 4, s1.heap.objs.size + 2, s1.heap.objs.size + 3, s1.heap.objs.size, s1.heap.objs.size + 1] → FpOk X pins H1 c := fun c hcm => by
        have e' : c = s1.heap.objs.size + 4 ∨ c = s1.heap.objs.size + 2 ∨ c = s1.heap.objs.size + 3 ∨ c = s1.heap.objs.size ∨ c = s1.heap.objs.size + 1 := by simpa using hcm
        have hle : s1.heap.objs.size ≤ c := by
          rcases e' with z | z | z | z | z
          · rw [z]; exact Nat.le_add_right _ _
          · rw [z]; exact Nat.le_add_right _ _
          · rw [z]; exact Nat.le_add_right _ _
          · rw [z]; exact Nat.le_refl _
          · rw [z]; exact Nat.le_add_right _ _
        exact I1.fpOk hle (I1.hok.fresh hle)
      obtain ⟨its, rv, p1, _⟩ := inv_sqK I1 hqx
      obtain ⟨its2, rv2, p2, _⟩ := inv_sqK I1 hqy
      have al := soK_lt p1
      have bl := soK_lt p2
      refine zip_begins2 (begins_K k a its.toArray) (begins_K l b its2.toArray) p1 p2 fun h' hz hTI hTO h1 h2 hsz hk => wpAny_pyIter_zip hz ?_
      have I2 : Inv X pins σ H1 { s1 with heap := h' } := I1.kept (t' := s1.toks) hk
      exact ⟨s1.heap.objs.size + 4, [s1.heap.objs.size + 4, s1.heap.objs.size + 2, s1.heap.objs.size + 3, s1.heap.objs.size, s1.heap.objs.size + 1], _, _, H1, rfl, I2,
        turn_zipK k l (zip_sep2 (fp1 := [a]) (fp2 := [b]) (fun c hc => by simp at hc; rw [hc]; exact al) (fun c hc => by simp at hc; rw [hc]; exact bl)) (Nat.ne_of_lt al) (Nat.ne_of_lt (Nat.lt_succ_of_lt bl)),
        ⟨hz, hTI, ⟨_, _, hTO⟩, itK_new h1, itK_new h2⟩, fresh5, q⟩
/-- a list, a tuple, a text -/
def iSeq (K : PySem.W.Frag) (te : L2.TE) : TI := fun σ H R => te σ H fun v H1 => (∃ a xs, v = .ref a ∧ L2.SqL K H1 a xs ∧ R (L2.Itl K a) H1) ∨ (∃ a xs, v = .ref a ∧ L2.SqT K H1 a xs ∧ R (L2.Itt K a) H1) ∨ ∃ x, v = .str x ∧ R (L2.Its x) H1
theorem pi_seq {X : Cx} {tg l : Expr} {tl : L2.TE} (hl : L2.PE X l tl) : PI X tg l (iSeq X.K tl) := by
  refine ⟨fun pins s σ H R I h => ?_⟩
  refine L2.thn (hl.run pins s σ H _ I h) fun v s1 ⟨x, H1, I1, r1, q1⟩ => ?_
  rcases q1 with ⟨a, xs, e, hq, q⟩ | ⟨a, xs, e, hq, q⟩ | ⟨x, ex, q⟩
  · subst e
    cases r1
    obtain ⟨its, rv, p, hz⟩ := I1.list hq
    refine wpAny_pyIter_list p.isList ?_
    refine ⟨s1.heap.objs.size, [s1.heap.objs.size], _, _, H1, rfl, I1.kept (t' := s1.toks) fun b o e => Heap.get?_push_of_some _ e, L2.turn_list a _, ⟨_, Heap.get?_push_size _ rfl, rfl, rfl⟩, fun b hb => ?_, q⟩
    have e : b = s1.heap.objs.size := by simpa using hb
    subst e
    exact I1.fpOk (Nat.le_refl _) (I1.hok.fresh (Nat.le_refl _))
  · subst e
    cases r1
    obtain ⟨its, rv, p, hz⟩ := I1.tuple hq
    refine wpAny_pyIter_tuple (show s1.heap.IsTuple a its.toArray from p) ?_
    refine ⟨s1.heap.objs.size, [s1.heap.objs.size], _, _, H1, rfl, I1.kept (t' := s1.toks) fun b o e => Heap.get?_push_of_some _ e, L2.turn_tuple a _, ⟨_, Heap.get?_push_size _ rfl, rfl, rfl⟩, fun b hb => ?_, q⟩
    have e : b = s1.heap.objs.size := by simpa using hb
    subst e
    exact I1.fpOk (Nat.le_refl _) (I1.hok.fresh (Nat.le_refl _))
  · subst ex
    obtain ⟨t, rfl⟩ := r1
    cases ha : x.cps.all (· < 128)
    · exact wpAny_pyIter_wide ha (L2.pi_one (tk := s1.toks) I1 _ (L2.turn_str _ x t "str_iterator" (.inr rfl)) ⟨_, Heap.get?_push_size _ rfl, rfl, rfl⟩ q)
    · exact wpAny_pyIter_ascii ha (L2.pi_one (tk := s1.toks) I1 _ (L2.turn_str _ x t "str_ascii_iterator" (.inl rfl)) ⟨_, Heap.get?_push_size _ rfl, rfl, rfl⟩ q)
end Ev
set_option Elab.async false
set_option linter.all false
set_option maxRecDepth 100000
set_option maxHeartbeats 4000000
/-! Own work: each form of an expression. -/
namespace Ev
open PySem PySem.Spec L2

/-- the built-in names that the forms use -/
def biNames : List Str := ["len", "sum", "all", "any", "tuple", "list", "int", "str", "bool", "abs", "isinstance", "range", "enumerate", "zip", "dict", "min", "max", "sorted", "repr", "set", "reversed"]
/-- what a def promises: its meaning -/
def spOf (N : Nm) (K : PySem.W.Frag) (mg : Str → Option Value) (n : Nat) (g : List W → Hs → R Ev.X) : Sp := fun vs H Q E =>
  ∃ (Θ : Pm) (ρ : List Addr) (hp : Hs) (ws : List W), Θ.Ok ∧ (∀ ρ c vs v H, ¬ Θ.er ρ c vs v H) ∧ ws.length = n ∧ RWs N K mg Θ ρ H ws vs ∧ HpR N K mg Θ ρ H hp ∧ Post N K mg Θ (fun c d _ H' => E c d H') [] ρ (RlX N K mg Θ ρ) H hp H (g ws hp) Q
structure CallOk (N : Nm) (C : Cl) (X : Cx) (f : Nat) : Prop where
  ex : ∃ (a : Addr) (fd : FuncData) (ps : List Str) (k : Nat), X.mg (N.fn f) = some (.ref a) ∧ PySem.W.keepIn X.K (.ref a) = true ∧ Binds X.K fd ps [] ∧
    FnOk X.prog X.w X.K X.mg X.base (L2.CX X.prog X.w) k a fd ps (spOf N X.K X.mg (N.ar f) (C.G f)) ∧ Room k X.A
/-- a class that is made -/
structure MkOk (N : Nm) (C : Cl) (X : Cx) (c : Nat) : Prop where
  ex : ∃ (Ca a : Addr) (fd : FuncData) (ps : List Str) (k : Nat) (g : List W → Hs → R Ev.X), X.mg (N.cl c) = some (.ref Ca) ∧ Mk X.K Ca a ∧ Binds X.K fd ps [] ∧
    FnOk X.prog X.w X.K X.mg X.base (L2.CX X.prog X.w) k a fd ps (spOf N X.K X.mg (N.am c + 1) g) ∧ Room (k + 1) X.A ∧ C.mkO c = mkBy c g
/-- an own error that is raised: without its own __init__, or with one that keeps one field -/
def veM : List Value := [.type "ValueError", .type "Exception", .type "BaseException", .type "object"]
def spInit (K : PySem.W.Frag) (Ca : Addr) (f : Str) : Sp := fun vs H Q E => ∃ a v, vs = [.ref a, v] ∧ H a = some (exo a Ca none) ∧ ∀ dx, H dx = none → dx ≠ a → Q .non (upd (upd H dx (exd dx [(f, v)])) a (exo a Ca (some dx)))
structure ExOk (N : Nm) (X : Cx) (c : Nat) : Prop where
  ex : ∃ Ca : Addr, X.mg (N.cl c) = some (.ref Ca) ∧ Raises X (.ref Ca) ∧ PySem.W.keepIn X.K (.ref Ca) = true ∧ ((N.xf c = none ∧ PySem.W.excIn X.K Ca veM "ValueError.__new__" = true) ∨
    ∃ (f : Str) (fI : Addr) (k : Nat) (fd : FuncData) (ps : List Str), N.xf c = some f ∧ OexC X.K Ca ∧ PySem.W.findIn X.K (.ref Ca) "__init__" = some (some (.ref fI)) ∧ PySem.W.typeIn X.K (.ref fI) = some (.type "function") ∧
      FnOk X.prog X.w X.K X.mg X.base (L2.CX X.prog X.w) k fI fd ps (spInit X.K Ca f) ∧ Binds X.K fd ps [] ∧ Room (k + 1) X.A)
/-- an instance's class -/
structure InsOk (K : PySem.W.Frag) (Ca : Addr) : Prop where
  cl : Cls K Ca
  ha : PySem.W.findIn K (.ref Ca) "__class__" = some (some (.builtin "object.__class__"))
  hn : PySem.W.specialIn K (.builtin "object.__class__") "__get__" = some (some (.builtin "getset_descriptor.__get__"))
  htk : PySem.W.takesIn K (.builtin "object.__class__") = some true
  hm : PySem.W.mroIn K Ca (.type "object") = some true
def tyNames : List String := ["NoneType", "bool", "int", "str", "tuple", "list", "dict"]
def Ty.nm : Ty → String
  | .int => "int" | .bool => "bool" | .str => "str" | .tuple => "tuple" | .list => "list" | .dict => "dict" | .own _ => ""
/-- what the errors' classes say -/
structure ExF (N : Nm) (C : Cl) (K : PySem.W.Frag) (mg : Str → Option Value) : Prop where
  kit : ∀ c c', N.ke c = true → N.kt c' = true → ∀ Ca Cb, mg (N.cl c) = some (.ref Ca) → mg (N.cl c') = some (.ref Cb) → PySem.W.kitOne K (.ref Ca) (.ref Cb) = some (C.sub c c')
  kve : ∀ c, N.ke c = true → ∀ Ca, mg (N.cl c) = some (.ref Ca) → PySem.W.kitOne K (.ref Ca) (.type "ValueError") = some true
  nve : mg "ValueError" = none
  exc : ∀ c, N.ke c = true → ∀ Ca, mg (N.cl c) = some (.ref Ca) → L2.ExcC K Ca
  xno : ∀ c f, N.ke c = true → N.xf c = some f → ∀ Ca, mg (N.cl c) = some (.ref Ca) → PySem.W.findIn K (.ref Ca) f = some none
  xfl : ∀ c f, C.xfl c = some f → N.xf c = some (N.fl f)
structure Ck (N : Nm) (C : Cl) (Θ : Pm) (X : Cx) (W : WX) (hot : Bool) : Prop where
  pm : Θ.Ok
  nd : X.N.Nodup
  calm : hot = false → X.calm = true
  units : X.A.units + 64 < cLine
  tk : Takes X W
  bi : ∀ x ∈ biNames, X.mg x = none
  gl : ∀ g d, C.gl g = some d → ∃ u v, X.mg (N.gl g) = some u ∧ RelV v u ∧ ∀ H B, Rep N X.K X.mg H B d v
  fnv : ∀ f, C.kf f = true → ∃ a, X.mg (N.fn f) = some (.ref a)
  call : hot = false → ∀ f, C.kf f = true → CallOk N C X f
  mkO : hot = false → ∀ c, C.km c = true → MkOk N C X c
  insOk : ∀ c, N.kc c = true → ∃ Ca, X.mg (N.cl c) = some (.ref Ca) ∧ InsOk X.K Ca
  insFd : ∀ c, N.kc c = true → (N.fd c).Nodup ∧ ∀ f ∈ N.fd c, ∀ Ca, X.mg (N.cl c) = some (.ref Ca) → NoAttr X.K Ca f
  insNf : ∀ c f i, C.nf c f = some i → N.kc c = true ∧ ∃ x, (N.fd c)[i]? = some x ∧ x = N.fl f
  kitB : ∀ t ∈ tyNames, ∀ c Ca, X.mg (N.cl c) = some (.ref Ca) → N.kt c = true → PySem.W.kitOne X.K (.type t) (.ref Ca) = some false
  kitI : ∀ c, N.kc c = true → ∀ Ca, X.mg (N.cl c) = some (.ref Ca) → ∀ t ∈ tyNames, PySem.W.kitOne X.K (.ref Ca) (.type t) = some false
  kitO : ∀ c c', N.kc c = true → N.kt c' = true → ∀ Ca Cb, X.mg (N.cl c) = some (.ref Ca) → X.mg (N.cl c') = some (.ref Cb) → PySem.W.kitOne X.K (.ref Ca) (.ref Cb) = some (C.sub c c')
  kcC : ∀ c, C.kc c = true → N.kc c = true
  clv : ∀ c, N.kt c = true → ∃ a, X.mg (N.cl c) = some (.ref a)
  exm : ∀ c c', N.ke c = true → N.kx c' = true → ∀ Ca Cb, X.mg (N.cl c) = some (.ref Ca) → X.mg (N.cl c') = some (.ref Cb) → PySem.W.exmOne X.K (.ref Ca) (.ref Cb) = some (C.sub c c')
  noer : hot = false → ∀ ρ c vs v H, ¬ Θ.er ρ c vs v H
  exc : hot = false → ∀ c, N.ke c = true → ExOk N X c
  xs : ExF N C X.K X.mg

theorem star_ok {e : Expr} (h : ∀ a q, e ≠ .Starred a q) (es : List Expr) (env : PySem.Env) : starEach (e :: es) env = (false, eval e env) :: starEach es env := by
  cases e <;> first | exact absurd rfl (h _ _) | simp only [starEach]
theorem star_one {e : Expr} (h : ∀ a q, e ≠ .Starred a q) (env : PySem.Env) : starEach [e] env = [(false, eval e env)] := by
  rw [star_ok h]; simp only [starEach]
theorem star_any {pos : Pos} {env : PySem.Env} : ∀ {es : List Expr}, (∀ y ∈ es, ∀ a q, y ≠ .Starred a q) → (backTo pos (starEach es env)).any (·.1) = false
  | [], _ => by simp only [starEach]; rfl
  | e :: es, h => by
    rw [star_ok (h e List.mem_cons_self)]
    show (backTo pos ((false, eval e env) :: starEach es env)).any (·.1) = false
    unfold backTo
    rw [List.map_cons, List.any_cons]
    have ih := star_any (pos := pos) (env := env) (es := es) fun y hy => h y (List.mem_cons_of_mem _ hy)
    unfold backTo at ih
    rw [ih]
    rfl

section
variable {N : Nm} {C : Cl} {Θ : Pm} {X : Cx} {W : WX} {hot : Bool}
theorem Ck.b (ck : Ck N C Θ X W hot) (x : Str) (h : biNames.contains x = true := by decide) : X.mg x = none := ck.bi x (by simpa using h)
/-! ### names, constants -/
theorem s_var (ck : Ck N C Θ X W hot) {i : Nat} {x : Str} {pos : Pos} (hi : X.N[i]? = some x) (hv : Vis X.env.scope x) (h1 : (x == ("__debug__" : Str)) = false) (h2 : (x == ("__classdict__" : Str)) = false) : PE X (.Name x pos) (tE N C Θ X W (.var i)) := by
  refine (pe_var hi hv h1 h2).imp fun σ H Q ⟨ρ, env, hp, st, hr, po⟩ => ?_
  unfold ev at po
  split at po
  · rename_i d e
    obtain ⟨v, e1, r⟩ := st.2 i _ e
    exact ⟨v, e1, po v H (.refl hr) ⟨r, trivial⟩⟩
  · rename_i j e
    obtain ⟨v, e1, r⟩ := st.2 i _ e
    exact ⟨v, e1, po v H (.refl hr) ⟨r, trivial⟩⟩
  · exact po.elim
theorem s_cst {v : V} {e : Expr} {d : D} (h : PE X e (tC v)) (r : ∀ H B, Rep N X.K X.mg H B d v) : PE X e (tE N C Θ X W (.cst d)) :=
  h.imp fun σ H Q ⟨ρ, env, hp, st, hr, po⟩ => by
    simp only [ev] at po
    exact po v H (.refl hr) ⟨r _ _, trivial⟩
theorem s_glb (ck : Ck N C Θ X W hot) {g : Nat} {pos : Pos} (hg : Gl X (N.gl g)) (hd : ((N.gl g) == ("__debug__" : Str)) = false) : PE X (.Name (N.gl g) pos) (tE N C Θ X W (.glb g)) := by
  cases e : C.gl g with
  | none =>
    refine ⟨fun pins s σ H Q I ⟨ρ, env, hp, st, hr, po⟩ => ?_⟩
    simp only [ev, e] at po
    exact po.elim
  | some d =>
    obtain ⟨u, v, h1, h2, h3⟩ := ck.gl g d e
    refine (pe_glob hg h1 h2 hd).imp fun σ H Q ⟨ρ, env, hp, st, hr, po⟩ => ?_
    simp only [ev, e] at po
    exact po v H (.refl hr) ⟨h3 _ _, trivial⟩
theorem s_fnv (ck : Ck N C Θ X W hot) {f : Nat} {pos : Pos} (hk : C.kf f = true) (hg : Gl X (N.fn f)) (hd : ((N.fn f) == ("__debug__" : Str)) = false) : PE X (.Name (N.fn f) pos) (tE N C Θ X W (.fnv f)) := by
  obtain ⟨a, h1⟩ := ck.fnv f hk
  refine (pe_glob (v := .ref a) hg h1 rfl hd).imp fun σ H Q ⟨ρ, env, hp, st, hr, po⟩ => ?_
  simp only [ev] at po
  exact po _ H (.refl hr) ⟨by show Rep _ _ _ _ _ _ _; unfold Rep; exact ⟨a, rfl, h1⟩, trivial⟩

/-! ### rows, displays -/
theorem a_nil : PA X [] (tA N C Θ X W .nil) := pa_nil.imp fun σ H Q ⟨ρ, env, hp, st, hr, po⟩ => by
  simp only [evs] at po
  exact po [] H (.refl hr) rfl
theorem RXs.mono {N : Nm} {K : PySem.W.Frag} {mg : Str → Option Value} {Θ : Pm} {ρ : List Addr} {hp hp' : Hs} {H H' H0 : Hp} (hΘ : Θ.Ok) (a : Aft N K mg Θ ρ hp ρ hp' H H') : ∀ {xs : List Ev.X} {vs : List V}, RXs N K mg Θ ρ H0 H xs vs → RXs N K mg Θ ρ H0 H' xs vs
  | [], vs, h => h
  | x :: xs, vs, h => by
    obtain ⟨v, r, e, h1, h2⟩ := h
    exact ⟨v, r, e, h1.mono hΘ a, RXs.mono hΘ a h2⟩
theorem RXs.sooner {N : Nm} {K : PySem.W.Frag} {mg : Str → Option Value} {Θ : Pm} {ρ : List Addr} {H H1 H0 : Hp} (hd : ∀ a, Fs H1 a → Fs H0 a) : ∀ {xs : List Ev.X} {vs : List V}, RXs N K mg Θ ρ H1 H xs vs → RXs N K mg Θ ρ H0 H xs vs
  | [], vs, h => h
  | x :: xs, vs, h => by
    obtain ⟨v, r, e, h1, h2⟩ := h
    exact ⟨v, r, e, h1.sooner hd, RXs.sooner hd h2⟩
theorem a_cons (ck : Ck N C Θ X W hot) {x : Expr} {xs : List Expr} {a b : E} (hs : ∀ a q, x ≠ .Starred a q) (ha : PE X x (tE N C Θ X W a)) (hb : PA X xs (tA N C Θ X W b)) : PA X (x :: xs) (tA N C Θ X W (.cons a b)) := by
  refine (pa_cons ha hb (star_ok hs _ _)).imp fun σ H Q ⟨ρ, env, hp, st, hr, po⟩ => ?_
  simp only [evs] at po
  refine tE_bnd ck.pm st hr po fun x1 hp1 v H1 af rx st1 hr1 po1 => tA_bnd ck.pm st1 hr1 po1 fun xs1 hp2 vs H2 af2 rxs st2 hr2 po2 => ?_
  exact po2 _ H2 (.refl hr2) ⟨v, vs, rfl, rx.mono ck.pm af2, rxs.sooner af.dom⟩
end
end Ev
set_option Elab.async false
set_option linter.all false
set_option maxRecDepth 100000
set_option maxHeartbeats 4000000
/-! Own work: the further forms of an expression. -/
namespace Ev
open PySem PySem.Spec L2

theorem evs_len (C : Cl) : ∀ (es : E) (env : Env) (h : Hs) (xs : List Ev.X) (h' : Hs), evs C es env h = some (.ok xs, h') → xs.length = es.cnt
  | .nil, env, h, xs, h', e => by simp only [evs] at e; cases e; rfl
  | .cons a b, env, h, xs, h', e => by
    simp only [evs] at e
    match h1 : ev C a env h with
    | none => rw [h1] at e; cases e
    | some (.err c v, h2) => rw [h1] at e; cases e
    | some (.ok x, h2) =>
      rw [h1, bnd_ok] at e
      match h3 : evs C b env h2 with
      | none => rw [h3] at e; cases e
      | some (.err c v, h4) => rw [h3] at e; cases e
      | some (.ok ys, h4) =>
        rw [h3, bnd_ok] at e
        have e2 : x :: ys = xs := by injection e with e; injection e with e1 e2; injection e1
        rw [← e2, List.length_cons, evs_len C b env h2 ys h4 h3, E.cnt]
  | .var _, _, _, _, _, e => by simp [evs] at e
  | .cst _, _, _, _, _, e => by simp [evs] at e
  | .glb _, _, _, _, _, e => by simp [evs] at e
  | .fnv _, _, _, _, _, e => by simp [evs] at e
  | .tup _, _, _, _, _, e => by simp [evs] at e
  | .lst _, _, _, _, _, e => by simp [evs] at e
  | .dct0, _, _, _, _, e => by simp [evs] at e
  | .op1 _ _, _, _, _, _, e => by simp [evs] at e
  | .op2 _ _ _, _, _, _, _, e => by simp [evs] at e
  | .opm _ _ _, _, _, _, _, e => by simp [evs] at e
  | .chain _ _ _ _ _, _, _, _, _, e => by simp [evs] at e
  | .cut _ _ _, _, _, _, _, e => by simp [evs] at e
  | .no, _, _, _, _, e => by simp [evs] at e
  | .and _ _, _, _, _, _, e => by simp [evs] at e
  | .or _ _, _, _, _, _, e => by simp [evs] at e
  | .not _, _, _, _, _, e => by simp [evs] at e
  | .ife _ _ _, _, _, _, _, e => by simp [evs] at e
  | .call _ _, _, _, _, _, e => by simp [evs] at e
  | .mk _ _, _, _, _, _, e => by simp [evs] at e
  | .fld _ _, _, _, _, _, e => by simp [evs] at e
  | .isi _ _, _, _, _, _, e => by simp [evs] at e
  | .rng _, _, _, _, _, e => by simp [evs] at e
  | .rng2 _ _, _, _, _, _, e => by simp [evs] at e
  | .enum _, _, _, _, _, e => by simp [evs] at e
  | .zip _ _, _, _, _, _, e => by simp [evs] at e
  | .comp _ _ _ _ _, _, _, _, _, e => by simp [evs] at e
  | .yes, _, _, _, _, e => by simp [evs] at e
  | .lam _ _, _, _, _, _, e => by simp [evs] at e
  | .act _, _, _, _, _, e => by simp [evs] at e
  | .app _ _, _, _, _, _, e => by simp [evs] at e
  | .eqo _ _ _ _, _, _, _, _, e => by simp [evs] at e
  | .exisi _ _, _, _, _, _, e => by simp [evs] at e
  | .exfld _ _, _, _, _, _, e => by simp [evs] at e
  | .exve _, _, _, _, _, e => by simp [evs] at e
  | .opl _ _ _, _, _, _, _, e => by simp [evs] at e

section
variable {N : Nm} {C : Cl} {Θ : Pm} {X : Cx} {W : WX} {hot : Bool}
theorem RXs.len {N : Nm} {K : PySem.W.Frag} {mg : Str → Option Value} {Θ : Pm} {ρ : List Addr} {H H0 : Hp} : ∀ {xs : List Ev.X} {vs : List V}, RXs N K mg Θ ρ H0 H xs vs → xs.length = vs.length
  | [], vs, h => by rw [show vs = [] from h] <;> rfl
  | x :: xs, vs, h => by
    obtain ⟨v, r, e, h1, h2⟩ := h
    rw [e, List.length_cons, List.length_cons, RXs.len h2]
theorem RXs.toD {N : Nm} {K : PySem.W.Frag} {mg : Str → Option Value} {Θ : Pm} {ρ : List Addr} {H H0 : Hp} : ∀ {xs : List Ev.X} {vs : List V} {ds : List D}, RXs N K mg Θ ρ H0 H xs vs → allToD xs = some ds → RepL N K mg H (InR ρ) ds vs
  | [], vs, ds, h, e => by
    simp only [allToD] at e
    cases e
    exact RepL.nil_iff.mpr h
  | x :: xs, vs, ds, h, e => by
    obtain ⟨v, r, e1, h1, h2⟩ := h
    simp only [allToD] at e
    split at e
    · rename_i d ds' q1 q2
      cases e
      exact RepL.cons_iff.mpr ⟨v, r, e1, h1.toD q1, RXs.toD h2 q2⟩
    · cases e
theorem RXs.toW {N : Nm} {K : PySem.W.Frag} {mg : Str → Option Value} {Θ : Pm} {ρ : List Addr} {H H0 : Hp} : ∀ {xs : List Ev.X} {vs : List V} {ds : List Ev.W}, RXs N K mg Θ ρ H0 H xs vs → argsW xs = some ds → RWs N K mg Θ ρ H ds vs ∧ ds.length = xs.length
  | [], vs, ds, h, e => by
    simp only [argsW] at e
    cases e
    exact ⟨h, rfl⟩
  | x :: xs, vs, ds, h, e => by
    obtain ⟨v, r, e1, h1, h2⟩ := h
    simp only [argsW] at e
    split at e
    · rename_i d ds' q1 q2
      cases e
      obtain ⟨i1, i2⟩ := RXs.toW h2 q2
      exact ⟨⟨v, r, e1, h1.toW q1, i1⟩, by rw [List.length_cons, List.length_cons, i2]⟩
    · cases e
/-- a row, with its length -/
theorem tA_bnd2 {H B0 : Hp} {σ : L2.St} {A B : Type} {L : Rl A B} {e : E} {ρ : List Addr} {env : Env} {hp : Hs} {k : List Ev.X → Hs → R A} {Q : B → Hp → Prop} {T : List V → Hp → Prop} (hΘ : Θ.Ok) (st : StR N X.K X.mg Θ ρ H env σ) (hr : HpR N X.K X.mg Θ ρ H hp)
    (po : Post N X.K X.mg Θ W σ ρ L B0 hp H (bnd (evs C e env hp) k) Q)
    (w : ∀ x hp1 v H1, x.length = e.cnt → Aft N X.K X.mg Θ ρ hp ρ hp1 H H1 → RXs N X.K X.mg Θ ρ H H1 x v → StR N X.K X.mg Θ ρ H1 env σ → HpR N X.K X.mg Θ ρ H1 hp1 → Post N X.K X.mg Θ W σ ρ L B0 hp1 H1 (k x hp1) Q → T v H1) : tA N C Θ X W e σ H T := by
  refine ⟨ρ, env, hp, st, hr, ?_⟩
  match h1 : evs C e env hp, po with
  | some (.ok x, hp1), po =>
    exact fun v H1 af rx => w x hp1 v H1 (evs_len C e env hp x hp1 h1) af rx (st.mono hΘ af) af.hpr (Post.next po af)
  | some (.err c v, hp1), po => exact po
  | none, po => exact po.elim
theorem rl_bl {B0 H : Hp} {ρ : List Addr} {hp : Hs} (k : Bool) : (RlX N X.K X.mg Θ ρ).rel B0 H hp (.d (.bl k)) (.bl k) := rx_bl (N := N) (Θ := Θ) (X := X) (ρ := ρ) (H := H) (H0 := B0) k
theorem rlx {N : Nm} {K : PySem.W.Frag} {mg : Str → Option Value} {Θ : Pm} {B0 H : Hp} {ρ : List Addr} {hp : Hs} {x : Ev.X} {v : V} (h : RXF N K mg Θ ρ H hp B0 x v) : (RlX N K mg Θ ρ).rel B0 H hp x v := h
theorem small_size {n : Nat} (h : n ≤ 1000) : n ≤ sizeLine := by
  have : sizeLine = 16777216 := by decide
  omega
theorem s_tup (ck : Ck N C Θ X W hot) {xs : List Expr} {es : E} {k : Nat} {pos : Pos} (hl : es.cnt ≤ 1000) (h : PA X xs (tA N C Θ X W es)) : PE X (.Tuple xs k pos) (tE N C Θ X W (.tup es)) := by
  refine (pe_tup h).imp fun σ H Q ⟨ρ, env, hp, st, hr, po⟩ => ?_
  simp only [ev] at po
  refine tA_bnd2 ck.pm st hr po fun ys hp1 vs H1 len af rx st1 hr1 po1 => ?_
  obtain ⟨z, e, q⟩ := po1.lift
  obtain ⟨ds, e1, rfl⟩ := Option.map_eq_some_iff.mp e
  have hlen : vs.length ≤ sizeLine := by rw [← rx.len, len]; exact small_size hl
  exact ⟨hlen, fun p hp0 => q _ _ (.new ck.pm hr1 hp0) (rlx (rx_newT hr1 hp0 hlen (rx.toD e1)))⟩
theorem s_lst (ck : Ck N C Θ X W hot) {xs : List Expr} {es : E} {pos : Pos} (hl : es.cnt ≤ 1000) (h : PA X xs (tA N C Θ X W es)) : PE X (.List xs pos) (tE N C Θ X W (.lst es)) := by
  refine (pe_lst h).imp fun σ H Q ⟨ρ, env, hp, st, hr, po⟩ => ?_
  simp only [ev] at po
  refine tA_bnd2 ck.pm st hr po fun ys hp1 vs H1 len af rx st1 hr1 po1 => ?_
  obtain ⟨z, e, q⟩ := po1.lift
  obtain ⟨ds, e1, rfl⟩ := Option.map_eq_some_iff.mp e
  have hlen : vs.length ≤ sizeLine := by rw [← rx.len, len]; exact small_size hl
  exact ⟨hlen, fun p hp0 => q _ _ (.new ck.pm hr1 hp0) (rlx (RXF.sooner af.dom (rx_newL hr1 hp0 hlen (rx.toD e1))))⟩
/-! ### operators -/
theorem hid {H : Hp} : ∀ x, Fs H x → Fs H x := fun _ h => h
theorem s_op2 (ck : Ck N C Θ X W hot) {o : Op2} {op : Operator} {f : D → D → Option Ev.X} {a b : E} {x y : Expr} {pos : Pos} (ho : OpR X (binaryOp op) (rOp N Θ X f)) (hf : ∀ d e, sem2 o d e = f d e)
    (ha : PE X x (tE N C Θ X W a)) (hb : PE X y (tE N C Θ X W b)) : PE X (.BinOp x op y pos) (tE N C Θ X W (.op2 o a b)) := by
  refine (pe_op ho ha hb).imp fun σ H Q ⟨ρ, env, hp, st, hr, po⟩ => ?_
  simp only [ev, hf] at po
  exact tE_op2 ck.pm st hr hid po
theorem s_cmp (ck : Ck N C Θ X W hot) {o : Op2} {op : CmpOp} {f : D → D → Option Ev.X} {a b : E} {x y : Expr} {pos : Pos} (ho : OpR X (compareOp op) (rOp N Θ X f)) (hf : ∀ d e, sem2 o d e = f d e) (hm : behindInMarks op y = false)
    (ha : PE X x (tE N C Θ X W a)) (hb : PE X y (tE N C Θ X W b)) : PE X (.Compare x [op] [y] pos) (tE N C Θ X W (.op2 o a b)) := by
  refine (pe_cmpR ho ha hb hm).imp fun σ H Q ⟨ρ, env, hp, st, hr, po⟩ => ?_
  simp only [ev, hf] at po
  exact tE_op2 ck.pm st hr hid po
theorem toB_some {x : Ev.X} {k : Bool} (h : toB x = some k) : x = .d (.bl k) := by
  unfold toB at h
  split at h
  · cases h; rfl
  · cases h
theorem rx_bl_eq {N : Nm} {K : PySem.W.Frag} {mg : Str → Option Value} {Θ : Pm} {ρ : List Addr} {H H0 : Hp} {k : Bool} {v : V} (h : RX N K mg Θ ρ H H0 (.d (.bl k)) v) : v = .bl k := by
  have h2 : Rep N K mg H (InR ρ) (.bl k) v := h
  unfold Rep at h2
  exact h2
/-- a test, from the value -/
theorem tT_val (ck : Ck N C Θ X W hot) {e : E} {σ : L2.St} {H : Hp} {Q : Bool → Hp → Prop} (h : tT N C Θ X W e σ H Q) : tE N C Θ X W e σ H (fun v H1 => ∃ k, v = .bl k ∧ Q k H1) := by
  obtain ⟨ρ, env, hp, st, hr, po⟩ := h
  refine tE_bnd ck.pm st hr po fun x hp1 v H1 af rx st1 hr1 po1 => ?_
  obtain ⟨k, e1, q⟩ := po1.lift
  rw [toB_some e1] at rx
  exact ⟨k, rx_bl_eq rx, q k H1 (.refl hr1) rfl⟩
theorem t_val (ck : Ck N C Θ X W hot) {e : E} {x : Expr} (h : PE X x (tE N C Θ X W e)) (he : ∀ whole, isTrue x X.env whole = (do let v ← whole; standAt x.pos; holding [v] (truthy v))) : PT X x (tT N C Θ X W e) :=
  (pt_val h he).imp fun σ H Q q => tT_val ck q
theorem t_cmp (ck : Ck N C Θ X W hot) {o : Op2} {op : CmpOp} {f : D → D → Option Ev.X} {a b : E} {x y : Expr} {pos : Pos} (ho : OpR X (compareOp op) (rOp N Θ X f)) (hf : ∀ d e, sem2 o d e = f d e) (hm : behindInMarks op y = false)
    (ha : PE X x (tE N C Θ X W a)) (hb : PE X y (tE N C Θ X W b)) : PT X (.Compare x [op] [y] pos) (tT N C Θ X W (.op2 o a b)) := by
  refine (pt_cmpR ho ha hb hm).imp fun σ H Q q => ?_
  obtain ⟨ρ, env, hp, st, hr, po⟩ := tT_val ck q
  simp only [ev, hf] at po
  exact tE_op2 ck.pm st hr hid po
theorem tE_chain (ck : Ck N C Θ X W hot) {o o' : Op2} {f f' : D → D → Option Ev.X} {a b c : E} (hf : ∀ d e, sem2 o d e = f d e) (hf' : ∀ d e, sem2 o' d e = f' d e) {σ : L2.St} {H : Hp} {Q : VK}
    (h : tE N C Θ X W (.chain o o' a b c) σ H Q) : tChain (rOp N Θ X f) (rOp N Θ X f') (tE N C Θ X W a) (tE N C Θ X W b) (tE N C Θ X W c) σ H Q := by
  obtain ⟨ρ, env, hp, st, hr, po⟩ := h
  simp only [ev, hf, hf'] at po
  refine tE_bnd ck.pm st hr po fun x hp1 v H1 af rx st1 hr1 po1 => tE_bnd ck.pm st1 hr1 po1 fun y hp2 u H2 af2 ry st2 hr2 po2 => ?_
  cases e : ((x.rd hp2).bind fun d => (y.rd hp2).bind fun e => f d e).bind toB with
  | none => rw [e] at po2; exact po2.elim
  | some k =>
    rw [e, lift_some, bnd_ok] at po2
    obtain ⟨z, e0, ek⟩ := opt_bind e
    obtain ⟨d, e1, e2⟩ := opt_bind e0
    obtain ⟨d2, e3, e4⟩ := opt_bind e2
    have ez := toB_some ek
    subst ez
    refine ⟨ρ, hp2, d, d2, _, hr2, (rx.mono ck.pm af2).rd hr2 e1, ry.rd hr2 e3, e4, fun w H3 af3 rz => ⟨k, rx_bl_eq rz.1, ?_⟩⟩
    cases k with
    | false => exact po2 _ H3 af3 (rl_bl _)
    | true =>
      have po3 := Post.next po2 af3
      refine tE_bnd ck.pm (st2.mono ck.pm af3) af3.hpr po3 fun z hp4 w' H4 af4 rz4 st4 hr4 po4 => ?_
      obtain ⟨zz, e5, q⟩ := po4.lift
      obtain ⟨d5, e6, e7⟩ := opt_bind e5
      obtain ⟨d6, e8, e9⟩ := opt_bind e7
      exact ⟨ρ, hp4, d5, d6, zz, hr4, ((ry.mono ck.pm af3).mono ck.pm af4).rd hr4 e6, rz4.rd hr4 e8, e9, fun w2 H5 af5 rz5 => q w2 H5 af5 (rz5.sooner fun a z => af.dom a (af2.dom a (af3.dom a (af4.dom a z))))⟩
theorem lastMarks_two {op op' : CmpOp} {b c : Expr} (h2 : behindInMarks op' c = false) : lastMarks [op, op'] [b, c] = false := by
  show lastMarks [op'] [c] = false
  exact h2
theorem s_chain (ck : Ck N C Θ X W hot) {o o' : Op2} {op op' : CmpOp} {f f' : D → D → Option Ev.X} {a b c : E} {x y z : Expr} {pos : Pos} (ho : OpR X (compareOp op) (rOp N Θ X f)) (ho' : OpR X (compareOp op') (rOp N Θ X f')) (hf : ∀ d e, sem2 o d e = f d e) (hf' : ∀ d e, sem2 o' d e = f' d e)
    (hm : behindInMarks op' z = false) (ha : PE X x (tE N C Θ X W a)) (hb : PE X y (tE N C Θ X W b)) (hc : PE X z (tE N C Θ X W c)) : PE X (.Compare x [op, op'] [y, z] pos) (tE N C Θ X W (.chain o o' a b c)) :=
  (pe_chain ho ho' ha hb hc (lastMarks_two hm)).imp fun σ H Q h => tE_chain ck hf hf' h
theorem t_chain (ck : Ck N C Θ X W hot) {o o' : Op2} {op op' : CmpOp} {f f' : D → D → Option Ev.X} {a b c : E} {x y z : Expr} {pos : Pos} (ho : OpR X (compareOp op) (rOp N Θ X f)) (ho' : OpR X (compareOp op') (rOp N Θ X f')) (hf : ∀ d e, sem2 o d e = f d e) (hf' : ∀ d e, sem2 o' d e = f' d e)
    (hm : behindInMarks op' z = false) (ha : PE X x (tE N C Θ X W a)) (hb : PE X y (tE N C Θ X W b)) (hc : PE X z (tE N C Θ X W c)) : PT X (.Compare x [op, op'] [y, z] pos) (tT N C Θ X W (.chain o o' a b c)) :=
  (pt_chain ho ho' ha hb hc (lastMarks_two hm)).imp fun σ H Q h => tE_chain ck hf hf' (tT_val ck h)
theorem s_ix (ck : Ck N C Θ X W hot) {a b : E} {x y : Expr} {pos : Pos} (hs : PlainIx y) (ha : PE X x (tE N C Θ X W a)) (hb : PE X y (tE N C Θ X W b)) : PE X (.Subscript x y pos) (tE N C Θ X W (.op2 .ix a b)) := by
  refine (pe_ix (ix_D (N := N) (Θ := Θ)) ha hb hs).imp fun σ H Q ⟨ρ, env, hp, st, hr, po⟩ => ?_
  have hf : ∀ d e, sem2 .ix d e = ixD d e := fun d e => by cases d <;> rfl
  simp only [ev, hf] at po
  exact tE_op2 ck.pm st hr hid po
theorem s_neg (ck : Ck N C Θ X W hot) {a : E} {x : Expr} {pos : Pos} (ha : PE X x (tE N C Θ X W a)) : PE X (.UnaryOp .USub x pos) (tE N C Θ X W (.op1 .neg a)) := by
  refine (pe_un (un_negD (N := N) (Θ := Θ)) ha).imp fun σ H Q ⟨ρ, env, hp, st, hr, po⟩ => ?_
  simp only [ev] at po
  exact tE_op1 ck.pm st hr hid po
theorem s_not (ck : Ck N C Θ X W hot) {a : E} {x : Expr} {pos : Pos} (ha : PE X x (tE N C Θ X W a)) : PE X (.UnaryOp .Not x pos) (tE N C Θ X W (.not a)) := by
  refine (pe_not ha).imp fun σ H Q ⟨ρ, env, hp, st, hr, po⟩ => ?_
  simp only [ev] at po
  refine tE_bnd ck.pm st hr po fun x1 hp1 v H1 af rx st1 hr1 po1 => ?_
  obtain ⟨z, e, q⟩ := po1.lift
  obtain ⟨k, e1, rfl⟩ := Option.map_eq_some_iff.mp e
  rw [toB_some e1] at rx
  exact ⟨k, rx_bl_eq rx, q _ _ (.refl hr1) (rl_bl _)⟩
theorem t_not (ck : Ck N C Θ X W hot) {a : E} {x : Expr} {pos : Pos} (ha : PT X x (tT N C Θ X W a)) : PT X (.UnaryOp .Not x pos) (tT N C Θ X W (.not a)) := by
  refine (pt_not ha).imp fun σ H Q ⟨ρ, env, hp, st, hr, po⟩ => ?_
  simp only [ev] at po
  refine ⟨ρ, env, hp, st, hr, ?_⟩
  match h1 : ev C a env hp with
  | none => rw [h1] at po; exact po.elim
  | some (.err c v, h) => rw [h1] at po; exact po
  | some (.ok x1, h) =>
    rw [h1] at po
    show Post _ _ _ _ _ _ _ _ _ _ _ (lift (toB x1) h) _
    simp only [bnd_ok] at po
    cases h2 : toB x1 with
    | none => rw [h2] at po; exact po.elim
    | some k =>
      rw [h2] at po
      exact fun b H' af e => po _ H' af (by have e2 : k = b := e; subst e2; rfl)
theorem s_and (ck : Ck N C Θ X W hot) {a b : E} {x y : Expr} {rest : List Expr} {pos : Pos} (ha : PE X x (tE N C Θ X W a)) (hb : PE X (.BoolOp .And (y :: rest) pos) (tE N C Θ X W b)) : PE X (.BoolOp .And (x :: y :: rest) pos) (tE N C Θ X W (.and a b)) := by
  refine (pe_and ha hb).imp fun σ H Q ⟨ρ, env, hp, st, hr, po⟩ => ?_
  simp only [ev] at po
  refine tE_bnd ck.pm st hr po fun x1 hp1 v H1 af rx st1 hr1 po1 => ?_
  cases e : toB x1 with
  | none => rw [e] at po1; exact po1.elim
  | some k =>
    rw [e, lift_some, bnd_ok] at po1
    rw [toB_some e] at rx
    refine ⟨k, rx_bl_eq rx, ?_⟩
    cases k with
    | true => exact ⟨ρ, env, hp1, st1, hr1, Post.base po1 af.dom⟩
    | false => exact po1 _ H1 (.refl hr1) (rl_bl _)
theorem s_or (ck : Ck N C Θ X W hot) {a b : E} {x y : Expr} {rest : List Expr} {pos : Pos} (ha : PE X x (tE N C Θ X W a)) (hb : PE X (.BoolOp .Or (y :: rest) pos) (tE N C Θ X W b)) : PE X (.BoolOp .Or (x :: y :: rest) pos) (tE N C Θ X W (.or a b)) := by
  refine (pe_or ha hb).imp fun σ H Q ⟨ρ, env, hp, st, hr, po⟩ => ?_
  simp only [ev] at po
  refine tE_bnd ck.pm st hr po fun x1 hp1 v H1 af rx st1 hr1 po1 => ?_
  cases e : toB x1 with
  | none => rw [e] at po1; exact po1.elim
  | some k =>
    rw [e, lift_some, bnd_ok] at po1
    rw [toB_some e] at rx
    refine ⟨k, rx_bl_eq rx, ?_⟩
    cases k with
    | true => exact po1 _ H1 (.refl hr1) (rl_bl _)
    | false => exact ⟨ρ, env, hp1, st1, hr1, Post.base po1 af.dom⟩
theorem bnd_ite {A : Type} {k : Bool} {p q : R Ev.X} {f : Ev.X → Hs → R A} : bnd (if k then p else q) f = if k then bnd p f else bnd q f := by cases k <;> rfl
theorem bnd_bnd {A B C : Type} (r : R A) (f : A → Hs → R B) (g : B → Hs → R C) : bnd (bnd r f) g = bnd r (fun a h => bnd (f a h) g) := by
  match r with
  | none => rfl
  | some (.err c v, h) => rfl
  | some (.ok x, h) => rfl
theorem w_and (ck : Ck N C Θ X W hot) {a b : E} {x y : Expr} {rest : List Expr} {pos : Pos} (ha : PT X x (tT N C Θ X W a)) (hb : PW X (.BoolOp .And (y :: rest) pos) (tT N C Θ X W b)) : PW X (.BoolOp .And (x :: y :: rest) pos) (tT N C Θ X W (.and a b)) := by
  refine (pw_and ha hb).imp fun σ H Q ⟨ρ, env, hp, st, hr, po⟩ => ?_
  simp only [ev, bnd_bnd] at po
  refine tT_bnd ck.pm st hr po fun k hp1 H1 af st1 hr1 po1 => ?_
  cases k with
  | true => exact ⟨ρ, env, hp1, st1, hr1, Post.base po1 af.dom⟩
  | false => exact po1 false H1 (.refl hr1) rfl
theorem w_or (ck : Ck N C Θ X W hot) {a b : E} {x y : Expr} {rest : List Expr} {pos : Pos} (ha : PT X x (tT N C Θ X W a)) (hb : PW X (.BoolOp .Or (y :: rest) pos) (tT N C Θ X W b)) : PW X (.BoolOp .Or (x :: y :: rest) pos) (tT N C Θ X W (.or a b)) := by
  refine (pw_or ha hb).imp fun σ H Q ⟨ρ, env, hp, st, hr, po⟩ => ?_
  simp only [ev, bnd_bnd] at po
  refine tT_bnd ck.pm st hr po fun k hp1 H1 af st1 hr1 po1 => ?_
  cases k with
  | true => exact po1 true H1 (.refl hr1) rfl
  | false => exact ⟨ρ, env, hp1, st1, hr1, Post.base po1 af.dom⟩
theorem s_ife (ck : Ck N C Θ X W hot) {t a b : E} {z x y : Expr} {pos : Pos} (ht : PT X z (tT N C Θ X W t)) (ha : PE X x (tE N C Θ X W a)) (hb : PE X y (tE N C Θ X W b)) : PE X (.IfExp z x y pos) (tE N C Θ X W (.ife t a b)) := by
  refine (pe_ifExp ht ha hb).imp fun σ H Q ⟨ρ, env, hp, st, hr, po⟩ => ?_
  simp only [ev] at po
  refine tT_bnd ck.pm st hr po fun k hp1 H1 af st1 hr1 po1 => ?_
  cases k with
  | true => exact ⟨ρ, env, hp1, st1, hr1, Post.base po1 af.dom⟩
  | false => exact ⟨ρ, env, hp1, st1, hr1, Post.base po1 af.dom⟩
/-! ### calls -/
theorem a_one (ck : Ck N C Θ X W hot) {x : Expr} {t : TE} (hs : ∀ a q, x ≠ .Starred a q) (ha : PE X x t) : PA X [x] (tCons t tNil) := pa_cons ha pa_nil (star_one hs _)
theorem s_bi (ck : Ck N C Θ X W hot) {o : Op1} {x : Str} {id : String} {a : E} {y : Expr} {p pos : Pos} (hr : CallR X (.builtin id) (rCall N Θ X (sem1 o))) (hx : biNames.contains x = true) (hv : bootBuiltins x = some (.builtin id)) (hn : x ≠ "__name__") (hdb : (x == ("__debug__" : Str)) = false)
    (hg : Gl X x) (hs : ∀ a q, y ≠ .Starred a q) (ha : PE X y (tE N C Θ X W a)) : PE X (.Call (.Name x p) [y] [] pos) (tE N C Θ X W (.op1 o a)) := by
  refine (pe_callB hr hg (ck.b x hx) hv (a_one ck hs ha) hn hdb (star_one hs _) (star_any (es := []) (by simp))).imp fun σ H Q ⟨ρ, env, hp, st, hr, po⟩ => ?_
  simp only [ev] at po
  have z := tE_op1 ck.pm st hr hid po
  obtain ⟨ρ', env', hp', st', hr', po'⟩ := z
  exact ⟨ρ', env', hp', st', hr', po'.imp fun v H1 q => ⟨v, rfl, q⟩⟩
theorem s_ty (ck : Ck N C Θ X W hot) {o : Op1} {x : Str} {id : String} {a : E} {y : Expr} {p pos : Pos} (hr : CallR X (.type id) (rCall N Θ X (sem1 o))) (hx : biNames.contains x = true) (hv : bootBuiltins x = some (.type id)) (hn : x ≠ "__name__") (hdb : (x == ("__debug__" : Str)) = false)
    (hg : Gl X x) (hs : ∀ a q, y ≠ .Starred a q) (ha : PE X y (tE N C Θ X W a)) : PE X (.Call (.Name x p) [y] [] pos) (tE N C Θ X W (.op1 o a)) := by
  refine (pe_callTy hr hg (ck.b x hx) hv (a_one ck hs ha) hn hdb (star_one hs _) (star_any (es := []) (by simp))).imp fun σ H Q ⟨ρ, env, hp, st, hr, po⟩ => ?_
  simp only [ev] at po
  have z := tE_op1 ck.pm st hr hid po
  obtain ⟨ρ', env', hp', st', hr', po'⟩ := z
  exact ⟨ρ', env', hp', st', hr', po'.imp fun v H1 q => ⟨v, rfl, q⟩⟩
theorem s_call (ck : Ck N C Θ X W false) {f : Nat} {e : E} {y : Expr} {ys : List Expr} {p pos : Pos} (hk : C.kf f = true) (hc : e.cnt = N.ar f) (hg : Gl X (N.fn f)) (hdb : ((N.fn f) == ("__debug__" : Str)) = false) (hs : ∀ z ∈ y :: ys, ∀ a q, z ≠ .Starred a q)
    (ha : PA X (y :: ys) (tA N C Θ X W e)) : PE X (.Call (.Name (N.fn f) p) (y :: ys) [] pos) (tE N C Θ X W (.call f e)) := by
  obtain ⟨a, fd, ps, k, h1, h2, h3, h4, h5⟩ := (ck.call rfl f hk).ex
  refine (pe_callS h4 h5 hg h1 h2 h3 (fun σ => passAt ck.tk σ) ha hdb (star_ok (hs y List.mem_cons_self) _ _) (star_any fun z hz => hs z (List.mem_cons_of_mem _ hz))).imp fun σ H Q ⟨ρ, env, hp, st, hr, po⟩ => ?_
  simp only [ev] at po
  refine tA_bnd2 ck.pm st hr po fun xs hp1 vs H1 len af rx st1 hr1 po1 => ?_
  cases e1 : argsW xs with
  | none => rw [e1] at po1; exact po1.elim
  | some ws =>
    rw [e1, lift_some, bnd_ok] at po1
    obtain ⟨rw1, lw⟩ := rx.toW e1
    exact ⟨Θ, ρ, hp1, ws, ck.pm, ck.noer rfl, by rw [lw, len, hc], rw1, hr1, Post.base po1 af.dom⟩
end
end Ev
set_option Elab.async false
set_option linter.all false
set_option maxRecDepth 100000
set_option maxHeartbeats 4000000
/-! Own work: methods, slices, fields, isinstance, append. -/
namespace Ev
open PySem PySem.Spec L2

section
variable {N : Nm} {C : Cl} {Θ : Pm} {X : Cx} {W : WX} {hot : Bool}
/-! ### methods of texts -/
theorem notCall0_base {o : Expr} (h : ∀ f q, o ≠ .Call f [] [] q) (m : Str) (env : PySem.Env) (w : Sem Value) : attributeBase o m env w = w := by
  unfold attributeBase
  split
  · exact absurd rfl (h _ _)
  · rfl
theorem s_opm (ck : Ck N C Θ X W hot) {o : OpM} {id : String} {m : Str} {a b : E} {x y : Expr} {apos pos : Pos} (slot : PySem.Slot "str" m id) (ty : typeOf (.builtin id) = pure (.type "method_descriptor")) (hr : MtR X id (rMt N Θ X (semM o)))
    (hx : ∀ f q, x ≠ .Call f [] [] q) (hs : ∀ a q, y ≠ .Starred a q) (hl : (apos.endLine == pos.line) = true) (ha : PE X x (tE N C Θ X W a)) (hb : PE X y (tE N C Θ X W b)) :
    PE X (.Call (.Attribute x m apos) [y] [] pos) (tE N C Θ X W (.opm o a b)) := by
  refine (pe_m1 slot ty hr ha hb (star_one hs _) (notCall0_base hx m _ _) hl).imp fun σ H Q ⟨ρ, env, hp, st, hr, po⟩ => ?_
  simp only [ev] at po
  refine tE_bnd ck.pm st hr po fun x1 hp1 v H1 af rx st1 hr1 po1 => ?_
  cases e : (x1.rd hp1).bind isStr with
  | none => rw [e] at po1; exact po1.elim
  | some u =>
    rw [e, lift_some, bnd_ok] at po1
    obtain ⟨d, e1, e2⟩ := opt_bind e
    have hd : ∃ s, d = .str s := by
      cases d <;> first | exact ⟨_, rfl⟩ | cases e2
    obtain ⟨s, rfl⟩ := hd
    refine ⟨⟨s, repR_str (rx.rd hr1 e1)⟩, ?_⟩
    refine tE_bnd ck.pm st1 hr1 po1 fun y1 hp2 w H2 af2 ry st2 hr2 po2 => ?_
    obtain ⟨z, e3, q⟩ := po2.lift
    obtain ⟨d3, e4, e5⟩ := opt_bind e3
    obtain ⟨d4, e6, e7⟩ := opt_bind e5
    exact ⟨w, rfl, ρ, hp2, d3, d4, z, hr2, (rx.mono ck.pm af2).rd hr2 e4, ry.rd hr2 e6, e7, fun w2 H' af3 rz => q w2 H' af3 (rlx (rz.sooner fun a z => af.dom a (af2.dom a z)))⟩
/-! ### slices -/
def RlO : Rl (Option Int) (Option Int) := ⟨fun _ _ _ a b => a = b, fun _ _ _ _ _ _ _ r => r⟩
variable (N C Θ X W) in
def tO (e : E) : TO := fun σ H Q => ∃ ρ env hp, StR N X.K X.mg Θ ρ H env σ ∧ HpR N X.K X.mg Θ ρ H hp ∧ Post N X.K X.mg Θ W σ ρ RlO H hp H (evo C e env hp) Q
theorem o_none : PO X none (tO N C Θ X W .no) := ⟨fun pins s σ H Q I ⟨ρ, env, hp, st, hr, po⟩ => po_none.run pins s σ H Q I (by simp only [evo] at po; exact po none H (.refl hr) rfl)⟩
theorem o_some (ck : Ck N C Θ X W hot) {x : Expr} {a : E} (ha : PE X x (tE N C Θ X W a)) : PO X (some x) (tO N C Θ X W (.cons a .nil)) := ⟨fun pins s σ H Q I ⟨ρ, env, hp, st, hr, po⟩ => (po_some ha).run pins s σ H Q I (by
  simp only [evo] at po
  refine tE_bnd ck.pm st hr po fun x1 hp1 v H1 af rx st1 hr1 po1 => ?_
  obtain ⟨z, e, q⟩ := po1.lift
  obtain ⟨d, e1, e2⟩ := opt_bind e
  cases d with
  | int i =>
    cases e2
    exact ⟨i, repR_int (rx.rd hr1 e1), q _ H1 (.refl hr1) rfl⟩
  | _ => cases e2)⟩
theorem tO_bnd {H B0 : Hp} {σ : L2.St} {A B : Type} {L : Rl A B} {e : E} {ρ : List Addr} {env : Env} {hp : Hs} {k : Option Int → Hs → R A} {Q : B → Hp → Prop} {T : Option Int → Hp → Prop} (hΘ : Θ.Ok) (st : StR N X.K X.mg Θ ρ H env σ) (hr : HpR N X.K X.mg Θ ρ H hp)
    (po : Post N X.K X.mg Θ W σ ρ L B0 hp H (bnd (evo C e env hp) k) Q)
    (w : ∀ x hp1 H1, Aft N X.K X.mg Θ ρ hp ρ hp1 H H1 → StR N X.K X.mg Θ ρ H1 env σ → HpR N X.K X.mg Θ ρ H1 hp1 → Post N X.K X.mg Θ W σ ρ L B0 hp1 H1 (k x hp1) Q → T x H1) : tO N C Θ X W e σ H T :=
  ⟨ρ, env, hp, st, hr, (Post.bnd (L := RlO) po).imp fun v H1 ⟨x, hp1, af, rx, po1⟩ => by
    have rx2 : x = v := rx
    subst rx2
    exact w x hp1 H1 af (st.mono hΘ af) af.hpr po1⟩
theorem s_cut (ck : Ck N C Θ X W hot) {a l u : E} {x : Expr} {lo hi : Option Expr} {pos p2 : Pos} (ha : PE X x (tE N C Θ X W a)) (hl : PO X lo (tO N C Θ X W l)) (hu : PO X hi (tO N C Θ X W u)) :
    PE X (.Subscript x (.Slice lo hi none p2) pos) (tE N C Θ X W (.cut a l u)) := by
  refine (pe_slice (sl_D (N := N) ck.pm) ha hl hu).imp fun σ H Q ⟨ρ, env, hp, st, hr, po⟩ => ?_
  simp only [ev] at po
  refine tE_bnd ck.pm st hr po fun x1 hp1 v H1 af rx st1 hr1 po1 => tO_bnd ck.pm st1 hr1 po1 fun l1 hp2 H2 af2 st2 hr2 po2 => tO_bnd ck.pm st2 hr2 po2 fun u1 hp3 H3 af3 st3 hr3 po3 => ?_
  obtain ⟨z, e, q⟩ := po3.lift
  obtain ⟨d, e1, e2⟩ := opt_bind e
  exact ⟨ρ, hp3, d, z, hr3, ((rx.mono ck.pm af2).mono ck.pm af3).rd hr3 e1, e2, fun w H' af4 rz => q w H' af4 (rlx (rz.sooner fun a z => af.dom a (af2.dom a (af3.dom a z))))⟩
/-! ### fields -/
theorem zip_look {α : Type} : ∀ {ns : List Str} {vs : List α} {i : Nat} {x : Str} {v : α}, ns.Nodup → ns[i]? = some x → vs[i]? = some v → (ns.zip vs).lookup x = some v
  | [], _, _, _, _, _, h, _ => by simp at h
  | _ :: _, [], _, _, _, _, _, h => by simp at h
  | n :: ns, w :: vs, 0, x, v, nd, h1, h2 => by
    simp at h1 h2
    subst h1 h2
    simp [List.zip_cons_cons]
  | n :: ns, w :: vs, i + 1, x, v, nd, h1, h2 => by
    have nd' := List.nodup_cons.mp nd
    have h1' : ns[i]? = some x := by simpa using h1
    have hne : (x == n) = false := by
      simp only [beq_eq_false_iff_ne, ne_eq]
      intro e
      subst e
      exact nd'.1 (List.mem_of_getElem? h1')
    rw [List.zip_cons_cons, List.lookup_cons, hne]
    exact zip_look nd'.2 h1' (by simpa using h2)
theorem s_fld (ck : Ck N C Θ X W hot) {a : E} {x : Expr} {f : Nat} {pos : Pos} (hx : ∀ g q, x ≠ .Call g [] [] q) (ha : PE X x (tE N C Θ X W a)) : PE X (.Attribute x (N.fl f) pos) (tE N C Θ X W (.fld a f)) := by
  refine (pe_fld ha (notCall0_base hx _ _ _)).imp fun σ H Q ⟨ρ, env, hp, st, hr, po⟩ => ?_
  simp only [ev] at po
  refine tE_bnd ck.pm st hr po fun x1 hp1 v H1 af rx st1 hr1 po1 => ?_
  obtain ⟨z, e, q⟩ := po1.lift
  obtain ⟨w, e0, rfl⟩ := Option.map_eq_some_iff.mp e
  obtain ⟨d, e1, e2⟩ := opt_bind e0
  cases d with
  | ins c vs =>
    obtain ⟨p, Ca, dx, xs, rfl, m1, h1, l, r⟩ := rx.rd hr1 e1
    have e3 : (match C.nf c f with | some i => vs[i]? | none => none) = some w := e2
    cases h2 : C.nf c f with
    | none => rw [h2] at e3; cases e3
    | some i =>
      rw [h2] at e3
      obtain ⟨hk, y, h3, rfl⟩ := ck.insNf c f i h2
      obtain ⟨Cb, h4, h5⟩ := ck.insOk c hk
      rw [m1] at h4
      cases h4
      obtain ⟨nd, na⟩ := ck.insFd c hk
      obtain ⟨u, h6, h7⟩ := r.get e3
      exact ⟨p, Ca, dx, _, u, rfl, h1, h5.cl, na _ (List.mem_of_getElem? h3) Ca m1, zip_look nd h3 h6, q u H1 (.refl hr1) (rlx ⟨h7, trivial⟩)⟩
  | _ => cases e2
/-! ### isinstance -/
/-- the type of a thing -/
inductive TyD (N : Nm) (X : Cx) : D → Value → Prop where
  | non : TyD N X .non (.type "NoneType")
  | bl (b : Bool) : TyD N X (.bl b) (.type "bool")
  | int (b : Int) : TyD N X (.int b) (.type "int")
  | str (b : Str) : TyD N X (.str b) (.type "str")
  | tup (b : List D) : TyD N X (.tup b) (.type "tuple")
  | lst (b : List D) : TyD N X (.lst b) (.type "list")
  | dct (b c : List D) : TyD N X (.dct b c) (.type "dict")
  | ins (c : Nat) (Ca : Addr) (vs : List D) (h : X.mg (N.cl c) = some (.ref Ca)) (k : N.kc c = true) : TyD N X (.ins c vs) (.ref Ca)
/-- a class as it is asked for -/
inductive TyU (N : Nm) (X : Cx) : Ty → V → Value → Prop where
  | bi (t : Ty) (h : t.nm ≠ "") : TyU N X t (.ty t.nm) (.type t.nm)
  | own (c : Nat) (Ca : Addr) (h : X.mg (N.cl c) = some (.ref Ca)) (k : N.kt c = true) : TyU N X (.own c) (.ref Ca) (.ref Ca)
theorem TyU.cls {t : Ty} {v : V} {u : Value} (h : TyU N X t v u) : ClsV v u := by
  cases h with
  | bi h => exact .ty _
  | own c Ca h => exact .own _
theorem isi_none {d : D} {ts : List Ty} {b : Bool} (h : isiDs C d ts = some b) (hk : ts ≠ []) : ∃ t b, isiD C d t = some b := by
  cases ts with
  | nil => exact absurd rfl hk
  | cons t ts =>
    simp only [isiDs] at h
    cases e : isiD C d t with
    | none => rw [e] at h; cases h
    | some b => exact ⟨t, b, e⟩
theorem isi_kc {c : Nat} {vs : List D} {t : Ty} {b : Bool} (h : isiD C (.ins c vs) t = some b) : C.kc c = true := by
  cases e : C.kc c with
  | true => rfl
  | false => cases t <;> (simp only [isiD, e] at h; cases h)
theorem isi_own {c : Nat} {vs : List D} {t : Ty} {b : Bool} (h : isiD C (.ins c vs) t = some b) (ht : t.nm ≠ "") : b = false := by
  have e := isi_kc h
  cases t <;> simp only [isiD, e] at h <;> first | (cases h; rfl) | exact absurd rfl ht
theorem tyD_of (ck : Ck N C Θ X W hot) {H : Hp} {B : Addr → Prop} {d : D} {v : V} {t : Ty} {b : Bool} (hi : isiD C d t = some b) (h : RepR N X.K X.mg H B d v) : ∃ u, TyX X.K H v u ∧ TyD N X d u := by
  cases d with
  | non => obtain rfl := repR_non h; exact ⟨_, .base .non, .non⟩
  | bl i => obtain rfl := repR_bl h; exact ⟨_, .base (.bl _), .bl _⟩
  | int i => obtain rfl := repR_int h; exact ⟨_, .base (.int _), .int _⟩
  | str i => obtain rfl := repR_str h; exact ⟨_, .base (.str _), .str _⟩
  | tup ds =>
    obtain ⟨a, xs, rfl, ta, la, ra⟩ := repR_tup h
    rcases ta with ⟨e, _⟩ | ⟨o, its, n, e, c, _⟩
    · exact ⟨_, .base (.tup e), .tup _⟩
    · exact ⟨_, .kTuple e c, .tup _⟩
  | lst ds =>
    obtain ⟨a, xs, rfl, ta, la, ra⟩ := repR_lst h
    exact ⟨_, .base (.lst ta), .lst _⟩
  | dct ks vs =>
    obtain ⟨a, rfl, hk⟩ := h
    rcases hk with ⟨kvs, e, _⟩ | ⟨kvs, e, _⟩
    · exact ⟨_, .base (.dK e), .dct _ _⟩
    · exact ⟨_, .base (.dT e), .dct _ _⟩
  | ins c ds =>
    obtain ⟨a, Ca, dx, xs, rfl, m1, h1, l, r⟩ := h
    have hkc : N.kc c = true := ck.kcC c (isi_kc hi)
    obtain ⟨Cb, h4, h5⟩ := ck.insOk c hkc
    rw [m1] at h4
    cases h4
    exact ⟨_, .base (.ins h1 h5.cl h5.ha h5.hn h5.htk h5.hm), .ins c Ca ds m1 hkc⟩
  | fn f => cases t <;> cases hi
  | cls f => cases t <;> cases hi
  | ty f => cases t <;> cases hi
  | scr f => cases t <;> cases hi
theorem kit_tb {K : PySem.W.Frag} {a : String} {t : Ty} {r : Bool} (h : kitB a t.nm = some r) : PySem.W.kitOne K (.type a) (.type t.nm) = some r := kit_ty h
theorem kit_tab : ∀ a ∈ tyNames, ∀ t : Ty, t.nm ≠ "" → kitB a t.nm = some (decide (a = t.nm) || (decide (a = "bool") && decide (t.nm = "int"))) := by
  intro a ha t ht
  simp only [tyNames, List.mem_cons, List.not_mem_nil, or_false] at ha
  rcases ha with rfl | rfl | rfl | rfl | rfl | rfl | rfl <;> cases t <;> first | (exact absurd rfl ht) | decide +kernel
theorem kit_all (ck : Ck N C Θ X W hot) {d : D} {t : Ty} {v : V} {u w : Value} {b : Bool} (hd : TyD N X d u) (ht : TyU N X t v w) (hi : isiD C d t = some b) : PySem.W.kitOne X.K u w = some b := by
  cases ht with
  | bi _ h =>
    cases hd with
    | ins c Ca vs h1 hk =>
      have e : b = false := isi_own hi h
      subst e
      refine ck.kitI c hk Ca h1 _ ?_
      cases t <;> first | exact absurd rfl h | decide
    | _ =>
      refine (kit_tb (kit_tab _ (by decide) t h)).trans ?_
      rw [← hi]
      cases t <;> first | exact absurd rfl h | rfl
  | own c Ca h hk =>
    cases hd with
    | ins c' Cb vs h1 hk' =>
      have e := isi_kc hi
      simp only [isiD, e] at hi
      cases hi
      exact ck.kitO c' c hk' hk Cb Ca h1 h
    | _ =>
      cases hi
      exact ck.kitB _ (by decide) c Ca h hk
/-- how classes stand in the text -/
inductive TyE (N : Nm) (X : Cx) : Ty → Expr → Prop where
  | bi (t : Ty) (x : Str) (pos : Pos) (h : t.nm ≠ "") (hg : Gl X x) (hb : biNames.contains x = true) (hv : bootBuiltins x = some (.type t.nm)) (hn : x ≠ "__name__") (hd : (x == ("__debug__" : Str)) = false) : TyE N X t (.Name x pos)
  | own (c : Nat) (pos : Pos) (k : N.kt c = true) (hg : Gl X (N.cl c)) (hd : ((N.cl c) == ("__debug__" : Str)) = false) : TyE N X (.own c) (.Name (N.cl c) pos)
theorem tyE_pe (ck : Ck N C Θ X W hot) {t : Ty} {y : Expr} (h : TyE N X t y) : ∃ v u, TyU N X t v u ∧ PE X y (tC v) ∧ ∀ a q, y ≠ .Starred a q := by
  cases h with
  | bi _ x pos h hg hb hv hn hd => exact ⟨_, _, .bi t h, pe_bltn hg (ck.b x hb) hv rfl hn hd, fun _ _ q => nomatch q⟩
  | own c pos k hg hd =>
    obtain ⟨Ca, h1⟩ := ck.clv c k
    exact ⟨_, _, .own c Ca h1 k, pe_glob hg h1 rfl hd, fun _ _ q => nomatch q⟩
theorem s_isi1 (ck : Ck N C Θ X W hot) {a : E} {x y : Expr} {t : Ty} {p pos : Pos} (hg : Gl X "isinstance") (hs : ∀ a q, x ≠ .Starred a q) (ha : PE X x (tE N C Θ X W a)) (ht : TyE N X t y) :
    PE X (.Call (.Name "isinstance" p) [x, y] [] pos) (tE N C Θ X W (.isi a [t])) := by
  obtain ⟨v, u, hU, hy, hs2⟩ := tyE_pe ck ht
  refine (pe_callB call_isi hg (ck.b "isinstance") PyProof.Rows.boot_isinstance (pa_cons ha (pa_cons hy pa_nil (star_one hs2 _)) (star_ok hs _ _)) (by decide) (by decide) (star_ok hs _ _) (star_any (by simpa using hs2))).imp fun σ H Q ⟨ρ, env, hp, st, hr, po⟩ => ?_
  simp only [ev] at po
  refine tE_bnd ck.pm st hr po fun x1 hp1 v1 H1 af rx st1 hr1 po1 => ?_
  obtain ⟨z, e, q⟩ := po1.lift
  obtain ⟨k, e0, rfl⟩ := Option.map_eq_some_iff.mp e
  obtain ⟨d, e1, e2⟩ := opt_bind e0
  have e3 : isiD C d t = some k := by
    simp only [isiDs] at e2
    cases h : isiD C d t with
    | none => rw [h] at e2; cases e2
    | some b => rw [h] at e2; cases b <;> exact e2
  obtain ⟨w, h1, h2⟩ := tyD_of ck e3 (rx.rd hr1 e1)
  exact ⟨v1, v, w, u, k, rfl, hU.cls, h1, kit_all ck h2 hU e3, q _ H1 (.refl hr1) (rl_bl _)⟩
/-- several classes -/
theorem tys_pa (ck : Ck N C Θ X W hot) : ∀ {ts : List Ty} {ys : List Expr}, Paired (TyE N X) ts ys → ∃ vs us, Paired ClsV vs us ∧ vs.length = ts.length ∧ PA X ys (fun _ H Q => Q vs H) ∧ (∀ y ∈ ys, ∀ a q, y ≠ .Starred a q) ∧
    ∀ (d : D) (w : Value) (b : Bool), TyD N X d w → isiDs C d ts = some b → PySem.W.kitAny X.K w us = some b
  | _, _, .nil => ⟨[], [], .nil, rfl, pa_nil, by simp, fun d w b _ h => by simp only [isiDs] at h; cases h; rfl⟩
  | _, _, .cons h t => by
    obtain ⟨v, u, hU, hy, hs⟩ := tyE_pe ck h
    obtain ⟨vs, us, h1, h2, h3, h4, h5⟩ := tys_pa ck t
    refine ⟨v :: vs, u :: us, .cons hU.cls h1, by rw [List.length_cons, List.length_cons, h2], (pa_cons hy h3 (star_ok hs _ _)).imp fun σ H Q q => q, ?_, fun d w b hd hb => ?_⟩
    · intro y hm
      rcases List.mem_cons.mp hm with e | e
      · rw [e]; exact hs
      · exact h4 y e
    · simp only [isiDs] at hb
      split at hb
      · rename_i e
        cases hb
        unfold PySem.W.kitAny
        rw [kit_all ck hd hU e]
      · rename_i e
        unfold PySem.W.kitAny
        rw [kit_all ck hd hU e]
        exact h5 d w b hd hb
      · cases hb
theorem s_isiN (ck : Ck N C Θ X W hot) {a : E} {x : Expr} {ts : List Ty} {ys : List Expr} {p pos pt : Pos} {k : Nat} (hg : Gl X "isinstance") (hs : ∀ a q, x ≠ .Starred a q) (hn : ts ≠ []) (hl : ts.length ≤ 1000) (ha : PE X x (tE N C Θ X W a)) (ht : Paired (TyE N X) ts ys) :
    PE X (.Call (.Name "isinstance" p) [x, .Tuple ys k pt] [] pos) (tE N C Θ X W (.isi a ts)) := by
  obtain ⟨vs, us, h1, h2, h3, h4, h5⟩ := tys_pa ck ht
  have hs2 : ∀ a q, (Expr.Tuple ys k pt) ≠ .Starred a q := fun _ _ q => nomatch q
  refine (pe_callB call_isiT hg (ck.b "isinstance") PyProof.Rows.boot_isinstance (pa_cons ha (pa_cons (pe_tup h3) pa_nil (star_one hs2 _)) (star_ok hs _ _)) (by decide) (by decide) (star_ok hs _ _) (star_any (by simpa using hs2))).imp fun σ H Q ⟨ρ, env, hp, st, hr, po⟩ => ?_
  simp only [ev] at po
  refine tE_bnd ck.pm st hr po fun x1 hp1 v1 H1 af rx st1 hr1 po1 => ?_
  obtain ⟨z, e, q⟩ := po1.lift
  obtain ⟨k, e0, rfl⟩ := Option.map_eq_some_iff.mp e
  obtain ⟨d, e1, e2⟩ := opt_bind e0
  refine ⟨by rw [h2]; exact small_size hl, fun tp htp => ?_⟩
  obtain ⟨t, b, e3⟩ := isi_none e2 hn
  have af2 : Aft N X.K X.mg Θ ρ hp1 ρ hp1 H1 (upd H1 tp (.tup vs)) := .new ck.pm hr1 htp
  have rx2 := rx.mono ck.pm af2
  obtain ⟨w, h6, h7⟩ := tyD_of ck e3 (rx2.rd af2.hpr e1)
  exact ⟨v1, tp, vs, w, us, k, rfl, upd_same, h1, h6, h5 d w k h7 e2, q _ _ af2 (rl_bl _)⟩
end
end Ev
set_option Elab.async false
set_option linter.all false
set_option maxRecDepth 100000
set_option maxHeartbeats 4000000
/-! Own work: walks and comprehensions. -/
namespace Ev
open PySem PySem.Spec L2

section
variable {N : Nm} {K : PySem.W.Frag} {mg : Str → Option Value} {Θ : Pm} {ρ ρ' : List Addr} {hp hp' hp2 : Hs} {H H' H2 : Hp}
theorem HpR.set {j : Nat} {m m' : MO} (q : HpR N K mg Θ ρ H hp) (e : hp[j]? = some m) (hm : ∀ a, ρ[j]? = some a → MoR N K mg Θ ρ H a m → MoR N K mg Θ ρ H a m') : HpR N K mg Θ ρ H (hp.set j m') := by
  have hj : j < hp.length := (List.getElem?_eq_some_iff.mp e).1
  refine ⟨by rw [List.length_set]; exact q.len, q.nd, q.tb, fun i a mo e1 e2 => ?_⟩
  by_cases hi : i = j
  · subst hi
    rw [List.getElem?_set_self hj] at e2
    cases e2
    obtain ⟨h1, h2⟩ := q.at_ i a m e1 e
    exact ⟨h1, hm a e1 h2⟩
  · rw [List.getElem?_set_ne (Ne.symm hi)] at e2
    exact q.at_ i a mo e1 e2
theorem aft_shut (x : Ev.X) (q : HpR N K mg Θ ρ H hp) : Aft N K mg Θ ρ hp ρ (Ev.shut x hp) H H := by
  have base : Aft N K mg Θ ρ hp ρ hp H H := .refl q
  unfold Ev.shut
  cases x with
  | d z => exact base
  | u m => exact base
  | r j =>
    simp only
    split
    · rename_i xs e
      refine ⟨base.pre, base.kp, base.dom, fun i m e1 e2 => ?_, q.set (m' := .lk xs) e fun a _ h => h⟩
      by_cases hi : i = j
      · subst hi
        rw [e] at e1
        cases e1
        cases e2
      · rw [List.getElem?_set_ne (Ne.symm hi)]
        exact e1
    · exact base
theorem Aft.reopen (x : Ev.X) (a : Aft N K mg Θ ρ (Ev.shut x hp) ρ' hp2 H H2) : Aft N K mg Θ ρ hp ρ' (Ev.reopen x hp hp2) H H2 := by
  unfold Ev.shut at a
  unfold Ev.reopen
  cases x with
  | d z => exact a
  | u m => exact a
  | r j =>
    simp only at a ⊢
    split
    · rename_i xs e
      rw [e] at a
      simp only at a
      have hj : j < hp.length := (List.getElem?_eq_some_iff.mp e).1
      have e3 : hp2[j]? = some (.lk xs) := a.shut j (.lk xs) (List.getElem?_set_self hj) rfl
      refine ⟨a.pre, fun b o h1 h2 hn => a.kp b o h1 (fun i hi => ?_) hn, a.dom, fun i m e1 e2 => ?_, a.hpr.set (m' := .lst xs) e3 fun a _ h => h⟩
      · obtain ⟨m, e4, e5⟩ := h2 i hi
        have hne : i ≠ j := fun z => by subst z; rw [e] at e4; cases e4; cases e5
        exact ⟨m, by rw [List.getElem?_set_ne (Ne.symm hne)]; exact e4, e5⟩
      · have hne : i ≠ j := fun z => by subst z; rw [e] at e1; cases e1; cases e2
        rw [List.getElem?_set_ne (Ne.symm hne)]
        exact a.shut i m (by rw [List.getElem?_set_ne (Ne.symm hne)]; exact e1) e2
    · rename_i hne
      split at a
      · rename_i xs e
        exact absurd e (hne xs)
      · exact a
theorem reopen_app {x : Ev.X} {hp A : Hs} {m : MO} (h : A.length = hp.length) : Ev.reopen x hp (A ++ [m]) = Ev.reopen x hp A ++ [m] := by
  unfold Ev.reopen
  cases x with
  | d z => rfl
  | u m => rfl
  | r j =>
    simp only
    split
    · rename_i xs e
      have hj : j < hp.length := (List.getElem?_eq_some_iff.mp e).1
      rw [List.set_append_left _ _ (by omega)]
    · rfl
theorem reopen_len {x : Ev.X} {hp A : Hs} : (Ev.reopen x hp A).length = A.length := by
  unfold Ev.reopen
  cases x with
  | d z => rfl
  | u m => rfl
  | r j =>
    simp only
    split
    · rw [List.length_set]
    · rfl
theorem take_last {A : Hs} {n : Nat} {m : MO} (h : A.length = n + 1) (e : A[n]? = some m) : A = A.take n ++ [m] := by
  refine List.ext_getElem? fun i => ?_
  have hl : (A.take n).length = n := by rw [List.length_take]; omega
  by_cases hi : i < n
  · rw [List.getElem?_append_left (by omega), List.getElem?_take_of_lt hi]
  · by_cases h2 : i = n
    · subst h2
      rw [List.getElem?_append_right (by omega), hl, e]
      simp
    · rw [List.getElem?_eq_none (by omega), List.getElem?_eq_none (by simp; omega)]
/-- fewer things -/
theorem gr_less {ex : List Addr} : Gr H (InR (ρ ++ ex)) (InR ρ) := fun a h n => absurd (List.mem_append_left ex h) n
theorem kp_refl {B : Addr → Prop} : Kp H H B := fun _ _ e _ _ => e
theorem MoR.less {ex : List Addr} {a : Addr} {m : MO} (h : MoR N K mg Θ (ρ ++ ex) H a m) : MoR N K mg Θ ρ H a m := by
  cases m with
  | lst ds => obtain ⟨xs, e, l, r⟩ := h; exact ⟨xs, e, l, RepL.mono kp_refl gr_less ds xs r⟩
  | lk ds => obtain ⟨xs, e, l, r⟩ := h; exact ⟨xs, e, l, RepL.mono kp_refl gr_less ds xs r⟩
  | dct ks vs =>
    rcases h with ⟨kvs, e, l, r⟩ | ⟨kvs, e, l, r⟩
    · exact .inl ⟨kvs, e, l, RepL.mono kp_refl gr_less vs _ r⟩
    · exact .inr ⟨kvs, e, l, RepL.mono kp_refl gr_less vs _ r⟩
  | ins c ds => obtain ⟨C, dx, xs, m1, e, l, r⟩ := h; exact ⟨C, dx, xs, m1, e, l, RepL.mono kp_refl gr_less ds xs r⟩
  | dead => trivial
  | bn => trivial
theorem HpR.cut {ex : List Addr} (q : HpR N K mg Θ (ρ ++ ex) H hp) : HpR N K mg Θ ρ H (hp.take ρ.length) := by
  have hl := q.len
  rw [List.length_append] at hl
  refine ⟨by rw [List.length_take]; omega, (List.nodup_append.mp q.nd).1, q.tb, fun j a m e1 e2 => ?_⟩
  have hj : j < ρ.length := (List.getElem?_eq_some_iff.mp e1).1
  rw [List.getElem?_take_of_lt hj] at e2
  obtain ⟨h1, h2⟩ := q.at_ j a m (by rw [List.getElem?_append_left hj]; exact e1) e2
  exact ⟨h1, h2.less⟩
theorem Aft.cut (q : HpR N K mg Θ ρ H hp) (a : Aft N K mg Θ ρ hp ρ' hp2 H H2) : Aft N K mg Θ ρ hp ρ (hp2.take ρ.length) H H2 := by
  obtain ⟨ex, rfl, h⟩ := a.pre
  refine ⟨⟨[], by simp, fun _ z => by cases z⟩, a.kp, a.dom, fun j m e1 e2 => ?_, a.hpr.cut⟩
  have hj : j < hp.length := (List.getElem?_eq_some_iff.mp e1).1
  rw [List.getElem?_take_of_lt (by rw [q.len]; exact hj)]
  exact a.shut j m e1 e2
/-- a thing that is shut for good comes beside -/
theorem Aft.beside (hΘ : Θ.Ok) (q : HpR N K mg Θ ρ H hp) {p : Addr} {o : HO} {m : MO} (hp0 : H p = none) (hw : Wr o) (hm : MoR N K mg Θ (ρ ++ [p]) (L2.upd H p o) p m) : Aft N K mg Θ ρ hp (ρ ++ [p]) (hp ++ [m]) H (L2.upd H p o) := by
  have a : Aft N K mg Θ ρ hp ρ hp H (L2.upd H p o) := .new hΘ q hp0
  refine ⟨⟨[p], rfl, fun b hb => by simp at hb; rw [hb]; exact .inl hp0⟩, a.kp, a.dom, fun j m' e1 e2 => ?_, q.beside hp0 hw hm⟩
  rw [List.getElem?_append_left (List.getElem?_eq_some_iff.mp e1).1]; exact e1
end

/-! ### walks -/
def WalkR (N : Nm) (K : PySem.W.Frag) (mg : Str → Option Value) (Θ : Pm) (ρ : List Addr) (x : Ev.X) (ds : List D) (J : It) (hp1 : Hs) (H1 : Hp) : Prop :=
  ds.length ≤ sizeLine ∧ ∃ (G : Hp → Prop) (Y : Nat → Hp → V → Hp → Prop), L2.Walk J ds.length G Y ∧ ∀ ρ' hp' Hc, Aft N K mg Θ ρ (Ev.shut x hp1) ρ' hp' H1 Hc → G Hc ∧
    ∀ i v Hc', i < ds.length → Y i Hc v Hc' → ∃ d, ds[i]? = some d ∧ Aft N K mg Θ ρ' hp' ρ' hp' Hc Hc' ∧ Rep N K mg Hc' (InR ρ') d v
def RlI (N : Nm) (K : PySem.W.Frag) (mg : Str → Option Value) (Θ : Pm) (ρ : List Addr) : Rl (Ev.X × List D) It := ⟨fun _ H' h p J => WalkR N K mg Θ ρ p.1 p.2 J h H', fun _ _ _ _ _ _ _ r => r⟩
section
variable (N : Nm) (C : Cl) (Θ : Pm) (X : Cx) (W : WX)
def tI (e : E) : TI := fun σ H R => ∃ ρ env hp, StR N X.K X.mg Θ ρ H env σ ∧ HpR N X.K X.mg Θ ρ H hp ∧ Post N X.K X.mg Θ W σ ρ (RlI N X.K X.mg Θ ρ) H hp H (evi C e env hp) R
end
section
variable {N : Nm} {C : Cl} {Θ : Pm} {X : Cx} {W : WX} {hot : Bool}
theorem nod_ix : ∀ {ρ : List Addr}, ρ.Nodup → ∀ {i j : Nat} {a : Addr}, ρ[i]? = some a → ρ[j]? = some a → i = j
  | [], _, i, j, a, h1, _ => by simp at h1
  | b :: ρ, hn, i, j, a, h1, h2 => by
    obtain ⟨n1, n2⟩ := List.nodup_cons.mp hn
    cases i with
    | zero => cases j with
      | zero => rfl
      | succ j =>
        simp at h1 h2
        subst h1
        exact absurd (List.mem_of_getElem? h2) n1
    | succ i => cases j with
      | zero =>
        simp at h1 h2
        subst h2
        exact absurd (List.mem_of_getElem? h1) n1
      | succ j =>
        simp at h1 h2
        rw [nod_ix n2 h1 h2]
/-- a list that is read stands while it is shut -/
theorem lst_stays {K : PySem.W.Frag} {mg : Str → Option Value} {ρ ρ' : List Addr} {hp hp' : Hs} {H H0 Hc : Hp} {x : Ev.X} {v : V} {ds : List D} (hr : HpR N K mg Θ ρ H hp) (rx : RX N K mg Θ ρ H H0 x v) (e : x.rd hp = some (.lst ds)) {a : Addr} {o : HO} (ev : v = .ref a) (h : H a = some o) (hn : Nt o)
    (af : Aft N K mg Θ ρ (Ev.shut x hp) ρ' hp' H Hc) : Hc a = some o := by
  refine af.kp a o h (fun j hj => ?_) hn
  cases x with
  | d z =>
    cases e
    have r : Rep N K mg H (InR ρ) (.lst ds) v := rx
    unfold Rep at r
    obtain ⟨b, xs, e1, e2, e3, _⟩ := r
    rw [ev] at e1
    cases e1
    exact absurd (List.mem_of_getElem? hj) e3
  | u m =>
    obtain ⟨b, e1, n, _⟩ := rx
    rw [ev] at e1
    cases e1
    exact absurd (List.mem_of_getElem? hj) n
  | r i =>
    obtain ⟨b, e1, e2⟩ := rx
    rw [ev] at e2
    cases e2
    have hij : j = i := nod_ix hr.nd hj e1
    subst hij
    have e3 : (match hp[j]? with | some m => m.rd | none => none) = some (D.lst ds) := e
    cases hm : hp[j]? with
    | none => rw [hm] at e3; cases e3
    | some m =>
      rw [hm] at e3
      cases m with
      | lst ys =>
        refine ⟨.lk ys, ?_, rfl⟩
        unfold Ev.shut
        simp only [hm]
        exact List.getElem?_set_self (List.getElem?_eq_some_iff.mp hm).1
      | lk ys =>
        refine ⟨.lk ys, ?_, rfl⟩
        unfold Ev.shut
        simp only [hm]
      | dct ks vs => cases e3
      | ins c vs => cases e3
      | dead => cases e3
      | bn => cases e3
theorem rep_ints {K : PySem.W.Frag} {mg : Str → Option Value} {H : Hp} {B : Addr → Prop} (i : Int) : Rep N K mg H B (.int i) (.int i) := by unfold Rep; rfl
theorem s_seq (ck : Ck N C Θ X W hot) {tg x : Expr} {a : E} (ha : PE X x (tE N C Θ X W a)) : PI X tg x (tI N C Θ X W (.cons a .nil)) := by
  refine (pi_seq ha).imp fun σ H R ⟨ρ, env, hp, st, hr, po⟩ => ?_
  simp only [evi] at po
  refine tE_bnd ck.pm st hr po fun x1 hp1 v H1 af rx st1 hr1 po1 => ?_
  obtain ⟨z, e, q⟩ := po1.lift
  obtain ⟨d, e1, e2⟩ := opt_bind e
  obtain ⟨ds, e3, rfl⟩ := Option.map_eq_some_iff.mp e2
  cases d with
  | lst es =>
    cases e3
    obtain ⟨b, xs, rfl, ta, la, ra⟩ := repR_lst (rx.rd hr1 e1)
    refine .inl ⟨b, xs, rfl, .of ta, q _ H1 (.refl hr1) ⟨by rw [ra.len]; exact la, fun Hc => SqL X.K Hc b xs, YAt xs, by rw [ra.len]; exact walk_list, fun ρ' hp' Hc af2 => ?_⟩⟩
    have ht := lst_stays hr1 rx e1 rfl ta trivial af2
    refine ⟨.of ht, fun i v Hc' hi ⟨eH, ev⟩ => ?_⟩
    subst eH
    obtain ⟨d, h1, h2⟩ := ra.getV ev
    have af3 := (aft_shut x1 hr1).trans af2
    exact ⟨d, h1, .refl af2.hpr, Rep.mono af3.kpB af3.gr d v h2⟩
  | tup es =>
    cases e3
    obtain ⟨b, xs, rfl, ta, la, ra⟩ := repR_tup (rx.rd hr1 e1)
    refine .inr (.inl ⟨b, xs, rfl, ta.sq, q _ H1 (.refl hr1) ⟨by rw [ra.len]; exact la, fun Hc => SqT X.K Hc b xs, YAt xs, by rw [ra.len]; exact walk_tup, fun ρ' hp' Hc af2 => ?_⟩⟩)
    have af3 := (aft_shut x1 hr1).trans af2
    refine ⟨(ta.mono af3.kpB af3.gr).sq, fun i v Hc' hi ⟨eH, ev⟩ => ?_⟩
    subst eH
    obtain ⟨d, h1, h2⟩ := ra.getV ev
    exact ⟨d, h1, .refl af2.hpr, Rep.mono af3.kpB af3.gr d v h2⟩
  | str s =>
    obtain ⟨hl, rfl⟩ := ite_some (show (if s.length ≤ sizeLine then some (s.cps.toList.map fun c => D.str ⟨#[c]⟩) else none) = some ds from e3)
    have := repR_str (rx.rd hr1 e1)
    have hlen : (s.cps.toList.map fun c => D.str ⟨#[c]⟩).length = s.cps.size := by simp
    refine .inr (.inr ⟨s, this, q _ H1 (.refl hr1) ⟨by rw [hlen]; exact hl, fun _ => True, (fun i H v H' => H' = H ∧ ∃ c, s.cps[i]? = some c ∧ v = .str ⟨#[c]⟩), by rw [hlen]; exact walk_str, fun ρ' hp' Hc af2 => ?_⟩⟩)
    refine ⟨trivial, fun i v Hc' hi ⟨eH, c, h1, h2⟩ => ?_⟩
    subst eH h2
    refine ⟨.str ⟨#[c]⟩, ?_, .refl af2.hpr, by unfold Rep; rfl⟩
    rw [List.getElem?_map]
    have : s.cps.toList[i]? = some c := by simpa using h1
    rw [this] <;> rfl
  | _ => cases e3
/-- one argument -/
theorem tA_of1 (ck : Ck N C Θ X W hot) {a : E} {x : Expr} (hs : ∀ a q, x ≠ .Starred a q) (ha : PE X x (tE N C Θ X W a)) : PA X [x] (tCons (tE N C Θ X W a) tNil) := a_one ck hs ha
theorem range_at {lo hi : Int} {i : Nat} (h : i < (rangeD lo hi).length) : (rangeD lo hi)[i]? = some (.int (lo + (i : Int))) := by
  unfold rangeD at h ⊢
  rw [List.length_map, List.length_range] at h
  rw [List.getElem?_map, List.getElem?_range h] <;> rfl
theorem range_len {lo hi : Int} : (rangeD lo hi).length = (hi - lo).toNat := by unfold rangeD; rw [List.length_map, List.length_range]
theorem walkR_range {ρ : List Addr} {hp1 : Hs} {H1 : Hp} {lo hi : Int} (h : (hi - lo).toNat ≤ sizeLine) : WalkR N X.K X.mg Θ ρ (.d .non) (rangeD lo hi) (Itr lo (hi - lo).toNat) hp1 H1 := by
  refine ⟨by rw [range_len]; exact h, fun _ => True, YFn fun i => .int (lo + i), by rw [range_len]; exact walk_range, fun ρ' hp' Hc af2 => ⟨trivial, fun i v Hc' hi ⟨eH, ev⟩ => ?_⟩⟩
  subst eH ev
  exact ⟨_, range_at hi, .refl af2.hpr, rep_ints _⟩
theorem s_rng (ck : Ck N C Θ X W hot) {tg x : Expr} {a : E} {p pos : Pos} (hg : Gl X "range") (hs : ∀ a q, x ≠ .Starred a q) (ha : PE X x (tE N C Θ X W a)) : PI X tg (.Call (.Name "range" p) [x] [] pos) (tI N C Θ X W (.rng a)) := by
  refine (pi_range1 hg (ck.b "range") (a_one ck hs ha) (star_one hs _)).imp fun σ H R ⟨ρ, env, hp, st, hr, po⟩ => ?_
  simp only [evi] at po
  refine tE_bnd ck.pm st hr po fun x1 hp1 v H1 af rx st1 hr1 po1 => ?_
  obtain ⟨z, e, q⟩ := po1.lift
  obtain ⟨d, e1, e2⟩ := opt_bind e
  cases d with
  | int n =>
    obtain ⟨hc, rfl⟩ := ite_some e2
    have := repR_int (rx.rd hr1 e1)
    subst this
    refine ⟨n, rfl, hc.1, by omega, ?_⟩
    have w : WalkR N X.K X.mg Θ ρ (.d .non) (rangeD 0 n) (Itr 0 (n - 0).toNat) hp1 H1 := walkR_range (by
      have : sizeLine = 16777216 := by decide
      omega)
    have e0 : (n - 0).toNat = n.toNat := by rw [Int.sub_zero]
    rw [e0] at w
    exact q _ H1 (.refl hr1) w
  | _ => cases e2
theorem s_rng2 (ck : Ck N C Θ X W hot) {tg x y : Expr} {a b : E} {p pos : Pos} (hg : Gl X "range") (hs : ∀ a q, x ≠ .Starred a q) (hs2 : ∀ a q, y ≠ .Starred a q) (ha : PE X x (tE N C Θ X W a)) (hb : PE X y (tE N C Θ X W b)) :
    PI X tg (.Call (.Name "range" p) [x, y] [] pos) (tI N C Θ X W (.rng2 a b)) := by
  refine (pi_range2 hg (ck.b "range") (pa_cons ha (a_one ck hs2 hb) (star_ok hs _ _)) (by rw [star_ok hs, star_one hs2]) (star_one hs2 _)).imp fun σ H R ⟨ρ, env, hp, st, hr, po⟩ => ?_
  simp only [evi] at po
  refine tE_bnd ck.pm st hr po fun x1 hp1 v H1 af rx st1 hr1 po1 => tE_bnd ck.pm st1 hr1 po1 fun y1 hp2 u H2 af2 ry st2 hr2 po2 => ?_
  obtain ⟨z, e, q⟩ := po2.lift
  obtain ⟨d, e1, e2⟩ := opt_bind e
  obtain ⟨d2, e3, e4⟩ := opt_bind e2
  cases d with
  | int m => cases d2 with
    | int n =>
      obtain ⟨hc, rfl⟩ := ite_some e4
      have h1 := repR_int ((rx.mono ck.pm af2).rd hr2 e1)
      have h2 := repR_int (ry.rd hr2 e3)
      subst h1 h2
      have k1 := hc.1
      have k2 := hc.2.1
      unfold okR at k1 k2
      simp only [Bool.and_eq_true, decide_eq_true_eq] at k1 k2
      exact ⟨m, n, rfl, ⟨k1.1, k1.2, k2.1, k2.2⟩, q _ H2 (.refl hr2) (walkR_range (by
        have : sizeLine = 16777216 := by decide
        omega))⟩
    | _ => cases e4
  | _ => cases e4
theorem zipIdx_at {ds : List D} {i : Nat} {d : D} (h : ds[i]? = some d) : (enumD ds)[i]? = some (.tup [.int (i : Int), d]) := by
  unfold enumD
  rw [List.getElem?_map, List.getElem?_zipIdx, h]
  simp
theorem enum_len {ds : List D} : (enumD ds).length = ds.length := by unfold enumD; simp
theorem pair_rep {K : PySem.W.Frag} {mg : Str → Option Value} {ρ : List Addr} {hp : Hs} {H : Hp} {T : Addr} {d e : D} {v u : V} (hΘ : Θ.Ok) (hr : HpR N K mg Θ ρ H hp) (hT : H T = none) (h1 : Rep N K mg H (InR ρ) d v) (h2 : Rep N K mg H (InR ρ) e u) :
    Aft N K mg Θ ρ hp ρ hp H (upd H T (.tup [v, u])) ∧ Rep N K mg (upd H T (.tup [v, u])) (InR ρ) (.tup [d, e]) (.ref T) := by
  refine ⟨.new hΘ hr hT, ?_⟩
  unfold Rep
  exact ⟨T, [v, u], rfl, .inl ⟨upd_same, hr.nin hT⟩, by show 2 ≤ sizeLine; decide, RepL.upd hT (RepL.cons_iff.mpr ⟨v, [u], rfl, h1, .one h2⟩)⟩
/-- a sequence that is read: its kind, that it stands -/
theorem seq_kind (ck : Ck N C Θ X W hot) {ρ : List Addr} {hp1 : Hs} {H0 H1 : Hp} {x1 : Ev.X} {v : V} {d : D} {ds : List D} (hr1 : HpR N X.K X.mg Θ ρ H1 hp1) (rx : RX N X.K X.mg Θ ρ H1 H0 x1 v) (e1 : x1.rd hp1 = some d) (e : seqD2 d = some ds) :
    ∃ k b xs, v = .ref b ∧ SqK k X.K H1 b xs ∧ xs.length ≤ sizeLine ∧ RepL N X.K X.mg H1 (InR ρ) ds xs ∧ ∀ ρ' hp' Hc, Aft N X.K X.mg Θ ρ (Ev.shut x1 hp1) ρ' hp' H1 Hc → SqK k X.K Hc b xs := by
  cases d with
  | lst es =>
    cases e
    obtain ⟨b, xs, rfl, ta, la, ra⟩ := repR_lst (rx.rd hr1 e1)
    exact ⟨.l, b, xs, rfl, .of ta, la, ra, fun ρ' hp' Hc af2 => .of (lst_stays hr1 rx e1 rfl ta trivial af2)⟩
  | tup es =>
    cases e
    obtain ⟨b, xs, rfl, ta, la, ra⟩ := repR_tup (rx.rd hr1 e1)
    exact ⟨.t, b, xs, rfl, ta.sq, la, ra, fun ρ' hp' Hc af2 => (ta.mono ((aft_shut x1 hr1).trans af2).kpB ((aft_shut x1 hr1).trans af2).gr).sq⟩
  | _ => cases e
theorem s_enum (ck : Ck N C Θ X W hot) {x : Expr} {elts : List Expr} {kk : Nat} {tpos : Pos} {a : E} {p pos : Pos} (hg : Gl X "enumerate") (hs : ∀ a q, x ≠ .Starred a q) (ha : PE X x (tE N C Θ X W a)) :
    PI X (.Tuple elts kk tpos) (.Call (.Name "enumerate" p) [x] [] pos) (tI N C Θ X W (.enum a)) := by
  refine (pi_enumK hg (ck.b "enumerate") (a_one ck hs ha) (star_one hs _)).imp fun σ H R ⟨ρ, env, hp, st, hr, po⟩ => ?_
  simp only [evi] at po
  refine tE_bnd ck.pm st hr po fun x1 hp1 v H1 af rx st1 hr1 po1 => ?_
  obtain ⟨z, e, q⟩ := po1.lift
  obtain ⟨d, e1, e2⟩ := opt_bind e
  obtain ⟨ds, e3, rfl⟩ := Option.map_eq_some_iff.mp e2
  obtain ⟨k, b, xs, rfl, hq, la, ra, hst⟩ := seq_kind ck hr1 rx e1 e3
  refine ⟨k, b, xs, rfl, hq, q _ H1 (.refl hr1) ⟨by rw [enum_len, ra.len]; exact la, fun Hc => SqK k X.K Hc b xs, fun i H v H' => (IteK k X.K b).yld i H v H' ∧ i < xs.length ∧ SqK k X.K H b xs, ⟨fun i Hc hi g => ?_, fun Hc g => ?_, fun i Hc v Hc' hi g y => ⟨y, by rw [enum_len, ra.len] at hi; exact hi, g⟩⟩, fun ρ' hp' Hc af2 => ⟨hst _ _ _ af2, fun i v Hc' hi hy => ?_⟩⟩⟩
  · rw [enum_len, ra.len] at hi
    exact ⟨xs, xs[i], g, by simp [hi]⟩
  · rw [enum_len, ra.len]
    exact ⟨xs, g, rfl⟩
  · obtain ⟨⟨T, y, rfl, hT, rfl, hy⟩, hi2, g⟩ := hy
    obtain ⟨d, h1, h2⟩ := ra.getV (hy xs g)
    have af3 := (aft_shut x1 hr1).trans af2
    obtain ⟨w1, w2⟩ := pair_rep ck.pm af2.hpr hT (rep_ints (N := N) (K := X.K) (mg := X.mg) (H := Hc) (B := InR ρ') (i : Int)) (Rep.mono af3.kpB af3.gr d y h2)
    exact ⟨_, zipIdx_at h1, w1, w2⟩
theorem zip_at {ds es : List D} {i : Nat} {d e : D} (h1 : ds[i]? = some d) (h2 : es[i]? = some e) : (zipD ds es)[i]? = some (.tup [d, e]) := by
  unfold zipD
  rw [List.getElem?_map, show (ds.zip es)[i]? = some (d, e) from List.getElem?_zip_eq_some.mpr ⟨h1, h2⟩] <;> rfl
theorem zip_len {ds es : List D} : (zipD ds es).length = min ds.length es.length := by unfold zipD; simp
theorem notR {x : Ev.X} (h : ∀ j, x ≠ .r j) (hp : Hs) : Ev.shut x hp = hp := by cases x <;> first | rfl | exact absurd rfl (h _)
theorem s_zip (ck : Ck N C Θ X W hot) {x y : Expr} {elts : List Expr} {kk : Nat} {tpos : Pos} {a b : E} {p pos : Pos} (hg : Gl X "zip") (hs : ∀ a q, x ≠ .Starred a q) (hs2 : ∀ a q, y ≠ .Starred a q) (ha : PE X x (tE N C Θ X W a)) (hb : PE X y (tE N C Θ X W b)) :
    PI X (.Tuple elts kk tpos) (.Call (.Name "zip" p) [x, y] [] pos) (tI N C Θ X W (.zip a b)) := by
  refine (pi_zipK hg (ck.b "zip") (pa_cons ha (a_one ck hs2 hb) (star_ok hs _ _)) (star_ok hs _ _) (by rw [star_one hs2]; rfl)).imp fun σ H R ⟨ρ, env, hp, st, hr, po⟩ => ?_
  simp only [evi] at po
  refine tE_bnd ck.pm st hr po fun x1 hp1 v H1 af rx st1 hr1 po1 => tE_bnd ck.pm st1 hr1 po1 fun y1 hp2 u H2 af2 ry st2 hr2 po2 => ?_
  obtain ⟨z, e, q⟩ := po2.lift
  unfold zipX at e
  obtain ⟨sx, e0, e⟩ := opt_bind e
  obtain ⟨d, e1, e2⟩ := opt_bind e
  obtain ⟨d2, e3, e4⟩ := opt_bind e2
  obtain ⟨ds, e6, e7⟩ := opt_bind e4
  obtain ⟨es, e8, rfl⟩ := Option.map_eq_some_iff.mp e7
  have hxs : Ev.shut x1 hp2 = hp2 ∨ sx = x1 := by
    cases x1 with
    | r j => cases y1 <;> first | (cases e0; exact .inr rfl) | cases e0
    | d w => exact .inl rfl
    | u m => exact .inl rfl
  have hys : Ev.shut y1 hp2 = hp2 ∨ sx = y1 := by
    cases y1 with
    | r j => cases x1 <;> first | (cases e0; exact .inr rfl) | cases e0
    | d w => exact .inl rfl
    | u m => exact .inl rfl
  have toX : ∀ w, Ev.shut w hp2 = hp2 ∨ sx = w → ∀ ρ' hp' Hc, Aft N X.K X.mg Θ ρ (Ev.shut sx hp2) ρ' hp' H2 Hc → Aft N X.K X.mg Θ ρ (Ev.shut w hp2) ρ' hp' H2 Hc := fun w hw ρ' hp' Hc af => by
    rcases hw with hw | hw
    · rw [hw]; exact (aft_shut sx hr2).trans af
    · rw [← hw]; exact af
  obtain ⟨k, b1, xs, rfl, hq, la, ra, hst⟩ := seq_kind ck hr2 (rx.mono ck.pm af2) e1 e6
  obtain ⟨l, b2, ys, rfl, hq2, la2, ra2, hst2⟩ := seq_kind ck hr2 ry e3 e8
  refine ⟨k, l, b1, b2, xs, ys, rfl, hq, hq2, q _ H2 (.refl hr2) ⟨by rw [zip_len, ra.len]; omega, fun Hc => SqK k X.K Hc b1 xs ∧ SqK l X.K Hc b2 ys, fun i H v H' => (ItzK k l X.K b1 b2).yld i H v H' ∧ SqK k X.K H b1 xs ∧ SqK l X.K H b2 ys, ⟨fun i Hc hi g => ?_, fun Hc g => ?_, fun i Hc v Hc' hi g y => ⟨y, g⟩⟩, fun ρ' hp' Hc af3 => ⟨⟨hst _ _ _ (toX x1 hxs _ _ _ af3), hst2 _ _ _ (toX y1 hys _ _ _ af3)⟩, fun i v Hc' hi hy => ?_⟩⟩⟩
  · rw [zip_len, ra.len, ra2.len] at hi
    have h1 : i < xs.length := by omega
    have h2 : i < ys.length := by omega
    exact ⟨xs, ys, xs[i], ys[i], g.1, g.2, by simp [h1], by simp [h2]⟩
  · rw [zip_len, ra.len, ra2.len]
    exact ⟨xs, ys, g.1, g.2, by omega, by omega, by omega⟩
  · obtain ⟨⟨T, y, w, rfl, hT, rfl, h1, h2⟩, g1, g2⟩ := hy
    obtain ⟨d, h3, h4⟩ := ra.getV (h1 xs g1)
    obtain ⟨d', h5, h6⟩ := ra2.getV (h2 ys g2)
    have af4 : Aft N X.K X.mg Θ ρ hp2 ρ' hp' H2 Hc := (aft_shut sx hr2).trans af3
    obtain ⟨w1, w2⟩ := pair_rep ck.pm af3.hpr hT (Rep.mono af4.kpB af4.gr d y h4) (Rep.mono af4.kpB af4.gr d' w h6)
    exact ⟨_, zip_at h3 h5, w1, w2⟩
end
end Ev
set_option Elab.async false
set_option linter.all false
set_option maxRecDepth 100000
set_option maxHeartbeats 4000000
/-! Own work: comprehensions, things that are made. -/
namespace Ev
open PySem PySem.Spec L2

/-! ### slots forgotten -/
theorem wipe_get {σ : St} {i : Nat} : ∀ {vs : List Nat}, (L2.wipe σ vs)[i]? = if i ∈ vs then σ[i]?.map (fun _ => none) else σ[i]?
  | [] => by simp [L2.wipe]
  | v :: vs => by
    unfold L2.wipe
    rw [List.getElem?_set, wipe_get (vs := vs), L2.wipe_length]
    by_cases h : v = i
    · subst h
      by_cases hl : v < σ.length
      · simp [hl]
      · simp [hl, List.getElem?_eq_none (Nat.le_of_not_lt hl)]
    · by_cases h2 : i ∈ vs
      · simp [h, h2]
      · simp [h, h2, Ne.symm h]
theorem wipe_wipe {σ : St} {vs : List Nat} : L2.wipe (L2.wipe σ vs) vs = L2.wipe σ vs := by
  refine List.ext_getElem? fun i => ?_
  rw [wipe_get, wipe_get]
  by_cases h : i ∈ vs
  · simp only [h, if_true]
    cases σ[i]? <;> rfl
  · simp [h]
theorem wipe_set {σ : St} {vs : List Nat} {i : Nat} {v : Option V} (h : i ∈ vs) : L2.wipe (σ.set i v) vs = L2.wipe σ vs := by
  refine List.ext_getElem? fun j => ?_
  rw [wipe_get, wipe_get]
  by_cases hj : j ∈ vs
  · simp only [hj, if_true, List.getElem?_set]
    split
    · rename_i e; subst e
      split
      · rename_i hl; simp [hl]
      · rename_i hl; simp [List.getElem?_eq_none (Nat.le_of_not_lt hl)]
    · rfl
  · simp only [hj, if_false]
    rw [List.getElem?_set_ne (fun e => hj (by rw [← e]; exact h))]
theorem wipeE_get {env : Env} {i : Nat} : ∀ {vs : List Nat}, (wipeE env vs)[i]? = if i ∈ vs then env[i]?.map (fun _ => none) else env[i]?
  | [] => by simp [wipeE]
  | v :: vs => by
    unfold wipeE
    rw [List.getElem?_set, wipeE_get (vs := vs)]
    have hl : ∀ vs : List Nat, (wipeE env vs).length = env.length := by
      intro vs
      induction vs with
      | nil => rfl
      | cons a b ih => unfold wipeE; rw [List.length_set, ih]
    rw [hl]
    by_cases h : v = i
    · subst h
      by_cases hl : v < env.length
      · simp [hl]
      · simp [hl, List.getElem?_eq_none (Nat.le_of_not_lt hl)]
    · by_cases h2 : i ∈ vs
      · simp [h, h2]
      · simp [h, h2, Ne.symm h]
theorem wipeE_len {env : Env} : ∀ {vs : List Nat}, (wipeE env vs).length = env.length
  | [] => rfl
  | v :: vs => by unfold wipeE; rw [List.length_set, wipeE_len]
section
variable {N : Nm} {K : PySem.W.Frag} {mg : Str → Option Value} {Θ : Pm} {ρ ρ' : List Addr} {hp hp' : Hs} {H H' H2 : Hp} {env : Env} {σ : St}
theorem StR.wipe (st : StR N K mg Θ ρ H env σ) (vs : List Nat) : StR N K mg Θ ρ H (wipeE env vs) (L2.wipe σ vs) :=
  ⟨by rw [wipeE_len, L2.wipe_length]; exact st.1, fun i w e => by
    rw [wipeE_get] at e
    by_cases h : i ∈ vs
    · simp [h] at e
    · rw [if_neg h] at e
      obtain ⟨v, e1, r⟩ := st.2 i w e
      exact ⟨v, by rw [wipe_get, if_neg h]; exact e1, r⟩⟩
theorem StR.set (st : StR N K mg Θ ρ H env σ) {i : Nat} {w : W} {v : V} (r : RW N K mg Θ ρ H w v) : StR N K mg Θ ρ H (env.set i (some w)) (σ.set i (some v)) :=
  ⟨by rw [List.length_set, List.length_set]; exact st.1, fun j w' e => by
    by_cases h : i = j
    · subst h
      by_cases hl : i < env.length
      · rw [List.getElem?_set_self hl] at e
        cases e
        exact ⟨v, List.getElem?_set_self (by rw [← st.1]; exact hl), r⟩
      · rw [List.getElem?_eq_none (by rw [List.length_set]; exact Nat.le_of_not_lt hl)] at e
        cases e
    · rw [List.getElem?_set_ne h] at e
      rw [List.getElem?_set_ne h]
      exact st.2 j w' e⟩
end
/-! ### targets -/
def Tg.sl : Tg → List Nat
  | .one i => [i]
  | .many is => is
def tgS : List Nat → TGs
  | [] => gNil
  | i :: is => gCons (gName i) (tgS is)
def tgG (K : PySem.W.Frag) : Tg → TG
  | .one i => gName i
  | .many is => gTup K is.length (tgS is)
theorem bindTs_len : ∀ {is : List Nat} {ds : List D} {env env' : Env}, bindTs is ds env = some env' → ds.length = is.length
  | [], [], _, _, _ => rfl
  | [], _ :: _, _, _, e => by cases e
  | _ :: _, [], _, _, e => by cases e
  | _ :: is, _ :: ds, _, _, e => congrArg (· + 1) (bindTs_len (is := is) (ds := ds) e)
section
variable {N : Nm} {X : Cx} {Θ : Pm} {ρ : List Addr} {hp : Hs} {H : Hp}
theorem tgS_ok {Q : St → Hp → Prop} {vs : List Nat} {σ0 : St} : ∀ {is : List Nat} {ds : List D} {xs : List V} {env env' : Env} {σ : St}, bindTs is ds env = some env' → RepL N X.K X.mg H (InR ρ) ds xs → StR N X.K X.mg Θ ρ H env σ → (∀ i ∈ is, i ∈ vs) → L2.wipe σ vs = σ0 →
    (∀ σ', StR N X.K X.mg Θ ρ H env' σ' → L2.wipe σ' vs = σ0 → Q σ' H) → tgS is xs σ H Q
  | [], ds, xs, env, env', σ, e, r, st, hi, hw, q => by
    cases ds with
    | nil => cases e; unfold RepL at r; exact ⟨r, q σ st hw⟩
    | cons d ds => cases e
  | i :: is, ds, xs, env, env', σ, e, r, st, hi, hw, q => by
    cases ds with
    | nil => cases e
    | cons d ds =>
      obtain ⟨v, r', e1, h1, h2⟩ := RepL.cons_iff.mp r
      exact ⟨v, r', e1, tgS_ok e h2 (StR.set (w := .d d) st h1) (fun j hj => hi j (List.mem_cons_of_mem _ hj)) (by rw [wipe_set (hi i List.mem_cons_self)]; exact hw) q⟩
theorem tgG_ok {Q : St → Hp → Prop} {vs : List Nat} {σ0 : St} {tg : Tg} {d : D} {x : V} {env env' : Env} {σ : St} (e : bindT tg d env = some env') (r : Rep N X.K X.mg H (InR ρ) d x) (st : StR N X.K X.mg Θ ρ H env σ) (hi : ∀ i ∈ tg.sl, i ∈ vs) (hw : L2.wipe σ vs = σ0)
    (q : ∀ σ', StR N X.K X.mg Θ ρ H env' σ' → L2.wipe σ' vs = σ0 → Q σ' H) : tgG X.K tg x σ H Q := by
  cases tg with
  | one i =>
    cases e
    exact q _ (StR.set (w := .d d) st r) (by rw [wipe_set (hi i (by simp [Tg.sl]))]; exact hw)
  | many is =>
    cases d with
    | tup ds =>
      obtain ⟨a, xs, rfl, ta, la, ra⟩ := repR_tup r.read
      refine ⟨a, xs, rfl, ta.sq, ?_, tgS_ok e ra st hi hw q⟩
      rw [← ra.len]
      exact bindTs_len e
    | _ => cases e
end
end Ev
set_option Elab.async false
set_option linter.all false
set_option maxRecDepth 100000
set_option maxHeartbeats 4000000
/-! Own work: comprehensions, things that are made. -/
namespace L2
open PySem PySem.Spec
theorem PTs.imp {X : Cx} {ifs : List Expr} {t t' : TT} (h : PTs X ifs t) (w : ∀ σ H Q, t' σ H Q → t σ H Q) : PTs X ifs t' := ⟨fun pins s σ H Q I q => h.run pins s σ H Q I (w σ H Q q)⟩
end L2
namespace Ev
open PySem PySem.Spec L2

theorem bnd_inv {A B : Type} {r : R A} {k : A → Hs → R B} {b : B} {h : Hs} (e : bnd r k = some (.ok b, h)) : ∃ a h1, r = some (.ok a, h1) ∧ k a h1 = some (.ok b, h) := by
  match r, e with
  | some (.ok a, h1), e => exact ⟨a, h1, rfl, e⟩
  | some (.err c v, h1), e => cases e
theorem lift_inv {A : Type} {o : Option A} {h h' : Hs} {a : A} (e : lift o h = some (.ok a, h')) : o = some a ∧ h' = h := by
  cases o with
  | none => cases e
  | some z => cases e; exact ⟨rfl, rfl⟩
abbrev W0 : WX := fun _ _ _ _ => False
section
variable {N : Nm} {C : Cl} {Θ : Pm} {X : Cx} {W : WX} {hot : Bool}
theorem Ck.blk (ck : Ck N C Θ X W hot) (s : Shared) (H : Hp) (scope : Scope) (ce : PySem.Env) (fp : List Addr) : Ck N C Θ (X.blk s H scope ce fp) W0 hot where
  pm := ck.pm
  nd := ck.nd
  calm := ck.calm
  units := ck.units
  tk := fun u s' ⟨a, B, sI, pins, σ, H, cls, d, e, I, nb, up, sky, na, os, ag, w⟩ => w.elim
  bi := ck.bi
  gl := ck.gl
  fnv := ck.fnv
  call := fun h f k => ⟨(ck.call h f k).ex⟩
  mkO := fun h f k => ⟨(ck.mkO h f k).ex⟩
  insOk := ck.insOk
  insFd := ck.insFd
  insNf := ck.insNf
  kitB := ck.kitB
  kitI := ck.kitI
  kitO := ck.kitO
  kcC := ck.kcC
  clv := ck.clv
  exm := ck.exm
  noer := ck.noer
  exc := fun h c k => ⟨(ck.exc h c k).ex⟩
  xs := ck.xs
/-- a bound thing that is written -/
theorem Aft.wr {K : PySem.W.Frag} {mg : Str → Option Value} {ρ ρ' : List Addr} {hp hp' : Hs} {H H' : Hp} (a : Aft N K mg Θ ρ hp ρ' hp' H H') {p : Addr} {o : HO} (h0 : H p = none) {o0 : HO} (h1 : H' p = some o0) (hw : Wr o0) (hw2 : Wr o) (hi : p ∈ ρ') (hb : ∀ (j : Nat), ρ'[j]? = some p → hp'[j]? = some MO.bn) : Aft N K mg Θ ρ hp ρ' hp' H (L2.upd H' p o) := by
  refine ⟨a.pre, fun b u e h hn => ?_, fun b e => ?_, a.shut, a.hpr.len, a.hpr.nd, tabs_wr a.hpr.tb h1 hw, fun j b m e1 e2 => ?_⟩
  · rw [upd_ne (ne_of_none e h0)]
    exact a.kp b u e h hn
  · by_cases z : b = p
    · rw [z]; exact .inl h0
    · unfold Fs at e; rw [upd_ne z] at e
      exact a.dom b e
  · by_cases z : b = p
    · subst z
      rw [hb j e1] at e2
      cases e2
      exact ⟨⟨o, upd_same, hw2⟩, trivial⟩
    · obtain ⟨q1, q2⟩ := a.hpr.at_ j b m e1 e2
      obtain ⟨o1, q1, w1⟩ := q1
      refine ⟨⟨o1, by rw [upd_ne z]; exact q1, w1⟩, ?_⟩
      have k : Kp H' (L2.upd H' p o) (InR ρ') := fun x u e n _ => by rw [upd_ne (fun y => n (by subst y; exact hi))]; exact e
      cases m with
      | lst ds => obtain ⟨xs, e, l, r⟩ := q2; exact ⟨xs, by rw [upd_ne z]; exact e, l, RepL.mono k gr_same ds xs r⟩
      | lk ds => obtain ⟨xs, e, l, r⟩ := q2; exact ⟨xs, by rw [upd_ne z]; exact e, l, RepL.mono k gr_same ds xs r⟩
      | dct ks vs =>
        rcases q2 with ⟨kvs, e, l, r⟩ | ⟨kvs, e, l, r⟩
        · exact .inl ⟨kvs, by rw [upd_ne z]; exact e, l, RepL.mono k gr_same vs _ r⟩
        · exact .inr ⟨kvs, by rw [upd_ne z]; exact e, l, RepL.mono k gr_same vs _ r⟩
      | ins c ds => obtain ⟨C, dx, xs, m1, e, l, r⟩ := q2; exact ⟨C, dx, xs, m1, by rw [upd_ne z]; exact e, l, RepL.mono k gr_same ds xs r⟩
      | dead => trivial
      | bn => trivial
/-- an element of a comprehension -/
def eltF (C : Cl) (own : List Nat) (elt : E) (tg : Tg) (cond : E) (env : Env) : D → Hs → R (Option D) := fun d h => match bindT tg d (wipeE env own) with
  | some env' => bnd (ev C cond env' h) fun x h => bnd (lift (toB x) h) fun k h => if k then bnd (ev C elt env' h) fun y h => lift (y.toD.map some) h else some (.ok none, h)
  | none => none
theorem ev_comp {own : List Nat} {elt it cond : E} {tg : Tg} {env : Env} {h : Hs} : ev C (.comp own elt tg it cond) env h = bnd (evi C it env h) fun p h =>
    match compL (eltF C own elt tg cond env) p.2 (Ev.shut p.1 h ++ [.bn]) with
      | some (.ok ds, h') => some (.ok (.u (.lst ds)), Ev.reopen p.1 h (h'.take h.length))
      | _ => none := by
  simp only [ev]; rfl
theorem compL_cons {f : D → Hs → R (Option D)} {x : D} {xs : List D} {h h' : Hs} {ds : List D} (e : compL f (x :: xs) h = some (.ok ds, h')) :
    ∃ r h1 rs, f x h = some (.ok r, h1) ∧ compL f xs h1 = some (.ok rs, h') ∧ ds = (match r with | some d => d :: rs | none => rs) := by
  unfold compL at e
  split at e
  · rename_i r h1 e1
    split at e
    · rename_i rs h2 e2
      cases e
      exact ⟨r, h1, rs, e1, e2, rfl⟩
    · cases e
  · cases e
theorem lc_of (ck : Ck N C Θ X W hot) {own : List Nat} {elt it cond : E} {tg : Tg} (htg : ∀ i ∈ tg.sl, i ∈ own) {σ : St} {H : Hp} {Q : VK} (h : tE N C Θ X W (.comp own elt tg it cond) σ H Q) :
    tLc (tI N C Θ X W it) (tgG X.K tg) (tT N C Θ X W0 cond) (tE N C Θ X W0 elt) own σ H Q := by
  obtain ⟨ρ, env, hp, st, hr, po⟩ := h
  rw [ev_comp] at po
  refine ⟨ρ, env, hp, st, hr, (Post.bnd (L := RlI N X.K X.mg Θ ρ) po).imp fun J H1 ⟨p, hp1, af, rl, po1⟩ D hD => ?_⟩
  have st1 := st.mono ck.pm af
  have hr1 := af.hpr
  obtain ⟨hle, G, Y, wk, hst⟩ := rl
  generalize ef : eltF C own elt tg cond env = f at po1
  obtain ⟨ds, h', ec, po1⟩ : ∃ ds h', compL f p.2 (Ev.shut p.1 hp1 ++ [.bn]) = some (.ok ds, h') ∧ Post N X.K X.mg Θ W σ ρ (RlX N X.K X.mg Θ ρ) H hp1 H1 (some (.ok (.u (.lst ds)), Ev.reopen p.1 hp1 (h'.take hp1.length))) Q := by
    cases ec : compL f p.2 (Ev.shut p.1 hp1 ++ [.bn]) with
    | none => rw [ec] at po1; exact False.elim po1
    | some z =>
      obtain ⟨o, h'⟩ := z
      rw [ec] at po1
      cases o with
      | err c v => exact False.elim po1
      | ok ds => exact ⟨ds, h', rfl, po1⟩
  have sh := aft_shut p.1 hr1
  have a0 : Aft N X.K X.mg Θ ρ (Ev.shut p.1 hp1) (ρ ++ [D]) (Ev.shut p.1 hp1 ++ [.bn]) H1 (upd H1 D (.lst [])) := .beside ck.pm sh.hpr hD trivial trivial
  have hlen : ρ.length = (Ev.shut p.1 hp1).length := sh.hpr.len
  have stD := fun Hc hpc (a : Aft N X.K X.mg Θ ρ (Ev.shut p.1 hp1) (ρ ++ [D]) hpc H1 Hc) => (st1.mono ck.pm (sh.trans a)).wipe own
  refine lc_it wk (fun i Hc => ∃ hpc dsR xs dsA, Aft N X.K X.mg Θ ρ (Ev.shut p.1 hp1) (ρ ++ [D]) hpc H1 Hc ∧ compL f (p.2.drop i) hpc = some (.ok dsR, h') ∧ Hc D = some (.lst xs) ∧ xs.length ≤ i ∧ RepL N X.K X.mg Hc (InR (ρ ++ [D])) dsA xs ∧ dsA ++ dsR = ds ∧ hpc[ρ.length]? = some .bn)
    ⟨_, ds, [], [], a0, ec, upd_same, Nat.le_refl _, by unfold RepL; rfl, rfl, by rw [hlen]; simp⟩ (fun i Hc hi ⟨hpc, dsR, xs, dsA, a, _⟩ => (hst _ _ _ a).1) (fun i x Hc Hc' hi ⟨hpc, dsR, xs, dsA, a, e, hx, lx, rx, eds, hbn⟩ hy => ?_) fun Hc ⟨hpc, dsR, xs, dsA, a, e, hx, lx, rx, eds, hbn⟩ => ?_
  · obtain ⟨d, e1, a1, rd⟩ := (hst _ _ _ a).2 i x Hc' hi hy
    have ed : p.2.drop i = d :: p.2.drop (i + 1) := by
      obtain ⟨hl, e2⟩ := List.getElem?_eq_some_iff.mp e1
      rw [← e2]
      exact List.drop_eq_getElem_cons hl
    rw [ed] at e
    obtain ⟨r, h1, rs, e2, e3, e4⟩ := compL_cons e
    have a2 := a.trans a1
    have hDin : D ∈ ρ ++ [D] := by simp
    have hDj : ∀ j, (ρ ++ [D])[j]? = some D → j = ρ.length := fun j hj => nod_ix a2.hpr.nd hj (by simp)
    have hx' : Hc' D = some (.lst xs) := a1.kp D _ hx (fun j hj => by
      have := hDj j hj
      subst this
      exact ⟨.bn, hbn, rfl⟩) trivial
    rw [← ef] at e2
    unfold eltF at e2
    split at e2
    · rename_i env' eb
      refine tgG_ok (ρ := ρ ++ [D]) (vs := own) (σ0 := L2.wipe σ own) eb rd (stD _ _ a2) htg wipe_wipe fun σ2 st2 hw => ⟨hw, ?_⟩
      rw [show (bnd (ev C cond env' hpc) fun x h => bnd (lift (toB x) h) fun k h => if k then bnd (ev C elt env' h) fun y h => lift (y.toD.map some) h else some (.ok none, h)) = bnd (bnd (ev C cond env' hpc) fun x h => lift (toB x) h) (fun k h => if k then bnd (ev C elt env' h) fun y h => lift (y.toD.map some) h else some (.ok none, h)) by
        match ev C cond env' hpc with
        | none => rfl
        | some (.err c v, h) => rfl
        | some (.ok x, h) => rfl] at e2
      obtain ⟨k, hk, e5, e6⟩ := bnd_inv e2
      refine ⟨ρ ++ [D], env', hpc, st2, a2.hpr, ?_⟩
      rw [e5]
      intro b H3 a3 rb
      have rb : k = b := rb
      subst rb
      have a4 := a2.trans a3
      have hbn3 : hk[ρ.length]? = some .bn := a3.shut _ _ hbn rfl
      have hx3 : H3 D = some (.lst xs) := a3.kp D _ hx' (fun j hj => by
        have := hDj j hj
        subst this
        exact ⟨.bn, hbn, rfl⟩) trivial
      have rx3 : RepL N X.K X.mg H3 (InR (ρ ++ [D])) dsA xs := RepL.mono (a1.trans a3).kpB (a1.trans a3).gr _ _ rx
      cases k with
      | false =>
        simp only [Bool.false_eq_true, if_false] at e6 ⊢
        cases e6
        exact ⟨h1, rs, xs, dsA, a4, e3, hx3, by omega, rx3, by rw [← eds, e4], hbn3⟩
      | true =>
        simp only [if_true] at e6 ⊢
        obtain ⟨y, h2, e7, e8⟩ := bnd_inv e6
        obtain ⟨e9, e10⟩ := lift_inv e8
        subst e10
        obtain ⟨d', e11, e12⟩ := Option.map_eq_some_iff.mp e9
        subst e12
        refine ⟨ρ ++ [D], env', hk, st2.mono ck.pm a3, a3.hpr, ?_⟩
        rw [e7]
        intro v H4 a5 ry
        have ry : RX N X.K X.mg Θ (ρ ++ [D]) H4 H3 y v := ry.1
        have rv := ry.toD e11
        have hx4 : H4 D = some (.lst xs) := a5.kp D _ hx3 (fun j hj => by
          have := hDj j hj
          subst this
          exact ⟨.bn, hbn3, rfl⟩) trivial
        have hbn4 : h1[ρ.length]? = some .bn := a5.shut _ _ hbn3 rfl
        have rx4 : RepL N X.K X.mg H4 (InR (ρ ++ [D])) dsA xs := RepL.mono a5.kpB a5.gr _ _ rx3
        have a6 := a4.trans a5
        have kD : Kp H4 (upd H4 D (.lst (xs ++ [v]))) (InR (ρ ++ [D])) := fun b u e n _ => by rw [upd_ne (fun y => n (by subst y; exact hDin))]; exact e
        refine ⟨xs, hx4, by omega, h1, rs, xs ++ [v], dsA ++ [d'], a6.wr hD hx4 trivial trivial hDin (fun j hj => by rw [hDj j hj]; exact hbn4), e3, upd_same, by rw [List.length_append]; simp; omega, ?_, by rw [← eds, e4]; simp, hbn4⟩
        exact RepL.mono kD gr_same _ _ (RepL.append rx4 (.one rv))
    · cases e2
  · rw [List.drop_length] at e
    cases e
    rw [List.append_nil] at eds
    subst eds
    have a1 := Aft.cut sh.hpr a
    rw [hlen, show (Ev.shut p.1 hp1).length = hp1.length by rw [← hlen]; exact hr1.len] at a1
    have hn : ρ.length = hp1.length := hr1.len
    have h'len : h'.length = hp1.length + 1 := by rw [← a.hpr.len, List.length_append, hn]; rfl
    have e3 := take_last h'len (by rw [← hn]; exact hbn)
    have hR : HpR N X.K X.mg Θ (ρ ++ [D]) Hc (Ev.reopen p.1 hp1 (h'.take hp1.length) ++ [.lst dsA]) := by
      have q := (Aft.reopen p.1 a).hpr
      rw [e3, reopen_app (by rw [List.length_take]; omega)] at q
      have hl2 : (Ev.reopen p.1 hp1 (h'.take hp1.length)).length = hp1.length := by rw [reopen_len, List.length_take]; omega
      have q2 := q.set (j := hp1.length) (m := .bn) (m' := .lst dsA) (by rw [List.getElem?_append_right (by omega), hl2]; simp) fun b eb _ => by
        rw [← hn] at eb
        simp at eb
        subst eb
        exact ⟨xs, hx, by omega, rx⟩
      rw [List.set_append_right _ _ (by omega), hl2] at q2
      simpa using q2
    refine po1 (.ref D) Hc a1.reopen ⟨⟨D, rfl, hr1.nin hD, af.dom D (.inl hD), ⟨_, hx, trivial⟩, xs, hx, by omega, RepL.mono kp_refl gr_less _ _ rx⟩, fun b eb => by cases eb; exact hR⟩
theorem tT_yes {σ : St} {H : Hp} {Q : Bool → Hp → Prop} (h : tT N C Θ X W .yes σ H Q) : tYes σ H Q := by
  obtain ⟨ρ, env, hp, st, hr, po⟩ := h
  simp only [ev, bnd_ok, toB, lift_some] at po
  exact po true H (.refl hr) rfl
theorem s_comp (ck : Ck N C Θ X W false) {elt tg iter : Expr} {ifs : List Expr} {scope : Scope} {own : List (Str × Nat)} {pos : Pos} {el it cond : E} {tgt : Tg} (hi : PI X tg iter (tI N C Θ X W it)) (ok : BlkOk X.N X.env.scope scope own) (htg : ∀ i ∈ tgt.sl, i ∈ own.map (·.2))
    (hg : ∀ (s : Shared) (H : Hp) (Ca : Addr) (cl : List (Str × Addr)) (fp : List Addr), PG (X.blk s H scope (compEnvC scope cl Ca X.env) fp) tg (tgG X.K tgt))
    (ht : ∀ (s : Shared) (H : Hp) (Ca : Addr) (cl : List (Str × Addr)) (fp : List Addr), PTs (X.blk s H scope (compEnvC scope cl Ca X.env) fp) ifs (tT N C Θ (X.blk s H scope (compEnvC scope cl Ca X.env) fp) W0 cond))
    (he : ∀ (s : Shared) (H : Hp) (Ca : Addr) (cl : List (Str × Addr)) (fp : List Addr), PE (X.blk s H scope (compEnvC scope cl Ca X.env) fp) elt (tE N C Θ (X.blk s H scope (compEnvC scope cl Ca X.env) fp) W0 el))
    (hs : ∀ x, foldedSetIterable iter X.env x = pure x) :
    PE X (.ListComp elt [⟨tg, iter, ifs, 0⟩] scope pos) (tE N C Θ X W (.comp (own.map (·.2)) el tgt it cond)) :=
  (pe_lc (ck.calm rfl) ck.nd hi ok hg ht he hs).imp fun σ H Q h => lc_of ck htg h
end
end Ev
set_option Elab.async false
set_option linter.all false
set_option maxRecDepth 100000
set_option maxHeartbeats 4000000
/-! Own work: statements. -/
namespace Ev
open PySem PySem.Spec L2

def PostS (N : Nm) (K : PySem.W.Frag) (mg : Str → Option Value) (Θ : Pm) (W : WX) (B0 : Hp) (ρ : List Addr) (hp : Hs) (H : Hp) (r : RS) (D : Ends) : Prop :=
  match r with
  | some (.nx env', hp') => ∀ ρ' σ' H', Aft N K mg Θ ρ hp ρ' hp' H H' → StR N K mg Θ ρ' H' env' σ' → D.nx σ' H'
  | some (.brk env', hp') => ∀ ρ' σ' H', Aft N K mg Θ ρ hp ρ' hp' H H' → StR N K mg Θ ρ' H' env' σ' → D.bk σ' H'
  | some (.cont env', hp') => ∀ ρ' σ' H', Aft N K mg Θ ρ hp ρ' hp' H H' → StR N K mg Θ ρ' H' env' σ' → D.ct σ' H'
  | some (.ret x, hp') => ∀ ρ' v H', Aft N K mg Θ ρ hp ρ' hp' H H' → RXF N K mg Θ ρ' H' hp' B0 x v → D.rt v H'
  | some (.err c vs env', hp') => ∀ ρ' σ' Ca d H', mg (N.cl c) = some (.ref Ca) → Aft N K mg Θ ρ hp ρ' hp' H H' → StR N K mg Θ ρ' H' env' σ' → ErrR N K mg ρ' H' c vs d → W (.ref Ca) d σ' H'
  | none => False
section
variable {N : Nm} {K : PySem.W.Frag} {mg : Str → Option Value} {Θ : Pm} {W : WX} {B0 B1 : Hp} {ρ ρ1 : List Addr} {hp hp1 : Hs} {H H1 : Hp} {r : RS} {D D' : Ends}
theorem PostS.next (h : PostS N K mg Θ W B0 ρ hp H r D) (a : Aft N K mg Θ ρ hp ρ1 hp1 H H1) : PostS N K mg Θ W B0 ρ1 hp1 H1 r D := by
  unfold PostS at h ⊢
  split
  · exact fun ρ' σ' H' a2 st => h ρ' σ' H' (a.trans a2) st
  · exact fun ρ' σ' H' a2 st => h ρ' σ' H' (a.trans a2) st
  · exact fun ρ' σ' H' a2 st => h ρ' σ' H' (a.trans a2) st
  · exact fun ρ' σ' H' a2 st => h ρ' σ' H' (a.trans a2) st
  · exact fun ρ' σ' Ca d H' e a2 st => h ρ' σ' Ca d H' e (a.trans a2) st
  · exact h
theorem PostS.bns {A B : Type} {L : Rl A B} {q : R A} {env : Env} {σ : L2.St} {k : A → Hs → RS} (hΘ : Θ.Ok) (st : StR N K mg Θ ρ H env σ) (h : PostS N K mg Θ W B0 ρ hp H (Ev.bns q env k) D) :
    Post N K mg Θ W σ ρ L B1 hp H q (fun b H1 => ∃ a hp1, Aft N K mg Θ ρ hp ρ hp1 H H1 ∧ L.rel B1 H1 hp1 a b ∧ PostS N K mg Θ W B0 ρ hp H (k a hp1) D) := by
  match q, h with
  | some (.ok a, hp'), h => exact fun b H' af rl => ⟨a, hp', af, rl, h⟩
  | some (.err c vs, hp'), h => exact fun Ca d H' e af er => h ρ σ Ca d H' e af (st.mono hΘ af) er
theorem StR.less {env : Env} {σ : L2.St} (st : StR N K mg Θ ρ H env σ) (vs : List Nat) : StR N K mg Θ ρ H (wipeE env vs) σ :=
  ⟨by rw [wipeE_len]; exact st.1, fun i w e => by
    rw [wipeE_get] at e
    by_cases h : i ∈ vs
    · simp [h] at e
    · rw [if_neg h] at e
      exact st.2 i w e⟩
end
section
variable (N : Nm) (C : Cl) (Θ : Pm) (X : Cx) (W : WX)
def tS (s : S) : TS := fun D σ H => ∃ ρ env hp B0, (∀ x, Fs H x → Fs B0 x) ∧ StR N X.K X.mg Θ ρ H env σ ∧ HpR N X.K X.mg Θ ρ H hp ∧ PostS N X.K X.mg Θ W B0 ρ hp H (ex C s env hp) D
end
section
variable {N : Nm} {C : Cl} {Θ : Pm} {X : Cx} {W : WX} {hot : Bool}
/-- a statement begins with an expression -/
theorem tE_bns {e : E} {ρ : List Addr} {env : Env} {hp : Hs} {σ : L2.St} {H B0 : Hp} {k : Ev.X → Hs → RS} {D : Ends} {T : VK} (hΘ : Θ.Ok) (st : StR N X.K X.mg Θ ρ H env σ) (hr : HpR N X.K X.mg Θ ρ H hp)
    (po : PostS N X.K X.mg Θ W B0 ρ hp H (bns (ev C e env hp) env k) D)
    (w : ∀ x hp1 v H1, Aft N X.K X.mg Θ ρ hp ρ hp1 H H1 → RXF N X.K X.mg Θ ρ H1 hp1 H x v → StR N X.K X.mg Θ ρ H1 env σ → HpR N X.K X.mg Θ ρ H1 hp1 → PostS N X.K X.mg Θ W B0 ρ hp H (k x hp1) D → T v H1) : tE N C Θ X W e σ H T :=
  ⟨ρ, env, hp, st, hr, (PostS.bns (L := RlX N X.K X.mg Θ ρ) hΘ st po).imp fun v H1 ⟨x, hp1, af, rx, po1⟩ => w x hp1 v H1 af rx (st.mono hΘ af) af.hpr po1⟩
theorem tA_bns {e : E} {ρ : List Addr} {env : Env} {hp : Hs} {σ : L2.St} {H B0 : Hp} {k : List Ev.X → Hs → RS} {D : Ends} {T : List V → Hp → Prop} (hΘ : Θ.Ok) (st : StR N X.K X.mg Θ ρ H env σ) (hr : HpR N X.K X.mg Θ ρ H hp)
    (po : PostS N X.K X.mg Θ W B0 ρ hp H (bns (evs C e env hp) env k) D)
    (w : ∀ x hp1 v H1, Aft N X.K X.mg Θ ρ hp ρ hp1 H H1 → RXs N X.K X.mg Θ ρ H H1 x v → StR N X.K X.mg Θ ρ H1 env σ → HpR N X.K X.mg Θ ρ H1 hp1 → PostS N X.K X.mg Θ W B0 ρ hp H (k x hp1) D → T v H1) : tA N C Θ X W e σ H T :=
  ⟨ρ, env, hp, st, hr, (PostS.bns (L := RlA N X.K X.mg Θ ρ) hΘ st po).imp fun v H1 ⟨x, hp1, af, rx, po1⟩ => w x hp1 v H1 af rx (st.mono hΘ af) af.hpr po1⟩
theorem p_nil : PSs X [] (tS N C Θ X W .nil) := ⟨fun pins s σ H D I h => pss_nil.run pins s σ H D I (by
  obtain ⟨ρ, env, hp, B0, hB, st, hr, po⟩ := h
  simp only [ex] at po
  exact po ρ σ H (.refl hr) st)⟩
theorem PSs.imp {X : Cx} {e : List Stmt} {t t' : TS} (h : PSs X e t) (w : ∀ D σ H, t' D σ H → t D σ H) : PSs X e t' := ⟨fun pins s σ H D I q => h.run pins s σ H D I (w D σ H q)⟩
theorem p_cons (ck : Ck N C Θ X W hot) {st : Stmt} {rest : List Stmt} {a b : S} (h1 : PS X st (tS N C Θ X W a)) (h2 : PSs X rest (tS N C Θ X W b)) : PSs X (st :: rest) (tS N C Θ X W (.cons a b)) := by
  refine PSs.imp (pss_cons h1 h2) fun D σ H ⟨ρ, env, hp, B0, hB, st, hr, po⟩ => ?_
  refine ⟨ρ, env, hp, B0, hB, st, hr, ?_⟩
  unfold ex at po
  match e : ex C a env hp, po with
  | some (.nx env', h'), po => exact fun ρ' σ' H' af st' => ⟨ρ', env', h', B0, fun x hx => hB x (af.dom x hx), st', af.hpr, PostS.next po af⟩
  | some (.brk env', h'), po => exact po
  | some (.cont env', h'), po => exact po
  | some (.ret x, h'), po => exact po
  | some (.err c vs env', h'), po => exact po
theorem p_kill {sts : List Stmt} {is : List Nat} {b : S} (h2 : PSs X sts (tS N C Θ X W b)) : PSs X sts (tS N C Θ X W (.cons (.kill is) b)) := by
  refine PSs.imp h2 fun D σ H ⟨ρ, env, hp, B0, hB, st, hr, po⟩ => ?_
  simp only [ex] at po
  exact ⟨ρ, wipeE env is, hp, B0, hB, st.less is, hr, po⟩
theorem p_pass {pos : Pos} : PS X (.Pass pos) (tS N C Θ X W .pass) := ps_pass.imp fun D σ H ⟨ρ, env, hp, B0, hB, st, hr, po⟩ => by
  simp only [ex] at po
  exact po ρ σ H (.refl hr) st
theorem p_brk {pos : Pos} : PS X (.Break pos) (tS N C Θ X W .brk) := ps_break.imp fun D σ H ⟨ρ, env, hp, B0, hB, st, hr, po⟩ => by
  simp only [ex] at po
  exact po ρ σ H (.refl hr) st
theorem p_cont {pos : Pos} : PS X (.Continue pos) (tS N C Θ X W .cont) := ps_continue.imp fun D σ H ⟨ρ, env, hp, B0, hB, st, hr, po⟩ => by
  simp only [ex] at po
  exact po ρ σ H (.refl hr) st
theorem p_doc {x : Str} {j : Nat} {pos pos' : Pos} : PS X (.Expr (.Constant (.str x) j pos) pos') (tS N C Θ X W .pass) := ps_doc.imp fun D σ H ⟨ρ, env, hp, B0, hB, st, hr, po⟩ => by
  simp only [ex] at po
  exact po ρ σ H (.refl hr) st
theorem p_retn {pos : Pos} : PS X (.Return none pos) (tS N C Θ X W .retn) := ps_retN.imp fun D σ H ⟨ρ, env, hp, B0, hB, st, hr, po⟩ => by
  simp only [ex] at po
  exact po ρ .non H (.refl hr) ⟨by show Rep _ _ _ _ _ _ _; unfold Rep; rfl, trivial⟩
theorem p_ret (ck : Ck N C Θ X W hot) {e : Expr} {a : E} {pos : Pos} (ha : PE X e (tE N C Θ X W a)) : PS X (.Return (some e) pos) (tS N C Θ X W (.ret a)) := (ps_ret ha).imp fun D σ H ⟨ρ, env, hp, B0, hB, st, hr, po⟩ => by
  simp only [ex] at po
  exact tE_bns ck.pm st hr po fun x hp1 v H1 af rx st1 hr1 po1 => po1 ρ v H1 af (rx.sooner hB)
theorem p_expr (ck : Ck N C Θ X W hot) {e : Expr} {a : E} {pos : Pos} (ha : PE X e (tE N C Θ X W a)) (hs : swapsWith e none pos.line X.env = pure false) : PS X (.Expr e pos) (tS N C Θ X W (.expr a)) := (ps_expr ha hs).imp fun D σ H ⟨ρ, env, hp, B0, hB, st, hr, po⟩ => by
  simp only [ex] at po
  exact tE_bns ck.pm st hr po fun x hp1 v H1 af rx st1 hr1 po1 => po1 ρ σ H1 af st1
theorem p_if (ck : Ck N C Θ X W hot) {c : Expr} {xs ys : List Stmt} {t : E} {a b : S} {pos : Pos} (hc : PT X c (tT N C Θ X W t)) (ha : PSs X xs (tS N C Θ X W a)) (hb : PSs X ys (tS N C Θ X W b)) : PS X (.If c xs ys pos) (tS N C Θ X W (.ift t a b)) :=
  (ps_if hc ha hb).imp fun D σ H ⟨ρ, env, hp, B0, hB, st, hr, po⟩ => by
    have e1 : ∀ D0 : Unit, ex C (.ift t a b) env hp = bns (bnd (ev C t env hp) fun x h => lift (toB x) h) env (fun k h => if k = true then ex C a env h else ex C b env h) := by
      intro _
      simp only [ex]
      match ev C t env hp with
      | none => rfl
      | some (.err c v, h) => rfl
      | some (.ok x, h) =>
        simp only [bns_ok, bnd_ok]
        cases toB x with
        | none => rfl
        | some k => cases k <;> rfl
    rw [e1 ()] at po
    refine ⟨ρ, env, hp, st, hr, (PostS.bns (L := RlT) ck.pm st po).imp fun k H1 ⟨x, hp1, af, rx, po1⟩ => ?_⟩
    have rx : x = k := rx
    subst rx
    cases x with
    | true =>
      simp only [if_true] at po1 ⊢
      exact ⟨ρ, env, hp1, B0, fun y hy => hB y (af.dom y hy), st.mono ck.pm af, af.hpr, PostS.next po1 af⟩
    | false =>
      simp only [Bool.false_eq_true, if_false] at po1 ⊢
      exact ⟨ρ, env, hp1, B0, fun y hy => hB y (af.dom y hy), st.mono ck.pm af, af.hpr, PostS.next po1 af⟩
/-! ### assignments -/
theorem p_asg (ck : Ck N C Θ X W hot) {s : Stmt} {i : Nat} {a : E} (h : PS X s (tAsg (tE N C Θ X W a) (gName i))) : PS X s (tS N C Θ X W (.asg i a)) := h.imp fun D σ H ⟨ρ, env, hp, B0, hB, st, hr, po⟩ => by
  simp only [ex] at po
  refine tE_bns ck.pm st hr po fun x hp1 v H1 af rx st1 hr1 po1 => ?_
  cases e : x.toW with
  | none => rw [e] at po1; exact po1.elim
  | some w =>
    rw [e] at po1
    exact po1 ρ _ H1 af (st1.set (rx.1.toW e))
theorem p_new (ck : Ck N C Θ X W hot) {s : Stmt} {i : Nat} {a : E} (h : PS X s (tAsg (tE N C Θ X W a) (gName i))) : PS X s (tS N C Θ X W (.new i a)) := h.imp fun D σ H ⟨ρ, env, hp, B0, hB, st, hr, po⟩ => by
  simp only [ex] at po
  refine tE_bns ck.pm st hr po fun x hp1 v H1 af rx st1 hr1 po1 => ?_
  cases x with
  | d z => exact po1.elim
  | r j => exact po1.elim
  | u m =>
    obtain ⟨⟨p, rfl, hn, h0, h1, hm⟩, hf⟩ := rx
    have a2 : Aft N X.K X.mg Θ ρ hp (ρ ++ [p]) (hp1 ++ [m]) H H1 := ⟨⟨[p], rfl, fun b hb => by simp at hb; rw [hb]; exact h0⟩, af.kp, af.dom, fun j m' e1 e2 => by
      have := af.shut j m' e1 e2
      rw [List.getElem?_append_left (List.getElem?_eq_some_iff.mp this).1]; exact this, hf p rfl⟩
    exact po1 _ _ H1 a2 (StR.set (w := .r hp1.length) (st.mono ck.pm a2) ⟨p, by rw [← hr1.len]; simp, rfl⟩)
/-- name = e, e no comprehension -/
theorem s_set (ck : Ck N C Θ X W hot) {i : Nat} {x : Str} {e : Expr} {a : E} {pos' pos : Pos} (hi : X.N[i]? = some x) (hx : Loc X.env.scope x) (hf : X.fn x = true ∨ X.env.scope.names.lookup x = some .local) (hs : swapsWith e (some (.Name x pos')) pos.line X.env = pure false) (ha : PE X e (tE N C Θ X W a)) :
    PS X (.Assign [.Name x pos'] e pos) (tAsg (tE N C Θ X W a) (gName i)) := ps_set ck.nd hi hx ha hs hf
/-- name = [..] -/
theorem s_setLc (ck : Ck N C Θ X W false) {i : Nat} {y : Str} {py spos : Pos} {elt tg iter : Expr} {ifs : List Expr} {scope : Scope} {own : List (Str × Nat)} {pos : Pos} {el it cond : E} {tgt : Tg} (hy : X.N[i]? = some y) (hyl : X.env.scope.names.lookup y = some .local)
    (hsw : swapsWith (.ListComp elt [⟨tg, iter, ifs, 0⟩] scope pos) (some (.Name y py)) spos.line X.env = pure true) (hi : PI X tg iter (tI N C Θ X W it)) (ok : BlkOk X.N X.env.scope scope own) (htg : ∀ i ∈ tgt.sl, i ∈ own.map (·.2))
    (hg : ∀ (s : Shared) (H : Hp) (Ca : Addr) (cl : List (Str × Addr)) (fp : List Addr), PG (X.blk s H scope (compEnvC scope cl Ca X.env) fp) tg (tgG X.K tgt))
    (ht : ∀ (s : Shared) (H : Hp) (Ca : Addr) (cl : List (Str × Addr)) (fp : List Addr), PTs (X.blk s H scope (compEnvC scope cl Ca X.env) fp) ifs (tT N C Θ (X.blk s H scope (compEnvC scope cl Ca X.env) fp) W0 cond))
    (he : ∀ (s : Shared) (H : Hp) (Ca : Addr) (cl : List (Str × Addr)) (fp : List Addr), PE (X.blk s H scope (compEnvC scope cl Ca X.env) fp) elt (tE N C Θ (X.blk s H scope (compEnvC scope cl Ca X.env) fp) W0 el))
    (hs : ∀ x, foldedSetIterable iter X.env x = pure x) :
    PS X (.Assign [.Name y py] (.ListComp elt [⟨tg, iter, ifs, 0⟩] scope pos) spos) (tAsg (tE N C Θ X W (.comp (own.map (·.2)) el tgt it cond)) (gName i)) :=
  (ps_setLc (ck.calm rfl) ck.nd hy hyl hsw hi ok hg ht he hs).imp fun D σ H h => lc_of (Q := fun x H1 => gName i x σ H1 D.nx) ck htg h
/-- a, b = e -/
theorem p_unp (ck : Ck N C Θ X W hot) {tg e : Expr} {is : List Nat} {a : E} {pos : Pos} (ha : PE X e (tE N C Θ X W a)) (hg : PG X tg (tgG X.K (.many is))) (hs : swapsWithSole [tg] e pos.line X.env = pure false) (hw : swappedStores [tg] e X.env = pure none)
    (h1 : (assignEach [tg] X.env).map (·.2) = [assign tg X.env]) : PS X (.Assign [tg] e pos) (tS N C Θ X W (.unp is a)) := (ps_asg ha hg hs hw h1).imp fun D σ H ⟨ρ, env, hp, B0, hB, st, hr, po⟩ => by
  simp only [ex] at po
  refine tE_bns ck.pm st hr po fun x hp1 v H1 af rx st1 hr1 po1 => ?_
  cases e : x.rd hp1 with
  | none => rw [e] at po1; exact po1.elim
  | some d =>
    rw [e] at po1
    cases d with
    | tup ds =>
      simp only at po1
      cases e2 : bindTs is ds env with
      | none => rw [e2] at po1; exact po1.elim
      | some env' =>
        rw [e2] at po1
        have r : Rep N X.K X.mg H1 (InR ρ) (.tup ds) v := rx.1.rd hr1 e
        exact tgG_ok (vs := is) (σ0 := L2.wipe σ is) (tg := .many is) (d := .tup ds) (env' := env') e2 r st1 (fun i hi => hi) rfl fun σ' st2 _ => po1 ρ σ' H1 af st2
    | _ => exact po1.elim
/-- a, b = x, y -/
theorem p_par2 (ck : Ck N C Θ X W hot) {s : Stmt} {i j : Nat} {es : E} (hc : es.cnt = 2) (h : PS X s (tPar i j (tA N C Θ X W es))) : PS X s (tS N C Θ X W (.par [i, j] es)) := h.imp fun D σ H ⟨ρ, env, hp, B0, hB, st, hr, po⟩ => by
  simp only [ex] at po
  refine tA_bns ck.pm st hr po fun x hp1 v H1 af rx st1 hr1 po1 => ?_
  cases e : argsW x with
  | none => rw [e] at po1; exact po1.elim
  | some ws =>
    rw [e] at po1
    obtain ⟨rw1, lw⟩ := rx.toW e
    match ws, po1, rw1 with
    | [w1, w2], po1, rw1 =>
      obtain ⟨v1, r1, e1, q1, rw2⟩ := rw1
      obtain ⟨v2, r2, e2, q2, rw3⟩ := rw2
      have rw3 : r2 = [] := rw3
      subst e1 e2 rw3
      exact ⟨v1, v2, rfl, po1 ρ _ H1 af ((st1.set q1).set q2)⟩
    | [], po1, rw1 => exact po1.elim
    | [_], po1, rw1 => exact po1.elim
    | _ :: _ :: _ :: _, po1, rw1 => exact po1.elim
theorem p_par3 (ck : Ck N C Θ X W hot) {s : Stmt} {i j k : Nat} {es : E} (hc : es.cnt = 3) (h : PS X s (tPar3 i j k (tA N C Θ X W es))) : PS X s (tS N C Θ X W (.par [i, j, k] es)) := h.imp fun D σ H ⟨ρ, env, hp, B0, hB, st, hr, po⟩ => by
  simp only [ex] at po
  refine tA_bns ck.pm st hr po fun x hp1 v H1 af rx st1 hr1 po1 => ?_
  cases e : argsW x with
  | none => rw [e] at po1; exact po1.elim
  | some ws =>
    rw [e] at po1
    obtain ⟨rw1, lw⟩ := rx.toW e
    match ws, po1, rw1 with
    | [w1, w2, w3], po1, rw1 =>
      obtain ⟨v1, r1, e1, q1, rw2⟩ := rw1
      obtain ⟨v2, r2, e2, q2, rw3⟩ := rw2
      obtain ⟨v3, r3, e3, q3, rw4⟩ := rw3
      have rw4 : r3 = [] := rw4
      subst e1 e2 e3 rw4
      exact ⟨v1, v2, v3, rfl, po1 ρ _ H1 af (((st1.set q1).set q2).set q3)⟩
    | [], po1, rw1 => exact po1.elim
    | [_], po1, rw1 => exact po1.elim
    | [_, _], po1, rw1 => exact po1.elim
    | _ :: _ :: _ :: _ :: _, po1, rw1 => exact po1.elim
end
end Ev
set_option Elab.async false
set_option linter.all false
set_option maxRecDepth 100000
set_option maxHeartbeats 4000000
/-! Own work: things that are written, made; loops. -/
namespace Ev
open PySem PySem.Spec L2

section
variable {N : Nm} {K : PySem.W.Frag} {mg : Str → Option Value} {Θ : Pm} {ρ : List Addr} {hp : Hs} {H : Hp}
/-- a thing of the heap is written -/
theorem Aft.write (hr : HpR N K mg Θ ρ H hp) {j : Nat} {a : Addr} {m m' : MO} {o : HO} (ea : ρ[j]? = some a) (em : hp[j]? = some m) (hs : m.shut = false) {o0 : HO} (hw0 : H a = some o0) (hw : Wr o0) (hw2 : Wr o) (hm : MoR N K mg Θ ρ (L2.upd H a o) a m') : Aft N K mg Θ ρ hp ρ (hp.set j m') H (L2.upd H a o) := by
  have hin : a ∈ ρ := List.mem_of_getElem? ea
  refine ⟨⟨[], by simp, fun _ z => by cases z⟩, fun b u e h hn => ?_, fun b e => ?_, fun i mo e1 e2 => ?_, by rw [List.length_set]; exact hr.len, hr.nd, tabs_wr hr.tb hw0 hw, fun i b mo e1 e2 => ?_⟩
  · by_cases hb : b = a
    · subst hb
      obtain ⟨m1, e3, e4⟩ := h j ea
      rw [em] at e3
      cases e3
      rw [hs] at e4
      cases e4
    · rw [upd_ne hb]; exact e
  · by_cases hb : b = a
    · subst hb; exact (Fs.no e upd_same hw2.nt).elim
    · unfold Fs at e ⊢; rw [upd_ne hb] at e; exact e
  · have hij : j ≠ i := fun z => by subst z; rw [em] at e1; cases e1; rw [hs] at e2; cases e2
    rw [List.getElem?_set_ne hij]; exact e1
  · by_cases hij : j = i
    · subst hij
      rw [ea] at e1
      cases e1
      rw [List.getElem?_set_self (List.getElem?_eq_some_iff.mp em).1] at e2
      cases e2
      exact ⟨⟨o, upd_same, hw2⟩, hm⟩
    · rw [List.getElem?_set_ne hij] at e2
      obtain ⟨q1, q2⟩ := hr.at_ i b mo e1 e2
      have z : b ≠ a := fun z => by subst z; exact hij (nod_ix hr.nd ea e1)
      obtain ⟨o1, q1, w1⟩ := q1
      refine ⟨⟨o1, by rw [upd_ne z]; exact q1, w1⟩, ?_⟩
      have k : Kp H (L2.upd H a o) (InR ρ) := fun x u e n _ => by rw [upd_ne (fun y => n (by subst y; exact hin))]; exact e
      cases mo with
      | lst ds => obtain ⟨xs, e, l, r⟩ := q2; exact ⟨xs, by rw [upd_ne z]; exact e, l, RepL.mono k gr_same ds xs r⟩
      | lk ds => obtain ⟨xs, e, l, r⟩ := q2; exact ⟨xs, by rw [upd_ne z]; exact e, l, RepL.mono k gr_same ds xs r⟩
      | dct ks vs =>
        rcases q2 with ⟨kvs, e, l, r⟩ | ⟨kvs, e, l, r⟩
        · exact .inl ⟨kvs, by rw [upd_ne z]; exact e, l, RepL.mono k gr_same vs _ r⟩
        · exact .inr ⟨kvs, by rw [upd_ne z]; exact e, l, RepL.mono k gr_same vs _ r⟩
      | ins c ds => obtain ⟨C, dx, xs, m1, e, l, r⟩ := q2; exact ⟨C, dx, xs, m1, by rw [upd_ne z]; exact e, l, RepL.mono k gr_same ds xs r⟩
      | dead => trivial
      | bn => trivial
theorem kp_in {a : Addr} {o : HO} (h : a ∈ ρ) : Kp H (L2.upd H a o) (InR ρ) := fun x u e n _ => by rw [upd_ne (fun y => n (by subst y; exact h))]; exact e
theorem RepL.setV {B : Addr → Prop} : ∀ {ds : List D} {xs : List V} {i : Nat} {d : D} {v : V}, RepL N K mg H B ds xs → Rep N K mg H B d v → RepL N K mg H B (ds.set i d) (xs.set i v)
  | [], xs, i, d, v, h, r => by unfold RepL at h; subst h; exact (by unfold RepL; rfl)
  | e :: ds, xs, i, d, v, h, r => by
    obtain ⟨u, us, rfl, h1, h2⟩ := RepL.cons_iff.mp h
    cases i with
    | zero => exact RepL.cons_iff.mpr ⟨v, us, rfl, r, h2⟩
    | succ i => exact RepL.cons_iff.mpr ⟨u, us.set i v, rfl, h1, RepL.setV h2 r⟩
end
section
variable {N : Nm} {C : Cl} {Θ : Pm} {X : Cx} {W : WX} {hot : Bool}
/-- l.append(e), l a local -/
theorem s_app (ck : Ck N C Θ X W hot) {i : Nat} {x : Str} {e : Expr} {a : E} {p apos pos : Pos} (hi : X.N[i]? = some x) (hv : Vis X.env.scope x) (h1 : (x == ("__debug__" : Str)) = false) (h2 : (x == ("__classdict__" : Str)) = false) (hs : ∀ a q, e ≠ .Starred a q)
    (hl : (apos.endLine == pos.line) = true) (hfew : ((backTo pos (starEach [e] X.env)).all (fun x => !x.1) && (backToKw pos (keywordEach [] X.env)).all (fun x => x.1.isSome)
      && decide ([e].length + ([] : List Keyword).length + (if ([] : List Keyword).isEmpty then 0 else 1) < 30)) = true)
    (ha : PE X e (tE N C Θ X W a)) : PE X (.Call (.Attribute (.Name x p) "append" apos) [e] [] pos) (tE N C Θ X W (.app i a)) := by
  refine (pe_bm (r := rAppend) F.plainAttrs_list F.slot_list_append F.type_list_append mt_append (pe_var (pos := p) hi hv h1 h2) (a_one ck hs ha) rfl hfew hl (star_one hs _) rfl).imp fun σ H Q ⟨ρ, env, hp, st, hr, po⟩ => ?_
  simp only [ev] at po
  split at po
  · rename_i j ej
    split at po
    · rename_i zs e0
      obtain ⟨v, e1, b, e2, rfl⟩ := st.2 i _ ej
      obtain ⟨_, xs, hx, lx, rx⟩ := hr.at_ j b _ e2 e0
      refine ⟨_, e1, .inl ⟨rfl, xs, .of hx⟩, ?_⟩
      refine tE_bnd ck.pm st hr po fun y1 hp2 w H2 af2 ry st2 hr2 po2 => ?_
      split at po2
      · rename_i d ys ed ey
        obtain ⟨hc, po2⟩ : ys.length < sizeLine ∧ _ := by
          by_cases hc : ys.length < sizeLine
          · rw [if_pos hc] at po2; exact ⟨hc, po2⟩
          · rw [if_neg hc] at po2; exact po2.elim
        obtain ⟨_, xs2, hx2, lx2, rx2⟩ := hr2.at_ j b _ e2 ey
        have rd := ry.toD ed
        refine ⟨b, xs2, w, rfl, rfl, hx2, by rw [← rx2.len]; exact hc, po2 .non _ (.write hr2 e2 ey rfl hx2 trivial trivial ?_) rx_non⟩
        refine ⟨_, upd_same, ?_, RepL.mono (kp_in (List.mem_of_getElem? e2)) gr_same _ _ (rx2.append (.one rd))⟩
        rw [List.length_append, List.length_singleton, ← rx2.len]
        omega
      · exact po2.elim
    · exact po.elim
  · exact po.elim
/-- l[k] = e, l a local -/
theorem p_setx (ck : Ck N C Θ X W hot) {i : Nat} {x : Str} {k e : Expr} {ak ae : E} {p tpos pos : Pos} (hi : X.N[i]? = some x) (hv : Vis X.env.scope x) (h1 : (x == ("__debug__" : Str)) = false) (h2 : (x == ("__classdict__" : Str)) = false)
    (hk : PE X k (tE N C Θ X W ak)) (he : PE X e (tE N C Θ X W ae)) (hs : swapsWithSole [.Subscript (.Name x p) k tpos] e pos.line X.env = pure false) (hw : swappedStores [.Subscript (.Name x p) k tpos] e X.env = pure none)
    (hh : ∀ v, assign (.Subscript (.Name x p) k tpos) X.env v = (do
      let ov ← holding [v] (eval (.Name x p) X.env)
      let iv ← holding [v, ov] (eval k X.env)
      standAt tpos
      holding [v, ov, iv] (setItem ov iv v)
      release [v, ov, iv] []))
    (h3 : (assignEach [.Subscript (.Name x p) k tpos] X.env).map (·.2) = [assign (.Subscript (.Name x p) k tpos) X.env]) :
    PS X (.Assign [.Subscript (.Name x p) k tpos] e pos) (tS N C Θ X W (.setx i ak ae)) := by
  refine (ps_asg he (pg_sub (pe_var (pos := p) hi hv h1 h2) hk set_list hh) hs hw h3).imp fun D σ H ⟨ρ, env, hp, B0, hB, st, hr, po⟩ => ?_
  simp only [ex] at po
  refine tE_bns ck.pm st hr po fun y hp1 v H1 af ry st1 hr1 po1 => ?_
  split at po1
  · rename_i j ej
    obtain ⟨u, e1, b, e2, rfl⟩ := st1.2 i _ ej
    refine ⟨_, e1, ?_⟩
    refine tE_bns ck.pm st1 hr1 (po1.next af) fun z hp2 w H2 af2 rz st2 hr2 po2 => ?_
    split at po2
    · rename_i d n ys ed ez ey
      split at po2
      · rename_i m em
        have hz := repR_int (rz.1.rd hr2 ez)
        subst hz
        obtain ⟨_, xs, hx, lx, rx⟩ := hr2.at_ j b _ e2 ey
        have rd : Rep N X.K X.mg H2 (InR ρ) d v := Rep.mono af2.kpB af2.gr _ _ (ry.1.toD ed)
        have aw : Aft N X.K X.mg Θ ρ hp2 ρ (hp2.set j (.lst (ys.set m d))) H2 (upd H2 b (.lst (xs.set m v))) := .write hr2 e2 ey rfl hx trivial trivial ⟨_, upd_same, by rw [List.length_set]; exact lx, RepL.mono (kp_in (List.mem_of_getElem? e2)) gr_same _ _ (RepL.setV rx rd)⟩
        exact ⟨b, xs, n, m, rfl, rfl, hx, by rw [← rx.len]; exact em, po2 ρ σ _ (af2.trans aw) (st2.mono ck.pm aw)⟩
      · exact po2.elim
    · exact po2.elim
  · exact po1.elim
/-- self.f = e, self a local -/
theorem zip_put {f : Str} {v : V} : ∀ {fd : List Str} {xs : List V}, fd[xs.length]? = some f → fd.Nodup → putF f v (fd.zip xs) = fd.zip (xs ++ [v])
  | [], xs, h, _ => by simp at h
  | g :: fd, [], h, _ => by
    simp at h
    subst h
    simp [putF]
  | g :: fd, x :: xs, h, hn => by
    obtain ⟨n1, n2⟩ := List.nodup_cons.mp hn
    have h' : fd[xs.length]? = some f := by simpa using h
    have hne : g ≠ f := fun z => by subst z; exact n1 (List.mem_of_getElem? h')
    show putF f v ((g, x) :: fd.zip xs) = (g, x) :: fd.zip (xs ++ [v])
    unfold putF
    rw [if_neg hne, zip_put h' n2]
theorem p_setf (ck : Ck N C Θ X W hot) {i c f : Nat} {x fn : Str} {e : Expr} {ae : E} {p pos' pos : Pos} (hi : X.N[i]? = some x) (hv : Vis X.env.scope x) (h1 : (x == ("__debug__" : Str)) = false) (h2 : (x == ("__classdict__" : Str)) = false)
    (hc : N.kc c = true) (hf : (N.fd c)[f]? = some fn) (hle : (N.fd c).length < 1000) (he : PE X e (tE N C Θ X W ae)) (hs : swapsWith e (some (.Attribute (.Name x p) fn pos')) pos.line X.env = pure false) :
    PS X (.Assign [.Attribute (.Name x p) fn pos'] e pos) (tS N C Θ X W (.setf i c f ae)) := by
  refine (ps_fld (pe_var (pos := p) hi hv h1 h2) he hs).imp fun D σ H ⟨ρ, env, hp, B0, hB, st, hr, po⟩ => ?_
  simp only [ex] at po
  refine tE_bns ck.pm st hr po fun y hp1 v H1 af ry st1 hr1 po1 => ?_
  split at po1
  · rename_i j ej
    obtain ⟨u, e1, b, e2, rfl⟩ := st1.2 i _ ej
    refine ⟨_, e1, ?_⟩
    split at po1
    · rename_i d c' ws ed ey
      split at po1
      · rename_i hcc
        obtain ⟨hl, rfl⟩ := hcc
        obtain ⟨_, Ca, dx, xs, m1, hx, lx, rx⟩ := hr1.at_ j b _ e2 ey
        have rd := ry.1.toD ed
        have hlx : xs.length = f := by rw [← rx.len]; exact hl
        obtain ⟨Cb, m2, io⟩ := ck.insOk c' hc
        rw [m1] at m2
        cases m2
        obtain ⟨nd, na⟩ := ck.insFd c' hc
        have hzl : ((N.fd c').zip xs).length < 1000 := by rw [List.length_zip]; omega
        refine ⟨b, Ca, dx, _, rfl, hx, io.cl, na fn (List.mem_of_getElem? hf) Ca m1, hzl, ?_⟩
        rw [zip_put (by rw [hlx]; exact hf) nd]
        have aw : Aft N X.K X.mg Θ ρ hp1 ρ (hp1.set j (.ins c' (ws ++ [d]))) H1 (upd H1 b (.ins Ca dx ((N.fd c').zip (xs ++ [v])))) := .write hr1 e2 ey rfl hx trivial trivial ⟨Ca, dx, xs ++ [v], m1, upd_same, by
          rw [List.length_append, List.length_singleton, hlx]
          exact (List.getElem?_eq_some_iff.mp hf).1, RepL.mono (kp_in (List.mem_of_getElem? e2)) gr_same _ _ (rx.append (.one rd))⟩
        exact po1 ρ σ _ (af.trans aw) (st1.mono ck.pm aw)
      · exact po1.elim
    · exact po1.elim
  · exact po1.elim
end
end Ev
set_option Elab.async false
set_option linter.all false
set_option maxRecDepth 100000
set_option maxHeartbeats 4000000
/-! Own work: loops. -/
namespace Ev
open PySem PySem.Spec L2

section
variable {N : Nm} {K : PySem.W.Frag} {mg : Str → Option Value} {Θ : Pm} {ρ ρ' : List Addr} {hp hp2 : Hs} {H H2 B0 : Hp}
theorem RXF.reopen (x : Ev.X) (a : Aft N K mg Θ ρ (Ev.shut x hp) ρ' hp2 H H2) {y : Ev.X} {v : V} (r : RXF N K mg Θ ρ' H2 hp2 B0 y v) : RXF N K mg Θ ρ' H2 (Ev.reopen x hp hp2) B0 y v := by
  refine ⟨r.1, ?_⟩
  cases y with
  | d z => trivial
  | r j => trivial
  | u m =>
    intro b eb
    have q := r.2 b eb
    unfold Ev.shut at a
    unfold Ev.reopen
    cases x with
    | d z => exact q
    | u m => exact q
    | r j =>
      simp only at a ⊢
      split
      · rename_i xs e
        rw [e] at a
        simp only at a
        have hj : j < hp.length := (List.getElem?_eq_some_iff.mp e).1
        have e3 : hp2[j]? = some (.lk xs) := a.shut j (.lk xs) (List.getElem?_set_self hj) rfl
        have hj2 : j < hp2.length := (List.getElem?_eq_some_iff.mp e3).1
        have q2 := q.set (j := j) (m := .lk xs) (m' := .lst xs) (by rw [List.getElem?_append_left hj2]; exact e3) fun a _ h => h
        rw [List.set_append_left _ _ hj2] at q2
        exact q2
      · exact q
end
section
variable {N : Nm} {C : Cl} {Θ : Pm} {X : Cx} {W : WX} {hot : Bool}
theorem unbrk_d {r : RS} {h0 : Hs} : unbrk [] (.d .non) h0 r = (match r with | some (.nx env, h) => some (.nx env, h) | some (.brk env, h) => some (.nx env, h) | some (f, h) => some (f, h) | none => none) := by
  unfold unbrk
  match r with
  | none => rfl
  | some (.nx env, h) => rfl
  | some (.brk env, h) => rfl
  | some (.cont env, h) => rfl
  | some (.ret x, h) => rfl
  | some (.err c v env, h) => rfl
theorem p_whl (ck : Ck N C Θ X W hot) (hpo : PassesOwn (model X.prog X.w) X.A X.env X.xe) {c : Expr} {body : List Stmt} {n : Nat} {t : E} {b : S} {pos : Pos} (hc : PT X c (tT N C Θ X W t)) (hb : PSs X body (tS N C Θ X W b)) : PS X (.While c body [] pos) (tS N C Θ X W (.whl n t b)) := by
  refine (ps_while hpo hc hb).imp fun D σ H ⟨ρ, env, hp, B0, hB, st, hr, po⟩ => ?_
  simp only [ex] at po
  generalize ef : (fun (env : Env) (h : Hs) => bnd (ev C t env h) fun x h => lift (toB x) h) = ft at po
  generalize eg : (fun (env : Env) (h : Hs) => ex C b env h) = fb at po
  refine ⟨fun m σ H => ∃ ρ env hp, (∀ x, Fs H x → Fs B0 x) ∧ StR N X.K X.mg Θ ρ H env σ ∧ HpR N X.K X.mg Θ ρ H hp ∧ PostS N X.K X.mg Θ W B0 ρ hp H (unbrk [] (.d .non) hp (whlL ft fb m env hp)) D, ⟨n, ρ, env, hp, hB, st, hr, po⟩, ?_⟩
  rintro m σ H ⟨ρ, env, hp, hB, st, hr, po⟩
  cases m with
  | zero => exact po.elim
  | succ m =>
    unfold whlL at po
    refine ⟨ρ, env, hp, st, hr, ?_⟩
    rw [show (bnd (ev C t env hp) fun x h => lift (toB x) h) = ft env hp by rw [← ef]]
    match e : ft env hp, po with
    | none, po => exact po.elim
    | some (.err c v, h1), po => exact fun Ca d H' e af er => po ρ σ Ca d H' e af (st.mono ck.pm af) er
    | some (.ok false, h1), po =>
      intro k H1 af rk
      have rk : false = k := rk
      subst rk
      simp only [Bool.false_eq_true, if_false]
      exact po ρ σ H1 af (st.mono ck.pm af)
    | some (.ok true, h1), po =>
      intro k H1 af rk
      have rk : true = k := rk
      subst rk
      simp only [if_true]
      have hB1 : ∀ x, Fs H1 x → Fs B0 x := fun x hx => hB x (af.dom x hx)
      refine ⟨fun σ' H' => ∃ ρ env hp, (∀ x, Fs H' x → Fs B0 x) ∧ StR N X.K X.mg Θ ρ H' env σ' ∧ HpR N X.K X.mg Θ ρ H' hp ∧ PostS N X.K X.mg Θ W B0 ρ hp H' (unbrk [] (.d .non) hp (whlL ft fb m env hp)) D, fun σ' H' q => ⟨m, Nat.lt_succ_self _, q⟩, ρ, env, h1, B0, hB1, st.mono ck.pm af, af.hpr, ?_⟩
      have po1 := PostS.next po af
      simp only [unbrk_d] at po1 ⊢
      rw [show ex C b env h1 = fb env h1 by rw [← eg]]
      match e2 : fb env h1, po1 with
      | none, po1 => exact po1.elim
      | some (.nx env', h'), po1 => exact fun ρ' σ' H' af2 st2 => ⟨ρ', env', h', fun x hx => hB1 x (af2.dom x hx), st2, af2.hpr, PostS.next po1 af2⟩
      | some (.cont env', h'), po1 => exact fun ρ' σ' H' af2 st2 => ⟨ρ', env', h', fun x hx => hB1 x (af2.dom x hx), st2, af2.hpr, PostS.next po1 af2⟩
      | some (.brk env', h'), po1 => exact po1
      | some (.ret x, h'), po1 => exact po1
      | some (.err c v env', h'), po1 => exact po1
theorem p_for (ck : Ck N C Θ X W false) (hpo : PassesOwn (model X.prog X.w) X.A X.env X.xe) {tg iter : Expr} {body : List Stmt} {it : E} {b : S} {tgt : Tg} {dead : List Nat} {pos : Pos} (hi : PI X tg iter (tI N C Θ X W it)) (hg : PG X tg (tgG X.K tgt)) (hb : PSs X body (tS N C Θ X W b)) (hs : ∀ x, foldedSetIterable iter X.env x = pure x) :
    PS X (.For tg iter body [] pos) (tS N C Θ X W (.for tgt it b dead)) := by
  refine (ps_for hpo (ck.calm rfl) hi hg hb hs).imp fun D σ H ⟨ρ, env, hp, B0, hB, st, hr, po⟩ => ?_
  simp only [ex] at po
  generalize ef : (fun (d : Ev.D) (env : Env) (h : Hs) => match bindT tgt d env with | some env' => ex C b env' h | none => none) = f at po
  refine ⟨ρ, env, hp, st, hr, (PostS.bns (L := RlI N X.K X.mg Θ ρ) ck.pm st po).imp fun J H1 ⟨p, hp1, af, rl, po1⟩ => ?_⟩
  have st1 := st.mono ck.pm af
  have hr1 := af.hpr
  have hB1 : ∀ x, Fs H1 x → Fs B0 x := fun x hx => hB x (af.dom x hx)
  obtain ⟨hle, G, Y, wk, hst⟩ := rl
  have sh := aft_shut p.1 hr1
  have po1 := PostS.next po1 af
  have base : Aft N X.K X.mg Θ ρ (Ev.shut p.1 hp1) ρ (Ev.shut p.1 hp1) H1 H1 := .refl sh.hpr
  refine for_it wk (fun i σ Hc => ∃ ρ' env' hp', Aft N X.K X.mg Θ ρ (Ev.shut p.1 hp1) ρ' hp' H1 Hc ∧ StR N X.K X.mg Θ ρ' Hc env' σ ∧ PostS N X.K X.mg Θ W B0 ρ hp1 H1 (unbrk dead p.1 hp1 (forL f dead (p.2.drop i) env' hp')) D)
    ⟨ρ, wipeE env dead, Ev.shut p.1 hp1, base, (st1.less dead), po1⟩ (fun i σ Hc hi ⟨ρ', env', hp', a, _⟩ => (hst _ _ _ a).1) (fun i x σ Hc Hc' hi ⟨ρ', env', hp', a, st', q⟩ hy => ?_) fun σ Hc ⟨ρ', env', hp', a, st', q⟩ => ?_
  · obtain ⟨d, e1, a1, rd⟩ := (hst _ _ _ a).2 i x Hc' hi hy
    have ed : p.2.drop i = d :: p.2.drop (i + 1) := by
      obtain ⟨hl, e2⟩ := List.getElem?_eq_some_iff.mp e1
      rw [← e2]
      exact List.drop_eq_getElem_cons hl
    rw [ed] at q
    unfold forL at q
    have a2 := a.trans a1
    have st2 := st'.mono ck.pm a1
    cases eb : bindT tgt d env' with
    | none =>
      rw [show f d env' hp' = none by rw [← ef]; simp only [eb]] at q
      exact q.elim
    | some env2 =>
      rw [show f d env' hp' = ex C b env2 hp' by rw [← ef]; simp only [eb]] at q
      refine tgG_ok (vs := tgt.sl) (σ0 := L2.wipe σ tgt.sl) eb rd st2 (fun i hi => hi) rfl fun σ2 st3 _ => ⟨ρ', env2, hp', B0, fun x hx => hB1 x (a2.dom x hx), st3, a2.hpr, ?_⟩
      match e2 : ex C b env2 hp', q with
      | none, q => exact q.elim
      | some (.nx env3, h3), q => exact fun ρ3 σ3 H3 a3 st4 => ⟨ρ3, wipeE env3 dead, h3, a2.trans a3, st4.less dead, q⟩
      | some (.cont env3, h3), q => exact fun ρ3 σ3 H3 a3 st4 => ⟨ρ3, wipeE env3 dead, h3, a2.trans a3, st4.less dead, q⟩
      | some (.brk env3, h3), q => exact fun ρ3 σ3 H3 a3 st4 => q ρ3 σ3 H3 ((a2.trans a3).reopen p.1) (st4.less dead)
      | some (.ret y, h3), q => exact fun ρ3 v H3 a3 ry => q ρ3 v H3 ((a2.trans a3).reopen p.1) (RXF.reopen p.1 (a2.trans a3) ry)
      | some (.err c v env3, h3), q => exact fun ρ3 σ3 Ca d H3 e a3 st4 er => q ρ3 σ3 Ca d H3 e ((a2.trans a3).reopen p.1) st4 er
  · rw [List.drop_length] at q
    exact q ρ' σ Hc (a.reopen p.1) (st'.less dead)
end
end Ev
set_option Elab.async false
set_option linter.all false
set_option maxRecDepth 100000
set_option maxHeartbeats 4000000
/-! Own work: defs. -/
namespace Ev
open PySem PySem.Spec L2

section
variable {N : Nm} {K : PySem.W.Frag} {mg : Str → Option Value} {Θ : Pm} {ρ ρ' : List Addr} {hp hp' : Hs} {H H' : Hp}
theorem RWs.len : ∀ {ws : List W} {vs : List V}, RWs N K mg Θ ρ H ws vs → ws.length = vs.length
  | [], vs, h => by have h : vs = [] := h; subst h; rfl
  | w :: ws, vs, h => by
    obtain ⟨v, r, rfl, _, h2⟩ := h
    exact congrArg (· + 1) (RWs.len h2)
theorem RWs.get : ∀ {ws : List W} {vs : List V} {i : Nat} {w : W}, RWs N K mg Θ ρ H ws vs → ws[i]? = some w → ∃ v, vs[i]? = some v ∧ RW N K mg Θ ρ H w v
  | [], vs, i, w, h, e => by simp at e
  | w :: ws, vs, i, w', h, e => by
    obtain ⟨v, r, rfl, h1, h2⟩ := h
    cases i with
    | zero => simp at e; subst e; exact ⟨v, rfl, h1⟩
    | succ i =>
      simp at e
      obtain ⟨u, q1, q2⟩ := RWs.get h2 e
      exact ⟨u, by simpa using q1, q2⟩
theorem StR.start {Nn : List Str} {ws : List W} {vs : List V} (h : RWs N K mg Θ ρ H ws vs) : StR N K mg Θ ρ H (startE Nn.length ws) (L2.start Nn vs) := by
  have hl := h.len
  refine ⟨by unfold startE L2.start; simp [hl], fun i w e => ?_⟩
  unfold startE at e
  unfold L2.start
  by_cases hi : i < ws.length
  · rw [List.getElem?_append_left (by simpa using hi), List.getElem?_map] at e
    obtain ⟨w', e1, e2⟩ := Option.map_eq_some_iff.mp e
    cases e2
    obtain ⟨v, q1, q2⟩ := h.get e1
    refine ⟨v, ?_, q2⟩
    rw [List.getElem?_append_left (by rw [List.length_map, ← hl]; exact hi), List.getElem?_map, q1]
    rfl
  · rw [List.getElem?_append_right (by simpa using Nat.le_of_not_lt hi)] at e
    rw [List.getElem?_replicate] at e
    split at e <;> cases e
theorem gr_sub {B B' : Addr → Prop} (h : ∀ a, B' a → B a) : Gr H B B' := fun a h1 n => absurd (h a h1) n
theorem MoR.sub {a : Addr} {m : MO} (hs : ∀ x, x ∈ ρ → x ∈ ρ') (h : MoR N K mg Θ ρ' H a m) : MoR N K mg Θ ρ H a m := by
  cases m with
  | lst ds => obtain ⟨xs, e, l, r⟩ := h; exact ⟨xs, e, l, RepL.mono kp_refl (gr_sub hs) ds xs r⟩
  | lk ds => obtain ⟨xs, e, l, r⟩ := h; exact ⟨xs, e, l, RepL.mono kp_refl (gr_sub hs) ds xs r⟩
  | dct ks vs =>
    rcases h with ⟨kvs, e, l, r⟩ | ⟨kvs, e, l, r⟩
    · exact .inl ⟨kvs, e, l, RepL.mono kp_refl (gr_sub hs) vs _ r⟩
    · exact .inr ⟨kvs, e, l, RepL.mono kp_refl (gr_sub hs) vs _ r⟩
  | ins c ds => obtain ⟨C, dx, xs, m1, e, l, r⟩ := h; exact ⟨C, dx, xs, m1, e, l, RepL.mono kp_refl (gr_sub hs) ds xs r⟩
  | dead => trivial
  | bn => trivial
/-- the things of ρ, and one more -/
theorem HpR.pick {ex : List Addr} {a : Addr} {m : MO} (q : HpR N K mg Θ (ρ ++ ex) H hp) (ha : a ∈ ex) (n0 : ∃ o, H a = some o ∧ Wr o) (hm : MoR N K mg Θ (ρ ++ ex) H a m) : HpR N K mg Θ (ρ ++ [a]) H (hp.take ρ.length ++ [m]) := by
  have hl := q.len
  rw [List.length_append] at hl
  have sub : ∀ x, x ∈ ρ ++ [a] → x ∈ ρ ++ ex := fun x hx => by
    rcases List.mem_append.mp hx with z | z
    · exact List.mem_append_left _ z
    · simp at z; subst z; exact List.mem_append_right _ ha
  have hnd := List.nodup_append.mp q.nd
  have htl : (hp.take ρ.length).length = ρ.length := by rw [List.length_take]; omega
  refine ⟨by rw [List.length_append, List.length_append, htl]; rfl, ?_, q.tb, fun j b mo e1 e2 => ?_⟩
  · rw [List.nodup_append]
    refine ⟨hnd.1, by simp, fun x hx y hy => ?_⟩
    simp at hy
    subst hy
    exact hnd.2.2 x hx y ha
  · by_cases hj : j < ρ.length
    · rw [List.getElem?_append_left hj] at e1
      rw [List.getElem?_append_left (by omega), List.getElem?_take_of_lt hj] at e2
      obtain ⟨h1, h2⟩ := q.at_ j b mo (by rw [List.getElem?_append_left hj]; exact e1) e2
      exact ⟨h1, h2.sub sub⟩
    · have hlj : j < (ρ ++ [a]).length := (List.getElem?_eq_some_iff.mp e1).1
      rw [List.length_append] at hlj
      have ej : j = ρ.length := by simp at hlj; omega
      subst ej
      rw [List.getElem?_append_right (Nat.le_refl _)] at e1
      rw [List.getElem?_append_right (by omega), htl] at e2
      simp at e1 e2
      subst e1 e2
      exact ⟨n0, hm.sub sub⟩
/-- a def's result, cut back -/
theorem fin_ok {x : Ev.X} {v : V} {r : Out Ev.X} {h2 : Hs} (hr : HpR N K mg Θ ρ H hp) (a : Aft N K mg Θ ρ hp ρ' hp' H H') (rx : RXF N K mg Θ ρ' H' hp' H x v) (e : fin hp.length x hp' = some (r, h2)) : ∃ y, r = .ok y ∧ Aft N K mg Θ ρ hp ρ h2 H H' ∧ RXF N K mg Θ ρ H' h2 H y v := by
  have ac := Aft.cut hr a
  have hn := hr.len
  obtain ⟨ex, rfl, hex⟩ := a.pre
  have hnd := List.nodup_append.mp a.hpr.nd
  cases x with
  | d d =>
    cases e
    rw [← hn]
    exact ⟨_, rfl, ac, Rep.mono kp_refl gr_less d v rx.1, trivial⟩
  | r j =>
    obtain ⟨⟨b, e1, rfl⟩, _⟩ := rx
    unfold fin at e
    simp only at e
    by_cases hj : j < hp.length
    · rw [if_pos hj] at e
      cases e
      rw [← hn] at hj ⊢
      rw [List.getElem?_append_left hj] at e1
      exact ⟨_, rfl, ac, ⟨b, e1, rfl⟩, trivial⟩
    · rw [if_neg hj] at e
      rw [← hn] at hj
      rw [List.getElem?_append_right (by omega)] at e1
      have hbe := List.mem_of_getElem? e1
      cases em : hp'[j]? with
      | none => rw [em] at e; cases e
      | some m =>
        rw [em] at e
        cases e
        obtain ⟨h1, h3⟩ := a.hpr.at_ j b m (by rw [List.getElem?_append_right (by omega)]; exact e1) em
        rw [← hn]
        refine ⟨_, rfl, ac, ⟨b, rfl, fun hb => hnd.2.2 b hb b hbe rfl, hex b hbe, h1, h3.less⟩, fun c ec => ?_⟩
        cases ec
        exact a.hpr.pick hbe h1 h3
  | u m =>
    cases e
    obtain ⟨⟨b, rfl, nb, h0, h1, hm⟩, hf⟩ := rx
    rw [← hn]
    refine ⟨_, rfl, ac, ⟨b, rfl, fun hb => nb (List.mem_append_left _ hb), h0, h1, hm.less⟩, fun c ec => ?_⟩
    cases ec
    have q := hf b rfl
    have q2 : HpR N K mg Θ (ρ ++ (ex ++ [b])) H' (hp' ++ [m]) := by rw [← List.append_assoc]; exact q
    have e4 : (hp' ++ [m]).take ρ.length = hp'.take ρ.length := by
      have := a.hpr.len
      rw [List.length_append] at this
      rw [List.take_append_of_le_length (by omega)]
    have q3 := q2.pick (a := b) (m := m) (by simp) h1 (by
      have q4 := (q.at_ (ρ ++ ex).length b m (by simp) (by rw [List.getElem?_append_right (by rw [a.hpr.len]; exact Nat.le_refl _), a.hpr.len]; simp)).2
      rw [List.append_assoc] at q4
      exact q4)
    rw [e4] at q3
    exact q3
theorem ErrR.less {ex : List Addr} {c : Nat} {vs : List Ev.D} {d : Option Addr} (h : ErrR N K mg (ρ ++ ex) H c vs d) : ErrR N K mg ρ H c vs d := by
  refine ⟨h.1, ?_⟩
  have h := h.2
  split at h
  · exact h
  · obtain ⟨dd, v, e1, e2, n, r⟩ := h
    exact ⟨dd, v, e1, e2, fun z => n (List.mem_append_left _ z), Rep.mono kp_refl gr_less _ v r⟩
  · exact h.elim
end
/-- the ground: what the module's facts say; calls of level k -/
structure Gd (N : Nm) (C : Cl) (P : Program) (w : World) (K : PySem.W.Frag) (mg : Str → Option Value) (base : Heap) : Prop where
  bi : ∀ x ∈ biNames, mg x = none
  gl : ∀ g d, C.gl g = some d → ∃ u v, mg (N.gl g) = some u ∧ RelV v u ∧ ∀ H B, Rep N K mg H B d v
  fnv : ∀ f, C.kf f = true → ∃ a, mg (N.fn f) = some (.ref a)
  insOk : ∀ c, N.kc c = true → ∃ Ca, mg (N.cl c) = some (.ref Ca) ∧ InsOk K Ca
  insFd : ∀ c, N.kc c = true → (N.fd c).Nodup ∧ ∀ f ∈ N.fd c, ∀ Ca, mg (N.cl c) = some (.ref Ca) → NoAttr K Ca f
  insNf : ∀ c f i, C.nf c f = some i → N.kc c = true ∧ ∃ x, (N.fd c)[i]? = some x ∧ x = N.fl f
  kitB : ∀ t ∈ tyNames, ∀ c Ca, mg (N.cl c) = some (.ref Ca) → N.kt c = true → PySem.W.kitOne K (.type t) (.ref Ca) = some false
  kitI : ∀ c, N.kc c = true → ∀ Ca, mg (N.cl c) = some (.ref Ca) → ∀ t ∈ tyNames, PySem.W.kitOne K (.ref Ca) (.type t) = some false
  kitO : ∀ c c', N.kc c = true → N.kt c' = true → ∀ Ca Cb, mg (N.cl c) = some (.ref Ca) → mg (N.cl c') = some (.ref Cb) → PySem.W.kitOne K (.ref Ca) (.ref Cb) = some (C.sub c c')
  kcC : ∀ c, C.kc c = true → N.kc c = true
  clv : ∀ c, N.kt c = true → ∃ a, mg (N.cl c) = some (.ref a)
  xs : ExF N C K mg
  exm : ∀ c c', N.ke c = true → N.kx c' = true → ∀ Ca Cb, mg (N.cl c) = some (.ref Ca) → mg (N.cl c') = some (.ref Cb) → PySem.W.exmOne K (.ref Ca) (.ref Cb) = some (C.sub c c')
structure CallG (N : Nm) (C : Cl) (P : Program) (w : World) (K : PySem.W.Frag) (mg : Str → Option Value) (base : Heap) (k f : Nat) : Prop where
  ex : ∃ (a : Addr) (fd : FuncData) (ps : List Str), mg (N.fn f) = some (.ref a) ∧ PySem.W.keepIn K (.ref a) = true ∧ Binds K fd ps [] ∧
    FnOk P w K mg base (L2.CX P w) k a fd ps (spOf N K mg (N.ar f) (C.G f))
structure MkG (N : Nm) (C : Cl) (P : Program) (w : World) (K : PySem.W.Frag) (mg : Str → Option Value) (base : Heap) (k c : Nat) : Prop where
  ex : ∃ (Ca a : Addr) (fd : FuncData) (ps : List Str) (k' : Nat) (g : List W → Hs → R Ev.X), k' + 1 ≤ k ∧ mg (N.cl c) = some (.ref Ca) ∧ Mk K Ca a ∧ Binds K fd ps [] ∧
    FnOk P w K mg base (L2.CX P w) k' a fd ps (spOf N K mg (N.am c + 1) g) ∧ C.mkO c = mkBy c g
structure ExG (N : Nm) (P : Program) (w : World) (K : PySem.W.Frag) (mg : Str → Option Value) (base : Heap) (k c : Nat) : Prop where
  ex : ∃ Ca : Addr, mg (N.cl c) = some (.ref Ca) ∧ PySem.W.subIn K (.ref Ca) (.type "BaseException") = some true ∧ PySem.W.typeIn K (.ref Ca) = some (.type "type") ∧ PySem.W.keepIn K (.ref Ca) = true ∧ ((N.xf c = none ∧ PySem.W.excIn K Ca veM "ValueError.__new__" = true) ∨
    ∃ (f : Str) (fI : Addr) (k' : Nat) (fd : FuncData) (ps : List Str), N.xf c = some f ∧ OexC K Ca ∧ PySem.W.findIn K (.ref Ca) "__init__" = some (some (.ref fI)) ∧ PySem.W.typeIn K (.ref fI) = some (.type "function") ∧
      FnOk P w K mg base (L2.CX P w) k' fI fd ps (spInit K Ca f) ∧ Binds K fd ps [] ∧ k' + 1 ≤ k)
section
variable {N : Nm} {C : Cl} {P : Program} {w : World} {K : PySem.W.Frag} {mg : Str → Option Value} {base : Heap} {Θ : Pm}
theorem ExG.ok {X : Cx} {k c : Nat} (h : ExG N X.prog X.w X.K X.mg X.base k c) (hr : Room k X.A) : ExOk N X c := let ⟨Ca, h1, h2, h3, h4, h5⟩ := h.ex; ⟨Ca, h1, raises_own h2 h3, h4, h5.elim .inl fun ⟨f, fI, k', fd, ps, q1, q2, q3, q4, q5, q6, q7⟩ => .inr ⟨f, fI, k', fd, ps, q1, q2, q3, q4, q5, q6, hr.mono q7⟩⟩
theorem Gd.ck {X : Cx} {W : WX} {k : Nat} (g : Gd N C X.prog X.w X.K X.mg X.base) (hΘ : Θ.Ok) (hne : ∀ ρ c vs v H, ¬ Θ.er ρ c vs v H) (hN : X.N.Nodup) (hc : X.calm = true) (hr : Room k X.A) (tk : Takes X W) (hca : ∀ f, C.kf f = true → CallG N C X.prog X.w X.K X.mg X.base k f) (hmk : ∀ c, C.km c = true → MkG N C X.prog X.w X.K X.mg X.base k c) (hex : ∀ c, N.ke c = true → ExG N X.prog X.w X.K X.mg X.base k c) : Ck N C Θ X W false where
  pm := hΘ
  nd := hN
  calm := fun _ => hc
  units := hr.units
  tk := tk
  bi := g.bi
  gl := g.gl
  fnv := g.fnv
  call := fun _ f h => let ⟨a, fd, ps, h1, h2, h3, h4⟩ := (hca f h).ex; ⟨a, fd, ps, k, h1, h2, h3, h4, hr⟩
  mkO := fun _ c h => let ⟨Ca, a, fd, ps, k', g, hk, h1, h2, h3, h4, h5⟩ := (hmk c h).ex; ⟨Ca, a, fd, ps, k', g, h1, h2, h3, h4, hr.mono hk, h5⟩
  insOk := g.insOk
  insFd := g.insFd
  insNf := g.insNf
  kitB := g.kitB
  kitI := g.kitI
  kitO := g.kitO
  kcC := g.kcC
  clv := g.clv
  exm := g.exm
  noer := fun _ => hne
  exc := fun _ c h => (hex c h).ok hr
  xs := g.xs
/-- a def's promise, from its body -/
theorem run_body {ir : S} {Nn : List Str} {vs : List V} {H : Hp} {Q : VK} {E : XK} {X : Cx} (hK : X.K = K) (hm : X.mg = mg) (hX : X.N = Nn) {ρ : List Addr} {hp : Hs} {ws : List W} (rw1 : RWs N K mg Θ ρ H ws vs) (hr : HpR N K mg Θ ρ H hp)
    (po : Post N K mg Θ (fun c d _ H' => E c d H') [] ρ (RlX N K mg Θ ρ) H hp H (run C Nn.length ir ws hp) Q) : tS N C Θ X (fun c d _ H' => E c d H') ir { nx := fun _ H' => Q .non H', rt := Q } (L2.start Nn vs) H := by
  subst hK hm hX
  refine ⟨ρ, startE X.N.length ws, hp, H, fun _ h => h, StR.start rw1, hr, ?_⟩
  unfold run at po
  match e : ex C ir (startE X.N.length ws) hp, po with
  | none, po => exact po.elim
  | some (.nx env', h'), po =>
    intro ρ' σ' H' a st
    have e2 : fin hp.length (.d .non) h' = some (.ok (.d .non), h'.take hp.length) := rfl
    obtain ⟨y, e3, a2, r2⟩ := fin_ok hr a (rx_non (N := N) (X := X)) e2
    cases e3
    simp only [e2] at po
    exact po _ H' a2 r2
  | some (.ret x, h'), po =>
    intro ρ' v H' a rx
    simp only at po
    cases e2 : fin hp.length x h' with
    | none => rw [e2] at po; exact po.elim
    | some z =>
      obtain ⟨r, h2⟩ := z
      obtain ⟨y, rfl, a2, r2⟩ := fin_ok hr a rx e2
      rw [e2] at po
      exact po v H' a2 r2
  | some (.err c xs env', h'), po =>
    intro ρ' σ' Ca d H' em a st er
    obtain ⟨ex, rfl, _⟩ := a.pre
    have a2 := Aft.cut hr a
    rw [hr.len] at a2
    exact po Ca d H' em a2 er.less
  | some (.brk env', h'), po => exact po.elim
  | some (.cont env', h'), po => exact po.elim
/-- THE RULE for a def: its form, its body's proof in every context -/
theorem fn_ok {x qual : Str} {params : Arguments} {body : List Stmt} {scope : Scope} {f : Addr} {fd : FuncData} {Nn ps : List Str} {k : Nat} {ir : S} (F : FunD K x qual params body scope [] [] f fd) (S : FnScope Nn ps scope) (hN : Nn.Nodup)
    (g : Gd N C P w K mg base) (hca : ∀ f, C.kf f = true → CallG N C P w K mg base k f) (hmk : ∀ c, C.km c = true → MkG N C P w K mg base k c) (hex : ∀ c, N.ke c = true → ExG N P w K mg base k c)
    (hb : ∀ (Θ : Pm) (cdv : Value) (A : Around) (outer : List PySem.Env) (s : Shared) (H : Hp) (E : XK), Ck N C Θ (cxOf (L2.CX P w) P w K mg base Nn qual scope f cdv A outer s H E) (fun c d _ H' => E c d H') false →
      PassesOwn (model P w) (cxOf (L2.CX P w) P w K mg base Nn qual scope f cdv A outer s H E).A (cxOf (L2.CX P w) P w K mg base Nn qual scope f cdv A outer s H E).env (cxOf (L2.CX P w) P w K mg base Nn qual scope f cdv A outer s H E).xe →
      PSs (cxOf (L2.CX P w) P w K mg base Nn qual scope f cdv A outer s H E) body (tS N C Θ (cxOf (L2.CX P w) P w K mg base Nn qual scope f cdv A outer s H E) (fun c d _ H' => E c d H') ir)) :
    FnOk P w K mg base (L2.CX P w) (k + 1) f fd ps (spOf N K mg ps.length (run C Nn.length ir)) := by
  refine F.ok S (fun vs H Q E ⟨Θ, ρ, hp, ws, hΘ, hne, hl, rw1, hr, po⟩ => by rw [← rw1.len]; exact hl) fun cdv A outer s H vs Q E hroom ⟨Θ, ρ, hp, ws, hΘ, hne, hl, rw1, hr, po⟩ => ?_
  let X := cxOf (L2.CX P w) P w K mg base Nn qual scope f cdv A outer s H E
  have tk : Takes X (fun c d _ H' => E c d H') := takes_of (X := X) rfl rfl rfl rfl
  have ck : Ck N C Θ X (fun c d _ H' => E c d H') false := Gd.ck (X := X) g hΘ hne hN rfl hroom tk hca hmk hex
  exact ⟨_, hb Θ cdv A outer s H E ck (passes_of (X := X) rfl), run_body (X := X) rfl rfl rfl rw1 hr po⟩
end
end Ev
set_option Elab.async false
set_option linter.all false
set_option maxRecDepth 100000
set_option maxHeartbeats 4000000
/-! Own work: things that are made, errors that are raised, caught. -/
namespace L2
open PySem PySem.Spec PyProof.Rows
section
variable {X : Cx} {CX : CXT} {k : Nat} {f C : Addr} {fd : FuncData} {ps : List Str} {sp : Sp} {E : St → XK} {x : Str} {p pos : Pos} {e : Expr} {es : List Expr} {t : TA}
theorem run_makeS {pins : List (Addr × Obj)} {σ : St} {H : Hp} {s : Shared} {Q : VK} {us : List Value} {vs : List V} (M : Mk X.K C f) (F : FnOk X.prog X.w X.K X.mg X.base CX k f fd ps sp) (hr : Room (k + 1) X.A) (hb : Binds X.K fd ps [])
    (hx : PassesAt CX X σ (E σ)) (I : Inv X pins σ H s) (r : Vals vs us)
    (h : ∀ x dx, H x = none → H dx = none → dx ≠ x → sp (.ref x :: vs) (upd (upd H dx (.own x)) x (.ins C dx [])) (fun v H2 => v = .non ∧ Q (.ref x) H2) (E σ)) :
    wpAny (model X.prog X.w) X.A (call (.ref C) us) (EP X pins σ Q) X.xe s := by
  have hq := h (s.heap.objs.size + 1) s.heap.objs.size (I.hok.fresh (Nat.le_succ _)) (I.hok.fresh (Nat.le_refl _)) (Nat.ne_of_lt (Nat.lt_succ_self _))
  have I2 := Inv.made (C := C) I
  have r2 : Vals (V.ref (s.heap.objs.size + 1) :: vs) (Value.ref (s.heap.objs.size + 1) :: us) := .cons rfl r
  have hl : (Value.ref (s.heap.objs.size + 1) :: us ++ []).length = ps.length := by
    rw [List.append_nil]
    have e := r2.length
    rw [F.len _ _ _ _ hq] at e
    exact e.symm
  have b := hb _ (Value.ref (s.heap.objs.size + 1) :: us) I2.kIn hl
  rw [List.append_nil] at b
  refine wpAny_call (make_map (f := f) I.kIn M.makes M.init (beq_iff_eq.mp M.fn) (codeAny_mono (F.run _ X.stack _ _ ⟨Value.ref (s.heap.objs.size + 1) :: us, []⟩ (Value.ref (s.heap.objs.size + 1) :: us) _ _ (E σ) (hr.make C us [])
    (I2.env0.make C us []) b r2 hq) fun r s' hq' => ?_))
  cases r with
  | error e => exact hx pins _ _ e s' I2 hq'
  | ok fl =>
    cases fl with
    | ret u =>
      obtain ⟨v, H', I3, rv, ev, q3⟩ := I2.after hq'
      subst ev
      exact ⟨rv, ⟨V.ref (s.heap.objs.size + 1), H', I3, rfl, q3⟩⟩
    | next => exact False.elim hq'
    | brk => exact False.elim hq'
    | cont => exact False.elim hq'
def tMakeS (C : Addr) (sp : Sp) (E : St → XK) (t : TA) : TE := fun σ H Q => t σ H fun vs H1 => ∀ x dx, H1 x = none → H1 dx = none → dx ≠ x →
  sp (.ref x :: vs) (upd (upd H1 dx (.own x)) x (.ins C dx [])) (fun v H2 => v = .non ∧ Q (.ref x) H2) (E σ)
theorem pe_makeS (M : Mk X.K C f) (F : FnOk X.prog X.w X.K X.mg X.base CX k f fd ps sp) (hr : Room (k + 1) X.A) (hg : Gl X x) (hm : X.mg x = some (.ref C)) (hb : Binds X.K fd ps []) (hx : ∀ σ, PassesAt CX X σ (E σ))
    (ha : PA X (e :: es) t) (hdb : (x == ("__debug__" : Str)) = false := by decide) (he : starEach (e :: es) X.env = (false, eval e X.env) :: starEach es X.env := by rfl) (hpl : (backTo pos (starEach es X.env)).any (·.1) = false := by rfl) :
    PE X (.Call (.Name x p) (e :: es) [] pos) (tMakeS C sp E t) := by
  refine ⟨fun pins s σ H Q I h => ?_⟩
  refine wpAny_Call_Name_kw (ld_glob I hg hm ?_ hdb)
  refine PySem.W.callWith_K (h₀ := X.base) I.ok.mod.kin M.kp (thn (ha.run pos pins s σ H _ I h) fun us s1 ⟨vs, H1, I1, r, q⟩ => ⟨I1.kIn, ?_⟩) he hpl
  exact run_makeS M F hr hb (hx σ) I1 r q
/-- X(), X an own exception class without own __init__ -/
theorem pmk_own0 {C : Addr} {bmB : List Value} {B newId initId : String} {x : Str} {p : Pos} (F : ExcBaseFacts B newId initId bmB) (q : PySem.W.excIn X.K C bmB newId = true) (gC : X.mg x = some (.ref C))
    (kC : PySem.W.keepIn X.K (.ref C) = true) (r : Raises X (.ref C)) (hg : Gl X x) (hdb : (x == ("__debug__" : Str)) = false := by decide) :
    PMk X (.Call (.Name x p) [] [] pos) (fun _ H Q => Q (.ref C) none H) := by
  intro pins s σ H Q I h
  refine wpAny_Call_Name_kw (ld_glob I hg gC ?_ hdb)
  refine PySem.W.callWith_K0 I.kIn kC ?_
  show wpAny _ _ (call (.ref C) []) _ _ _
  obtain ⟨bm, N, nm, qn, bs, hdct, sn, sub, ab, col, dd, k0, k1, k2, k3, k5, mN, hC, hN, hni, T⟩ := exc_obj I.kIn q
  obtain ⟨hp, g, d, tk, os⟩ := s
  refine wpAny_call_exc_subT F T hC hN hni (fun h' e hm => ?_) (Nat.zero_le _)
  exact mk_of I hm r h (I.hok.gone hm.new)
end
end L2
namespace Ev
open PySem PySem.Spec L2
section
variable {N : Nm} {C : Cl} {Θ : Pm} {X : Cx} {W : WX} {hot : Bool}
theorem s_mk (ck : Ck N C Θ X W false) {c : Nat} {e : E} {y : Expr} {ys : List Expr} {p pos : Pos} (hk : C.km c = true) (hc : e.cnt = N.am c) (hg : Gl X (N.cl c)) (hdb : ((N.cl c) == ("__debug__" : Str)) = false) (hs : ∀ z ∈ y :: ys, ∀ a q, z ≠ .Starred a q)
    (ha : PA X (y :: ys) (tA N C Θ X W e)) : PE X (.Call (.Name (N.cl c) p) (y :: ys) [] pos) (tE N C Θ X W (.mk c e)) := by
  obtain ⟨Ca, a, fd, ps, k, g, h1, h2, h3, h4, h5, h6⟩ := (ck.mkO rfl c hk).ex
  refine (pe_makeS h2 h4 h5 hg h1 h3 (fun σ => passAt ck.tk σ) ha hdb (star_ok (hs y List.mem_cons_self) _ _) (star_any fun z hz => hs z (List.mem_cons_of_mem _ hz))).imp fun σ H Q ⟨ρ, env, hp, st, hr, po⟩ => ?_
  simp only [ev] at po
  refine tA_bnd2 ck.pm st hr po fun xs hp1 vs H1 len af rx st1 hr1 po1 => ?_
  cases e1 : argsW xs with
  | none => rw [e1] at po1; exact po1.elim
  | some ws =>
    rw [e1, lift_some, bnd_ok, h6] at po1
    obtain ⟨rw1, lw⟩ := rx.toW e1
    intro x dx hx hdx hne
    have a1 : Aft N X.K X.mg Θ ρ hp1 ρ hp1 H1 (upd H1 dx (.own x)) := .new ck.pm hr1 hdx
    have hx2 : (upd H1 dx (.own x)) x = none := by rw [upd_ne (Ne.symm hne)]; exact hx
    have a2 : Aft N X.K X.mg Θ ρ hp1 (ρ ++ [x]) (hp1 ++ [.ins c []]) (upd H1 dx (.own x)) (upd (upd H1 dx (.own x)) x (.ins Ca dx [])) := .beside ck.pm a1.hpr hx2 trivial ⟨Ca, dx, [], h1, by rw [upd_same, List.zip_nil_right], Nat.zero_le _, by unfold RepL; rfl⟩
    have a3 := a1.trans a2
    have hl := hr1.len
    refine ⟨Θ, ρ ++ [x], hp1 ++ [.ins c []], .r hp1.length :: ws, ck.pm, ck.noer rfl, by rw [List.length_cons, lw, len, hc], ⟨.ref x, vs, rfl, ⟨x, by rw [← hl]; simp, rfl⟩, rw1.mono ck.pm a3⟩, a3.hpr, ?_⟩
    unfold mkBy at po1
    generalize g (.r hp1.length :: ws) (hp1 ++ [.ins c []]) = rr at po1 ⊢
    match rr, po1 with
    | none, po1 => exact False.elim po1
    | some (.err c' v, h'), po1 =>
      intro Cb d H' em a4 er
      have a5 := Aft.cut hr1 (a3.trans a4)
      rw [hl] at a5
      exact po1 Cb d H' em a5 er.less
    | some (.ok (.r j), h'), po1 => exact False.elim po1
    | some (.ok (.u m), h'), po1 => exact False.elim po1
    | some (.ok (.d d), h'), po1 =>
      cases d with
      | non =>
        intro v H' a4 rv
        have hv : v = .non := by
          have r : Rep N X.K X.mg H' (InR (ρ ++ [x])) .non v := rv.1
          unfold Rep at r
          exact r
        refine ⟨hv, ?_⟩
        have a5 := a3.trans a4
        have a6 := Aft.cut hr1 a5
        rw [hl] at a6
        simp only at po1
        cases em : h'[hp1.length]? with
        | none => rw [em] at po1; exact po1.elim
        | some m =>
          rw [em] at po1
          have hat := a5.hpr.at_ ρ.length x m (by simp) (by rw [hl]; exact em)
          refine po1 (.ref x) H' a6 ⟨⟨x, rfl, hr1.nin hx, af.dom x (.inl hx), hat.1, hat.2.less⟩, fun b eb => ?_⟩
          cases eb
          have hl' : h'.length = hp1.length + 1 := by rw [← a5.hpr.len, List.length_append, hl]; rfl
          rw [← take_last hl' em]
          exact a5.hpr
      | _ => exact False.elim po1
/-- raise X() -/
theorem p_rse0 (ck : Ck N C Θ X W false) {c : Nat} {p pos pos2 : Pos} (hk : N.ke c = true) (hx : N.xf c = none) (hg : Gl X (N.cl c)) (hdb : ((N.cl c) == ("__debug__" : Str)) = false) :
    PS X (.Raise (some (.Call (.Name (N.cl c) p) [] [] pos)) none pos2) (tS N C Θ X W (.rse c .nil)) := by
  obtain ⟨Ca, h1, h2, h3, h4⟩ := (ck.exc rfl c hk).ex
  rcases h4 with ⟨_, h4⟩ | ⟨f, _, _, _, _, e, _⟩
  · refine (L2.ps_raise (ck.calm rfl) ck.tk (pmk_own0 F.excBase_ValueError h4 h1 h3 h2 hg hdb)).imp fun D σ H ⟨ρ, env, hp, B0, hB, st, hr, po⟩ => ?_
    simp only [ex, evs, bns_ok, allToD] at po
    exact po ρ σ Ca none H h1 (.refl hr) st ⟨hk, by simp only [hx]⟩
  · rw [hx] at e; cases e
theorem upd_exo {H1 : Hp} {a dx : Addr} {o1 o2 o3 o4 : HO} (ha : H1 a = none) (hd : dx ≠ a) : upd (L2.del (upd (upd (upd H1 a o1) dx o2) a o3) a) dx o4 = upd H1 dx o4 := by
  funext b
  by_cases hb : b = dx
  · subst hb; rw [upd_same, upd_same]
  · rw [upd_ne hb, upd_ne hb]
    by_cases h2 : b = a
    · subst h2; rw [L2.del_same, ha]
    · rw [L2.del_ne h2, upd_ne h2, upd_ne hb, upd_ne h2]
/-- raise X(e) -/
theorem p_rse1 (ck : Ck N C Θ X W false) {c : Nat} {f : Str} {x : Expr} {a : E} {p pos pos2 : Pos} (hk : N.ke c = true) (hx : N.xf c = some f) (hg : Gl X (N.cl c)) (hdb : ((N.cl c) == ("__debug__" : Str)) = false) (hs : ∀ a q, x ≠ .Starred a q) (ha : PE X x (tE N C Θ X W a)) :
    PS X (.Raise (some (.Call (.Name (N.cl c) p) [x] [] pos)) none pos2) (tS N C Θ X W (.rse c (.cons a .nil))) := by
  obtain ⟨Ca, h1, h2, h3, h4⟩ := (ck.exc rfl c hk).ex
  rcases h4 with ⟨e, _⟩ | ⟨f', fI, k, fd, ps, e, h5, h6, h7, h8, h9, h10⟩
  · rw [hx] at e; cases e
  · rw [hx] at e
    cases e
    have hps : Passes (L2.CX X.prog X.w) X (fun _ _ _ => False) := fun _ _ _ _ e s' _ ⟨_, _, _, _, _, _, _, _, _, _, _, _, z⟩ => z.elim
    refine (L2.ps_raise (ck.calm rfl) ck.tk (pmk_oex (dvs := []) h5 h6 h7 h8 h10 h9 .nil hps hg h1 (a_one ck hs ha) hdb (star_ok hs _ _) (star_any fun z hz => by cases hz))).imp fun D σ H ⟨ρ, env, hp, B0, hB, st, hr, po⟩ => ?_
    have e0 : ex C (.rse c (.cons a .nil)) env hp = bns (ev C a env hp) env (fun x h => match x.toD with | some d => some (.err c [d] env, h) | none => none) := by
      simp only [ex, evs]
      match ev C a env hp with
      | none => rfl
      | some (.err c v, h) => rfl
      | some (.ok x, h) =>
        simp only [bnd_ok, bns_ok, allToD]
        cases x.toD <;> rfl
    rw [e0] at po
    refine tE_bns ck.pm st hr po fun y hp1 v H1 af ry st1 hr1 po1 => ?_
    cases e1 : y.toD with
    | none => rw [e1] at po1; exact po1.elim
    | some d =>
      rw [e1] at po1
      have rd := ry.1.toD e1
      refine ⟨by show 1 ≤ 1000; decide, fun b hb => ⟨b, v, rfl, upd_same, fun dx hdx hne => ⟨rfl, dx, [(f, v)], upd_same, by rw [upd_ne hne, upd_same], ?_, ?_⟩⟩⟩
      · rw [upd_ne hne] at hdx; exact hdx
      · have hdx1 : H1 dx = none := by rw [upd_ne hne] at hdx; exact hdx
        rw [upd_exo hb hne]
        have a2 : Aft N X.K X.mg Θ ρ hp1 ρ hp1 H1 (upd H1 dx (.xd [(f, v)])) := .new ck.pm hr1 hdx1
        exact po1 ρ σ Ca (some dx) _ h1 (af.trans a2) (st1.mono ck.pm a2) ⟨hk, by simp only [hx]; exact ⟨dx, v, rfl, upd_same, hr1.nin hdx1, rd.upd hdx1⟩⟩
/-! ### try -/
/-- the states of the suite of an except clause: the error at a, its class, its dict -/
def Pm.caught (Θ : Pm) (N : Nm) (K : PySem.W.Frag) (mg : Str → Option Value) (a : Addr) (cls : Value) (d : Option Addr) : Pm where
  th := Θ.th
  er := fun ρ c vs v H => v = .ref a ∧ (∃ Ca, cls = .ref Ca ∧ mg (N.cl c) = some (.ref Ca)) ∧ ErrR N K mg ρ H c vs d
theorem Pm.Ok.caught {K : PySem.W.Frag} {mg : Str → Option Value} (h : Θ.Ok) (a : Addr) (cls : Value) (d : Option Addr) : (Θ.caught N K mg a cls d).Ok where
  th := h.th
  er := fun ρ ρ' H H' c vs v ⟨e1, e2, e3, e4⟩ k g _ => ⟨e1, e2, e3, by
    split at e4
    · exact e4
    · obtain ⟨dd, x, q1, q2, q3, q4⟩ := e4
      exact ⟨dd, x, q1, (k.nb g q2 q3).1, (k.nb g q2 q3).2, Rep.mono k g _ _ q4⟩
    · exact e4.elim⟩
section
variable {K : PySem.W.Frag} {mg : Str → Option Value} {Θ' : Pm} {ρ ρ' : List Addr} {hp hp' : Hs} {H H' : Hp}
theorem MoR.th {a : Addr} {m : MO} (h : MoR N K mg Θ ρ H a m) : MoR N K mg Θ' ρ H a m := by cases m <;> exact h
theorem HpR.th (h : HpR N K mg Θ ρ H hp) : HpR N K mg Θ' ρ H hp := ⟨h.len, h.nd, h.tb, fun j a m e1 e2 => ⟨(h.at_ j a m e1 e2).1, (h.at_ j a m e1 e2).2.th⟩⟩
theorem Aft.th (h : Aft N K mg Θ ρ hp ρ' hp' H H') : Aft N K mg Θ' ρ hp ρ' hp' H H' := ⟨h.pre, h.kp, h.dom, h.shut, h.hpr.th⟩
theorem RXF.th {H0 : Hp} {x : Ev.X} {v : V} (h : RXF N K mg Θ ρ H hp H0 x v) : RXF N K mg Θ' ρ H hp H0 x v := by
  cases x with
  | d z => exact ⟨h.1, trivial⟩
  | r j => exact ⟨h.1, trivial⟩
  | u m =>
    obtain ⟨⟨a, e, n, z, nn, r⟩, f⟩ := h
    exact ⟨⟨a, e, n, z, nn, r.th⟩, fun b eb => (f b eb).th⟩
theorem noEx_at : ∀ {env : Env} {i : Nat} {c : Nat} {vs : List Ev.D}, noEx env = true → env[i]? ≠ some (some (.ex c vs))
  | [], i, c, vs, h => by simp
  | w :: env, 0, c, vs, h => by
    intro e
    simp at e
    subst e
    simp [noEx] at h
  | w :: env, i + 1, c, vs, h => by
    have h2 : noEx env = true := by
      cases w with
      | none => exact h
      | some w => cases w with
        | ex c vs => simp [noEx] at h
        | d z => exact h
        | r j => exact h
        | th => exact h
    simpa using noEx_at h2
theorem StR.th {env : Env} {σ : L2.St} (h : StR N K mg Θ ρ H env σ) (ht : Θ'.th = Θ.th) (hx : ∀ (i c : Nat) (vs : List Ev.D), env[i]? ≠ some (some (Ev.W.ex c vs))) : StR N K mg Θ' ρ H env σ :=
  ⟨h.1, fun i w e => by
    obtain ⟨v, e1, r⟩ := h.2 i w e
    refine ⟨v, e1, ?_⟩
    cases w with
    | d z => exact r
    | r j => exact r
    | th => show Θ'.th ρ v H; rw [ht]; exact r
    | ex c vs => exact absurd e (hx i c vs)⟩
theorem StR.unset {env : Env} {σ : L2.St} (h : StR N K mg Θ ρ H env σ) (i : Nat) : StR N K mg Θ ρ H (env.set i none) (σ.set i none) :=
  ⟨by rw [List.length_set, List.length_set]; exact h.1, fun j w e => by
    by_cases hj : i = j
    · subst hj
      by_cases hl : i < env.length
      · rw [List.getElem?_set_self hl] at e; cases e
      · rw [List.getElem?_eq_none (by rw [List.length_set]; exact Nat.le_of_not_lt hl)] at e; cases e
    · rw [List.getElem?_set_ne hj] at e
      rw [List.getElem?_set_ne hj]
      exact h.2 j w e⟩
end
theorem Ck.tr (ck : Ck N C Θ X W hot) {W' : WX} {pn : List (Addr × Obj)} {xe : Value → Shared → Prop} (tk : Takes (X.tr pn xe) W') : Ck N C Θ (X.tr pn xe) W' hot where
  pm := ck.pm
  nd := ck.nd
  calm := ck.calm
  units := ck.units
  tk := tk
  bi := ck.bi
  gl := ck.gl
  fnv := ck.fnv
  call := fun h f k => ⟨(ck.call h f k).ex⟩
  mkO := fun h f k => ⟨(ck.mkO h f k).ex⟩
  insOk := ck.insOk
  insFd := ck.insFd
  insNf := ck.insNf
  kitB := ck.kitB
  kitI := ck.kitI
  kitO := ck.kitO
  kcC := ck.kcC
  clv := ck.clv
  exm := ck.exm
  noer := ck.noer
  exc := fun h c k => ⟨(ck.exc h c k).ex⟩
  xs := ck.xs
theorem Ck.suite (ck : Ck N C Θ X W hot) (a : Addr) (cls : Value) (d : Option Addr) (pn : List (Addr × Obj)) (hu : (X.A.mark (some (.ref a))).units + 64 < cLine) : Ck N C (Θ.caught N X.K X.mg a cls d) (X.suite a pn) W0 true where
  pm := ck.pm.caught a cls d
  nd := ck.nd
  calm := fun z => nomatch z
  units := hu
  tk := fun u s' ⟨a, B, sI, pins, σ, H, cls, d, e, I, nb, up, sky, na, os, ag, w⟩ => w.elim
  bi := ck.bi
  gl := ck.gl
  fnv := ck.fnv
  call := fun z => nomatch z
  mkO := fun z => nomatch z
  insOk := ck.insOk
  insFd := ck.insFd
  insNf := ck.insNf
  kitB := ck.kitB
  kitI := ck.kitI
  kitO := ck.kitO
  kcC := ck.kcC
  clv := ck.clv
  exm := ck.exm
  noer := fun z => nomatch z
  exc := fun z => nomatch z
  xs := ck.xs
theorem p_try (ck : Ck N C Θ X W false) (hs : X.stack = X.env :: X.outer) (hf : X.env.frame = some X.env.locals) {i c : Nat} {n : Str} {Cc : Addr} {body suite : List Stmt} {b₀ : Stmt} {b hd : S} {np pos pos' : Pos} (hi : X.N[i]? = some n) (hln : X.env.kindOf n = some .local)
    (hkx : N.kx c = true) (hCc : X.mg (N.cl c) = some (.ref Cc)) (hg : Gl X (N.cl c)) (hdb : ((N.cl c) == ("__debug__" : Str)) = false)
    (hb : ∀ (W' : WX) (pn : List (Addr × Obj)) (xe : Value → Shared → Prop), Ck N C Θ (X.tr pn xe) W' false → PassesOwn (model X.prog X.w) X.A X.env xe → PSs (X.tr pn xe) body (tS N C Θ (X.tr pn xe) W' b))
    (hsu : ∀ (a : Addr) (oe : Obj) (cls : Value) (d : Option Addr) (pn : List (Addr × Obj)), Zc cls d oe → (∃ vs, oe.data = .fields vs) → Ck N C (Θ.caught N X.K X.mg a cls d) (X.suite a ((a, oe) :: pn)) W0 true →
      PSs (X.suite a ((a, oe) :: pn)) (b₀ :: suite) (tS N C (Θ.caught N X.K X.mg a cls d) (X.suite a ((a, oe) :: pn)) W0 hd)) :
    PS X (.Try body [.ExceptHandler (some (.Name (N.cl c) np)) (some n) (b₀ :: suite) pos'] [] [] pos) (tS N C Θ X W (.tri b c i hd)) := by
  have hun : ∀ a, (X.A.mark (some (.ref a))).units + 64 < cLine := fun a => ck.units
  refine (L2.ps_try_as (i := i) (tb := fun W' => tS N C Θ X W' b) (ts := fun a cls d => tS N C (Θ.caught N X.K X.mg a cls d) X W0 hd) hs hf ck.nd hi hln ⟨hg, hdb, .inl hCc⟩ ck.tk
    (fun W' pn xe tk po => hb W' pn xe (ck.tr tk) po) (fun a oe cls d pn hz hd => hsu a oe cls d pn hz hd (ck.suite a cls d _ (hun a)))).imp fun D σ H ⟨ρ, env, hp, B0, hB, st, hr, po⟩ => ?_
  refine ⟨ρ, env, hp, B0, hB, st, hr, ?_⟩
  unfold ex at po
  match e : ex C b env hp, po with
  | none, po => exact po.elim
  | some (.nx env', h'), po => exact po
  | some (.brk env', h'), po => exact po
  | some (.cont env', h'), po => exact po
  | some (.ret x, h'), po => exact po
  | some (.err c' vs env', h'), po =>
    intro ρ' σ' Ca d H' em af st' er
    refine ⟨C.sub c' c, ck.exm c' c er.1 hkx Ca Cc em hCc, fun hsub a ha => ?_, fun hsub => ?_⟩
    · simp only [hsub, if_true] at po
      have noe : ∀ (j c : Nat) (vs : List Ev.D), env'[j]? ≠ some (some (Ev.W.ex c vs)) := fun j c vs q => by
        obtain ⟨v, _, r⟩ := st'.2 j _ q
        exact ck.noer rfl _ _ _ _ _ r
      have st2 : StR N X.K X.mg (Θ.caught N X.K X.mg a (.ref Ca) d) ρ' H' env' σ' := StR.th st' rfl noe
      refine ⟨ρ', env'.set i (some (.ex c' vs)), h', B0, fun x hx => hB x (af.dom x hx), StR.set (w := .ex c' vs) st2 ⟨rfl, ⟨Ca, rfl, em⟩, er⟩, af.hpr.th, ?_⟩
      match e2 : ex C hd (env'.set i (some (.ex c' vs))) h', po with
      | none, po => exact po.elim
      | some (.nx env2, h2), po =>
        intro ρ2 σ2 H2 a2 st3
        simp only at po
        by_cases hx : noEx (env2.set i none) = true
        · rw [if_pos hx] at po
          exact po ρ2 _ H2 (af.trans a2.th) (StR.th (st3.unset i) rfl fun j c vs => noEx_at hx)
        · rw [if_neg hx] at po; exact po.elim
      | some (.ret x, h2), po =>
        intro ρ2 v H2 a2 rx
        exact po ρ2 v H2 (af.trans a2.th) rx.th
      | some (.brk env2, h2), po => exact po.elim
      | some (.cont env2, h2), po => exact po.elim
      | some (.err c2 v2 env2, h2), po => exact po.elim
    · simp only [hsub, Bool.false_eq_true, if_false] at po
      exact po ρ' σ' Ca d H' em af st' er
end
end Ev
set_option Elab.async false
set_option linter.all false
set_option maxRecDepth 100000
set_option maxHeartbeats 4000000
/-! Own work: the suite of an except clause; counting; an empty dict. -/
namespace Ev
open PySem PySem.Spec L2
section
variable {X : Cx}
/-- l.count(x), flat things -/
def rCountF (K : PySem.W.Frag) : V → List V → Hp → VK → Prop := fun x xs H Q => ∃ (a : Addr) (ys : List V) (y : V), x = V.ref a ∧ xs = [y] ∧ SqL K H a ys ∧ flatV y = true ∧ ys.all flatV = true ∧ Q (.int ((ys.countP fun z => eqV z y : Nat) : Int)) H
theorem countP_V {y : V} : ∀ {ys : List V} {us : List Value}, Vals ys us → ys.all flatV = true → us.countP (fun u => eqU y u) = ys.countP fun z => eqV z y
  | _, _, .nil, _ => rfl
  | z :: ys, u :: us, .cons r t, f => by
    rw [List.all_cons, Bool.and_eq_true] at f
    rw [List.countP_cons, List.countP_cons, countP_V t f.2, eqU_of r f.1]
theorem mt_countF : MtR X "list.count" (rCountF X.K) := by
  intro pins s σ H x xs v us Q I rx rxs h
  obtain ⟨a, ys, y, rfl, rfl, hs, fy, fys, q⟩ := h
  cases rx
  cases rxs with
  | cons ry rt =>
    rename_i uy ut
    cases rt
    obtain ⟨its, rv, ⟨⟨cls, dd, data, sl⟩, n, ho, hc, hdn, hd⟩, hlen⟩ := I.list hs
    simp only at hc hd
    subst hc hd
    refine call_meets PySem.F.slot_list_count ⟨_, ho, rfl⟩ PySem.F.entry_list_count (PySem.F.args_list_count_2 _ _) (SeqAt.list_countAt a its.toArray n dd sl uy (eqU y)) ⟨ho, fun u' hu' => mem_eqAt ry fy rv fys u' (by simpa using hu'), ?_⟩
    have e : (its.toArray.toList.countP (eqU y) : Nat) = ys.countP fun z => eqV z y := by
      rw [← countP_V rv fys]
    rw [e]
    exact ⟨.int _, H, I.tok _, ⟨_, rfl⟩, q⟩
end
section
variable {N : Nm} {C : Cl} {Θ : Pm} {X : Cx} {W : WX} {hot : Bool}
theorem RepL.countF {K : PySem.W.Frag} {mg : Str → Option Value} {H : Hp} {B : Addr → Prop} : ∀ {ds : List Ev.D} {vs : List V} {d : Ev.D} {v : V}, RepL N K mg H B ds vs → Rep N K mg H B d v → flatD d = true → ds.all flatD = true → (vs.countP fun z => eqV z v) = ds.countP fun y => eqF y d
  | [], vs, d, v, h, q, f, e => by rw [RepL.nil_iff.mp h] <;> rfl
  | x :: ds, vs, d, v, h, q, f, e => by
    obtain ⟨w, r, e1, h1, h2⟩ := RepL.cons_iff.mp h
    subst e1
    simp only [List.all_cons, Bool.and_eq_true] at e
    rw [List.countP_cons, List.countP_cons, eqF_V h1 q e.1 f, RepL.countF h2 q f e.2]
theorem flat_rep {K : PySem.W.Frag} {mg : Str → Option Value} {H : Hp} {B : Addr → Prop} {d : Ev.D} {v : V} (h : RepR N K mg H B d v) (f : flatD d = true) : Rep N K mg H B d v ∧ flatV v = true := by
  cases d <;> simp [flatD] at f <;> (refine ⟨h, ?_⟩; unfold RepR Rep at h; subst h; rfl)
theorem s_opl (ck : Ck N C Θ X W hot) {o : OpM} {m : Str} {a b : E} {x y : Expr} {apos pos : Pos} (hm : (o = .count ∧ m = "count") ∨ (o = .index ∧ m = "index")) (hbase : attributeBase x m X.env (eval x X.env) = eval x X.env) (hs : ∀ a q, y ≠ .Starred a q)
    (hl : (apos.endLine == pos.line) = true) (hfew : ((backTo pos (starEach [y] X.env)).all (fun x => !x.1) && (backToKw pos (keywordEach [] X.env)).all (fun x => x.1.isSome)
      && decide ([y].length + ([] : List Keyword).length + (if ([] : List Keyword).isEmpty then 0 else 1) < 30)) = true) (ha : PE X x (tE N C Θ X W a)) (hb : PE X y (tE N C Θ X W b)) :
    PE X (.Call (.Attribute x m apos) [y] [] pos) (tE N C Θ X W (.opl o a b)) := by
  have key : ∀ {r : V → List V → Hp → VK → Prop} {id : String} (hr : MtR X id r) (slot : PySem.Slot "list" m id) (ty : typeOf (.builtin id) = pure (.type "method_descriptor"))
      (sem : ∀ p (ys : List V) (w : V) (ds : List Ev.D) (d : Ev.D) z ρ hp H Q, HpR N X.K X.mg Θ ρ H hp → H p = some (.lst ys) → RepL N X.K X.mg H (InR ρ) ds ys → RepR N X.K X.mg H (InR ρ) d w → semL o (.lst ds) d = some z →
        (∀ v H', Aft N X.K X.mg Θ ρ hp ρ hp H H' → RXF N X.K X.mg Θ ρ H' hp H z v → Q v H') → r (.ref p) [w] H Q), PE X (.Call (.Attribute x m apos) [y] [] pos) (tE N C Θ X W (.opl o a b)) := by
    intro r id hr slot ty sem
    refine (pe_bm F.plainAttrs_list slot ty hr ha (a_one ck hs hb) hbase hfew hl (star_one hs _) rfl).imp fun σ H Q ⟨ρ, env, hp, st, hr, po⟩ => ?_
    simp only [ev] at po
    refine tE_bnd ck.pm st hr po fun x1 hp1 v H1 af rx st1 hr1 po1 => ?_
    split at po1
    · rename_i ds0 e0
      obtain ⟨p, xs, rfl, hx, lx, rx0⟩ := repR_lst (rx.rd hr1 e0)
      refine ⟨.inl ⟨rfl, xs, .of hx⟩, ?_⟩
      refine tE_bnd ck.pm st1 hr1 po1 fun y1 hp2 w H2 af2 ry st2 hr2 po2 => ?_
      obtain ⟨z, e1, q⟩ := po2.lift
      obtain ⟨d1, e2, e3⟩ := opt_bind e1
      obtain ⟨d2, e4, e5⟩ := opt_bind e3
      cases d1 with
      | lst ds =>
        obtain ⟨p2, ys, ep, hy, ly, ryy⟩ := repR_lst ((rx.mono ck.pm af2).rd hr2 e2)
        cases ep
        exact sem p ys w ds d2 z ρ hp2 H2 Q hr2 hy ryy (ry.rd hr2 e4) e5 fun v H' a r => q v H' a (r.sooner fun b hb => af.dom b (af2.dom b hb))
      | _ => cases o <;> cases e5
    · exact po1.elim
  rcases hm with ⟨rfl, rfl⟩ | ⟨rfl, rfl⟩
  · refine key mt_countF F.slot_list_count F.type_list_count fun p ys w ds d z ρ hp H Q hr hy ryy rd e q => ?_
    obtain ⟨hf, e2⟩ := ite_some2 (show (if (flatD d && ds.all flatD) = true then dI ((ds.countP fun y => eqF y d : Nat) : Int) else none) = some z from e)
    simp only [Bool.and_eq_true] at hf
    cases e2
    obtain ⟨h1, h2⟩ := flat_rep rd hf.1
    refine ⟨p, ys, w, rfl, rfl, .of hy, h2, ryy.flatAll hf.2, ?_⟩
    rw [RepL.countF ryy h1 hf.1 hf.2]
    exact q _ _ (.refl hr) (rx_int _)
  · refine key mt_index F.slot_list_index F.type_list_index fun p ys w ds d z ρ hp H Q hr hy ryy rd e q => ?_
    obtain ⟨hf, e2⟩ := ite_some2 (show (if (flatD d && ds.all flatD) = true then (ds.findIdx? fun y => eqF y d).map (fun (i : Nat) => Ev.X.d (.int (i : Int))) else none) = some z from e)
    simp only [Bool.and_eq_true] at hf
    obtain ⟨i, e3, rfl⟩ := Option.map_eq_some_iff.mp e2
    obtain ⟨h1, h2⟩ := flat_rep rd hf.1
    obtain ⟨hi, hh, hno⟩ := List.findIdx?_eq_some_iff_getElem.mp e3
    obtain ⟨u, q1, q2⟩ := ryy.get (i := i) (d := ds[i]) (by simp [hi])
    have fi : flatD ds[i] = true := List.all_eq_true.mp hf.2 _ (List.getElem_mem hi)
    refine ⟨p, ys, w, i, u, rfl, rfl, .of hy, h2, ryy.flatAll hf.2, q1, by rw [eqF_V q2 h1 fi hf.1]; exact hh, fun m z' hm hz => ?_, q _ _ (.refl hr) (rx_int _)⟩
    obtain ⟨dm, r1, r2⟩ := ryy.getV hz
    obtain ⟨hml, rfl⟩ := List.getElem?_eq_some_iff.mp r1
    have fm : flatD ds[m] = true := List.all_eq_true.mp hf.2 _ (List.getElem_mem hml)
    rw [eqF_V r2 h1 fm hf.1]
    simpa using hno m hm
/-- {} -/
theorem s_dct0 (ck : Ck N C Θ X W hot) {pos : Pos} : PE X (.Dict [] [] pos) (tE N C Θ X W .dct0) := pe_dnewK.imp fun σ H Q ⟨ρ, env, hp, st, hr, po⟩ => by
  simp only [ev] at po
  intro p hp0
  exact po _ _ (.new ck.pm hr hp0) (rx_newM hr hp0 trivial (.inl ⟨[], upd_same, rfl, by unfold RepL; rfl⟩) (.inl ⟨[], upd_same, rfl, by unfold RepL; rfl⟩))
/-! ### the suite -/
def rIsX (K : PySem.W.Frag) (D a : Addr) (d : Option Addr) : List V → Hp → VK → Prop := fun xs H Q => ∃ (c : V) (cv : Value) (b : Bool), xs = [.ref a, c] ∧ (∀ u, RelV c u → u = cv) ∧ PySem.W.kitOne K (.ref D) cv = some b ∧ (∀ dd, d = some dd → ∃ fs, H dd = some (.xd fs)) ∧ Q (.bl b) H
theorem call_isX {a D : Addr} {d : Option Addr} {oe : Obj} {pn : List (Addr × Obj)} (C : L2.ExcC X.K D) (hz : Zc (.ref D) d oe) (hf : ∃ vs, oe.data = .fields vs) : CallR (X.suite a ((a, oe) :: pn)) (.builtin "isinstance") (rIsX X.K D a d) := by
  intro pins s σ H xs us Q I r h
  obtain ⟨c, cv, b, rfl, hcv, e, hdd, q⟩ := h
  cases r with
  | cons rx rr =>
    cases rr with
    | cons rt rr =>
      cases rr
      cases rx
      have ec := hcv _ rt
      subst ec
      obtain ⟨hget, _⟩ := I.pin (a, oe) (List.mem_append.mpr (.inl List.mem_cons_self))
      obtain ⟨vs, hv⟩ := hf
      have J : ∃ od, PySem.W.InstAt s.heap a oe D od := by
        cases d with
        | none => exact ⟨none, hget, hz.1, by unfold PySem.W.notCls; rw [hv] <;> rfl, by rw [hz.2]; trivial⟩
        | some dd =>
          obtain ⟨fs, hx⟩ := hdd dd rfl
          have hx2 : ObjOk X.prog X.w H s.heap dd (.xd fs) := I.hok dd _ hx
          obtain ⟨mA, hns, _⟩ := hx2
          obtain ⟨od, ho, hl⟩ := lookIn_ns hns
          exact ⟨some od, hget, hz.1, by unfold PySem.W.notCls; rw [hv] <;> rfl, by rw [hz.2]; exact ho⟩
      obtain ⟨od, J⟩ := J
      have hcl : (PySem.W.clsIn X.K D).isSome = true := by
        obtain ⟨cd, hc, _⟩ := PySem.W.any_some C.hd
        rw [hc]; rfl
      exact PySem.W.kia_one (PySem.W.kitx_exc hcl C.hg C.hk C.hs C.ha C.hn C.ht C.hm) I.kIn J e (fun z => nomatch z) fun tk => ⟨.bl b, H, I.kept (t' := tk) fun _ _ z => z, rfl, q⟩
theorem errR_dict {K : PySem.W.Frag} {mg : Str → Option Value} {ρ : List Addr} {H : Hp} {c : Nat} {vs : List Ev.D} {d : Option Addr} (h : ErrR N K mg ρ H c vs d) : ∀ dd, d = some dd → ∃ fs, H dd = some (.xd fs) := by
  obtain ⟨_, h⟩ := h
  intro dd e
  split at h
  · rw [h] at e; cases e
  · obtain ⟨d2, v, e1, e2, _⟩ := h
    rw [e1] at e
    cases e
    exact ⟨_, e2⟩
  · exact h.elim
section
variable {a : Addr} {oe : Obj} {cls : Value} {d : Option Addr} {pn : List (Addr × Obj)} {i : Nat} {x : Str} {p p2 pos : Pos}
theorem s_exisi (ck : Ck N C (Θ.caught N X.K X.mg a cls d) (X.suite a ((a, oe) :: pn)) W0 true) (hz : Zc cls d oe) (hf : ∃ vs, oe.data = .fields vs) {c' : Nat} (hi : X.N[i]? = some x) (hv : Vis X.env.scope x) (h1 : (x == ("__debug__" : Str)) = false) (h2 : (x == ("__classdict__" : Str)) = false)
    (hg : Gl X "isinstance") (hk : N.kt c' = true) (hgc : Gl X (N.cl c')) (hd : ((N.cl c') == ("__debug__" : Str)) = false) :
    PE (X.suite a ((a, oe) :: pn)) (.Call (.Name "isinstance" p) [.Name x p2, .Name (N.cl c') p2'] [] pos) (tE N C (Θ.caught N X.K X.mg a cls d) (X.suite a ((a, oe) :: pn)) W0 (.exisi i c')) := by
  obtain ⟨Cb, hb⟩ := ck.clv c' hk
  refine ⟨fun pins s σ H Q I ⟨ρ, env, hp, st, hr, po⟩ => ?_⟩
  simp only [ev] at po
  split at po
  · rename_i c vs e
    obtain ⟨v, e1, rfl, ⟨D, rfl, em⟩, er⟩ := st.2 i _ e
    have hE := ck.xs.exc c er.1 D em
    exact (pe_callB (X := X.suite a ((a, oe) :: pn)) (call_isX hE hz hf) hg (ck.b "isinstance") PyProof.Rows.boot_isinstance (pa_cons (pe_var (X := X.suite a ((a, oe) :: pn)) (pos := p2) hi hv h1 h2) (pa_cons (pe_glob (X := X.suite a ((a, oe) :: pn)) (v := .ref Cb) hgc hb rfl hd) pa_nil (by rfl)) (by rfl)) (by decide) (by decide) (by rfl) (by rfl)).run pins s σ H Q I
      ⟨_, e1, ⟨.ref Cb, .ref Cb, C.sub c c', rfl, fun u hu => hu, ck.xs.kit c c' er.1 hk D Cb em hb, errR_dict er, po _ H (.refl hr) (rl_bl _)⟩⟩
  · exact po.elim
/-- isinstance(error, ValueError) -/
theorem s_exve (ck : Ck N C (Θ.caught N X.K X.mg a cls d) (X.suite a ((a, oe) :: pn)) W0 true) (hz : Zc cls d oe) (hf : ∃ vs, oe.data = .fields vs) (hi : X.N[i]? = some x) (hv : Vis X.env.scope x) (h1 : (x == ("__debug__" : Str)) = false) (h2 : (x == ("__classdict__" : Str)) = false)
    (hg : Gl X "isinstance") (hgc : Gl X "ValueError") :
    PE (X.suite a ((a, oe) :: pn)) (.Call (.Name "isinstance" p) [.Name x p2, .Name "ValueError" p3] [] pos) (tE N C (Θ.caught N X.K X.mg a cls d) (X.suite a ((a, oe) :: pn)) W0 (.exve i)) := by
  refine ⟨fun pins s σ H Q I ⟨ρ, env, hp, st, hr, po⟩ => ?_⟩
  simp only [ev] at po
  split at po
  · rename_i c vs e
    obtain ⟨v, e1, rfl, ⟨D, rfl, em⟩, er⟩ := st.2 i _ e
    have hE := ck.xs.exc c er.1 D em
    exact (pe_callB (X := X.suite a ((a, oe) :: pn)) (call_isX hE hz hf) hg (ck.b "isinstance") PyProof.Rows.boot_isinstance (pa_cons (pe_var (X := X.suite a ((a, oe) :: pn)) (pos := p2) hi hv h1 h2) (pa_cons (pe_bltn (X := X.suite a ((a, oe) :: pn)) (v := .ty "ValueError") hgc ck.xs.nve PyProof.Rows.Boot.«ValueError» rfl) pa_nil (by rfl)) (by rfl)) (by decide) (by decide) (by rfl) (by rfl)).run pins s σ H Q I
      ⟨_, e1, ⟨.ty "ValueError", .type "ValueError", true, rfl, fun u hu => hu, ck.xs.kve c er.1 D em, errR_dict er, po _ H (.refl hr) (rl_bl _)⟩⟩
  · exact po.elim
/-- error.f -/
theorem s_exfld (ck : Ck N C (Θ.caught N X.K X.mg a cls d) (X.suite a ((a, oe) :: pn)) W0 true) (hz : Zc cls d oe) (hf : ∃ vs, oe.data = .fields vs) {f : Nat} (hi : X.N[i]? = some x) (hv : Vis X.env.scope x) (h1 : (x == ("__debug__" : Str)) = false) (h2 : (x == ("__classdict__" : Str)) = false) :
    PE (X.suite a ((a, oe) :: pn)) (.Attribute (.Name x p2) (N.fl f) pos) (tE N C (Θ.caught N X.K X.mg a cls d) (X.suite a ((a, oe) :: pn)) W0 (.exfld i f)) := by
  refine ⟨fun pins s σ H Q I ⟨ρ, env, hp, st, hr, po⟩ => ?_⟩
  simp only [ev] at po
  split at po
  · rename_i c w e
    split at po
    · rename_i hxf
      obtain ⟨v, e1, rfl, ⟨D, rfl, em⟩, er⟩ := st.2 i _ e
      have hE := ck.xs.exc c er.1 D em
      have hff := ck.xs.xfl c f hxf
      have noN := ck.xs.xno c (N.fl f) er.1 hff D em
      have er2 := er.2
      rw [hff] at er2
      obtain ⟨dd, y, rfl, hdd, hn, ry⟩ := er2
      refine attr_of (by rfl) (thn ((pe_var (X := X.suite a ((a, oe) :: pn)) (pos := p2) hi hv h1 h2).run pins s σ H (fun v H1 => v = .ref a ∧ H1 = H) I ⟨_, e1, rfl, rfl⟩) fun u s1 hh => ?_)
      obtain ⟨v1, H1, I1, rx, ex, eh⟩ := hh
      subst ex eh
      obtain rfl : u = Value.ref a := rx
      obtain ⟨ha, _⟩ := I1.pin (a, oe) (List.mem_append_left _ List.mem_cons_self)
      obtain ⟨vs, hd⟩ := hf
      have hx : ObjOk X.prog X.w H1 s1.heap dd (.xd [(N.fl f, y)]) := I1.hok dd _ hdd
      obtain ⟨mA, hns, hrr⟩ := hx
      obtain ⟨od, ho, hl⟩ := lookIn_ns hns
      have l : List.lookup (N.fl f) [(N.fl f, y)] = some y := by simp [List.lookup]
      obtain ⟨u, hu, ru⟩ := RelO.some_of (v := y) (o := mA (N.fl f)) (by rw [← l]; exact hrr (N.fl f))
      have J : PySem.W.InstAt s1.heap a oe D (some od) := ⟨ha, hz.1, by unfold PySem.W.notCls; rw [hd] <;> rfl, by rw [hz.2]; exact ho⟩
      exact HandSPX.exc_get I1.kIn J hE.hg hE.hk hE.hs (PySem.W.findObj_own hE.hd noN rfl (by rw [hl, hu])) (handed_of ru) ⟨y, H1, I1.tok _, ru, po y H1 (.refl hr) ⟨ry, trivial⟩⟩
    · exact po.elim
  · exact po.elim
end
end
end Ev
set_option Elab.async false
set_option linter.all false
set_option maxRecDepth 100000
set_option maxHeartbeats 4000000
/-! Own work: thunks. -/
namespace LamX
open PySem PySem.Spec PyProof.Rows L2
section
variable {X : Cx} {pins : List (Addr × Obj)} {σ : L2.St} {H HZ : Hp} {s s1 : Shared}
/-- x() in the def that got the thunk, its wishes about errors told of the very slots -/
theorem pe_actS {CXg : CXT} {Eg : XK} {Ng : List Str} {qg : Str} {sg : Scope} {g f c' : Addr} {cdg pm ctv : Value} {params : Arguments} {body : Expr} {scope : Scope} {k i : Nat} {a : Str} {pn : List (Addr × Obj)} {xe : Value → Shared → Prop} {W : WX} {tb : XK → TE} {p1 p2 : Pos}
    (I : Inv X pins σ H s) (L : LamS X.env.scope scope) (hf : s.heap.get? f = some (PySem.W.kla_obj "<lambda>" (X.env.qual ++ "<lambda>") params body scope (cloFrom X.env.cells scope.names []) pm c' ctv)) (hfn : H f = none) (hfr : f ∉ frs X.stack)
    (hbind : bindArgs (PySem.W.kla_fn "<lambda>" (X.env.qual ++ "<lambda>") params body scope (cloFrom X.env.cells scope.names []) pm (.ref c') ctv) ⟨[], []⟩ = pure [])
    (tk : Takes ((cxOf CXg X.prog X.w X.K X.mg X.base Ng qg sg g cdg X.A X.stack s H Eg).tr pn xe) W) (hr : Room (k + 1) (X.A.deeper (envOfC qg sg s.heap.objs.size g cdg)))
    (hbody : ∀ (A : Around) (outer : List Env) (s : Shared) (H : Hp) (E : XK), Room k (A.deeper (lamEnv X scope s.heap.objs.size f c')) → PE (lamCx X A outer s H E scope f c') body (tb E))
    (hN : Ng[i]? = some a) (hv : Vis sg a) (hd : (a == ("__debug__" : Str)) = false) (hcd : (a == ("__classdict__" : Str)) = false) :
    PE ((cxOf CXg X.prog X.w X.K X.mg X.base Ng qg sg g cdg X.A X.stack s H Eg).tr pn xe) (.Call (.Name a p1) [] [] p2)
      (fun σZ HZ Q => σZ[i]? = some (some (.ref f)) ∧ HZ c' = some (CodeO c' (X.env.qual ++ "<lambda>")) ∧ tb (WE W σZ) σ HZ Q) := by
  refine ⟨fun pinsZ sZ σZ HZ Q IZ ⟨hs, hc, ht⟩ => ?_⟩
  refine wpAny_Call_Name_kw (thn ((pe_var (pos := p1) (i := i) hN hv hd hcd).run pinsZ sZ σZ HZ (fun v H1 => v = .ref f ∧ H1 = HZ) IZ ⟨.ref f, hs, rfl, rfl⟩) fun u s1 ⟨v, H1, I1, r1, ev, eH⟩ => ?_)
  subst ev eH
  obtain rfl : u = Value.ref f := r1
  have of1 := I1.base.keep f _ hf hfn hfr (fun z => nomatch (show f ∈ ([] : List Addr) from z))
  refine PySem.W.callWith_F0 ⟨_, _, _, _, of1⟩ ?_
  obtain ⟨⟨oc, vs, t, hoc, hdc, hvc⟩, _, _⟩ := I1.hok c' _ hc
  have rc : codeAny (model X.prog X.w) (X.A.deeper (envOfC qg sg s.heap.objs.size g cdg)) (.call (.ref f) ⟨[], []⟩) (CR (L2.CX X.prog X.w) (envOfC qg sg s.heap.objs.size g cdg :: X.stack) X.prog X.w H1 s1 Q (WE W σZ)) s1 := by
    refine PySem.W.kla_callFunE hr.depth of1 rfl L.co L.gen rfl ⟨c', oc, vs, t, rfl, hoc, hdc, hvc⟩ ?_
    rw [hbind]
    refine wpAny_pure (wpAny_newFunctionEnv (fun y hy => (L.own y hy).2) (fun y hy => absurd hy (by simp)) (fun h₁ hns hsb => ⟨I1.nolimit.fresh _ hsb, ?_⟩) L.kind)
    show codeAny _ _ (.expr body (lamEnv X scope s1.heap.objs.size f c')) _ _
    have J : Inv (lamCx X (X.A.deeper (envOfC qg sg s.heap.objs.size g cdg)) (envOfC qg sg s.heap.objs.size g cdg :: X.stack) s1 H1 (WE W σZ) scope f c') [] σ H1 { s1 with heap := h₁, toks := s1.toks + ([] : List (Str × Value)).length } :=
      lam_start2 I L I1.env0 hr.hd I1.base hns fun b o e => hsb.extBut b o (Nat.ne_of_lt (Heap.lt_size e)) (Heap.get?_push_of_some _ e)
    exact PySem.W.kla_codeExpr (wpAny_mono ((hbody _ _ s1 H1 (WE W σZ) (hr.deeper _)).run [] _ _ H1 Q J ht) (fun v s' ⟨w', H', J', rv, q⟩ => ⟨w', H', J'.os, J'.bare, J'.base, J'.hok, rv, q⟩) fun e s' hq => hq)
  refine wpAny_call (codeAny_mono rc fun r s' hq => ?_)
  cases r with
  | error e => exact passAt tk σZ pinsZ H1 s1 e s' I1 hq
  | ok fl =>
    cases fl with
    | ret u => exact I1.after hq
    | next => exact False.elim hq
    | brk => exact False.elim hq
    | cont => exact False.elim hq
end
end LamX
namespace Ev
open PySem PySem.Spec L2
/-- the states of the def that got the thunk -/
def Pm.thunk (Θ : Pm) (N : Nm) (K : PySem.W.Frag) (mg : Str → Option Value) (f c' : Addr) (q : Str) (env : Env) (σ : L2.St) : Pm where
  th := fun ρ v H => v = .ref f ∧ H c' = some (LamX.CodeO c' q) ∧ c' ∉ ρ ∧ StR N K mg Θ ρ H env σ
  er := fun _ _ _ _ _ => False
section
variable {N : Nm} {K : PySem.W.Frag} {mg : Str → Option Value} {Θ : Pm} {ρ ρ' : List Addr} {H H' : Hp}
theorem RW.mono2 (hΘ : Θ.Ok) (k : Kp H H' (InR ρ)) (g : Gr H (InR ρ) (InR ρ')) (p : ∃ ex, ρ' = ρ ++ ex) {w : W} {v : V} (h : RW N K mg Θ ρ H w v) : RW N K mg Θ ρ' H' w v := by
  cases w with
  | d d => exact Rep.mono k g d v h
  | r j =>
    obtain ⟨ex, rfl⟩ := p
    obtain ⟨b, e, z⟩ := h
    exact ⟨b, by rw [List.getElem?_append_left (List.getElem?_eq_some_iff.mp e).1]; exact e, z⟩
  | th => exact hΘ.th ρ ρ' H H' v h k g p
  | ex c vs => exact hΘ.er ρ ρ' H H' c vs v h k g p
theorem Pm.Ok.thunk (hΘ : Θ.Ok) (f c' : Addr) (q : Str) (env : Env) (σ : L2.St) : (Θ.thunk N K mg f c' q env σ).Ok where
  th := fun ρ ρ' H H' v ⟨e1, e2, e3, st⟩ k g p => ⟨e1, (k.nb g e2 e3 (by unfold LamX.CodeO; trivial)).1, (k.nb g e2 e3 (by unfold LamX.CodeO; trivial)).2, st.1, fun i w e => let ⟨u, q1, q2⟩ := st.2 i w e; ⟨u, q1, q2.mono2 hΘ k g p⟩⟩
  er := fun _ _ _ _ _ _ _ h _ _ _ => h.elim
end
/-- the def that gets a thunk -/
structure LamG (N : Nm) (C : Cl) (P : Program) (w : World) (K : PySem.W.Frag) (mg : Str → Option Value) (base : Heap) (k g0 : Nat) : Prop where
  ex : ∃ (ga : Addr) (pg : Arguments) (bg : List Stmt) (sg : Scope) (dV kV doc pm cdv ct oc : Value) (an od : Option Addr) (osl : Array (Option Value)) (Ng : List Str) (a : Str) (ir : S) (C0 : Cl),
    mg (N.fn g0) = some (.ref ga) ∧ PySem.W.keepIn K (.ref ga) = true ∧ K.lookup ga = some ⟨oc, od, .func (PySem.W.fnOf (N.fn g0) (N.fn g0) pg bg sg dV kV doc pm an cdv ct), osl⟩ ∧ PySem.W.codeIn K cdv (N.fn g0) = true ∧
    L2.Binds K (PySem.W.fnOf (N.fn g0) (N.fn g0) pg bg sg dV kV doc pm an cdv ct) [a] [] ∧ FnScope Ng [a] sg ∧ Ng[0]? = some a ∧ Vis sg a ∧ (a == ("__debug__" : Str)) = false ∧ (a == ("__classdict__" : Str)) = false ∧
    (∀ t h, C.GT g0 t h = okOnly (run (C0.withTh t) Ng.length ir [.th] h)) ∧
    ∀ (t : Hs → R Ev.X) (Θt : Pm) (A : Around) (outer : List PySem.Env) (s : Shared) (H : Hp), Θt.Ok → (∀ ρ c vs v H, ¬ Θt.er ρ c vs v H) → Room (k + 1) (cxOf C8.CX0 P w K mg base Ng (N.fn g0) sg ga cdv A outer s H C8.E0).A →
      (∀ (W : WX) (pn : List (Addr × Obj)) (xe : Value → Shared → Prop) (p1 p2 : Pos), Takes ((cxOf C8.CX0 P w K mg base Ng (N.fn g0) sg ga cdv A outer s H C8.E0).tr pn xe) W →
        PE ((cxOf C8.CX0 P w K mg base Ng (N.fn g0) sg ga cdv A outer s H C8.E0).tr pn xe) (.Call (.Name a p1) [] [] p2) (tE N (C0.withTh t) Θt ((cxOf C8.CX0 P w K mg base Ng (N.fn g0) sg ga cdv A outer s H C8.E0).tr pn xe) W (.act 0))) →
      PSs (cxOf C8.CX0 P w K mg base Ng (N.fn g0) sg ga cdv A outer s H C8.E0).nox bg (tS N (C0.withTh t) Θt (cxOf C8.CX0 P w K mg base Ng (N.fn g0) sg ga cdv A outer s H C8.E0).nox W0 ir)
section
variable {N : Nm} {C : Cl} {Θ : Pm} {X : Cx} {W : WX} {hot : Bool}
theorem aft_ext {ρ : List Addr} {hp : Hs} {H H1 : Hp} (hΘ : Θ.Ok) (q : HpR N X.K X.mg Θ ρ H hp) (e : LamX.ExtN H H1) (t : LamX.Tabs N.tabs H1) : Aft N X.K X.mg Θ ρ hp ρ hp H H1 := by
  have k : ∀ b o, H b = some o → Nt o → H1 b = some o := fun b o h n => e b o h fun ps z => by subst z; exact n
  have kk : Kp H H1 (InR ρ) := fun b o h _ n => k b o h n
  refine ⟨⟨[], by simp, fun _ z => by cases z⟩, fun b o h _ n => k b o h n, fun b f => ?_, fun _ _ h _ => h, q.len, q.nd, t, fun j a m e1 e2 => ?_⟩
  · cases hb : H b with
    | none => exact .inl hb
    | some o =>
      by_cases n : Nt o
      · exact (f.no (k b o hb n) n).elim
      · refine .inr ?_
        cases o <;> first | exact ⟨_, hb⟩ | exact absurd trivial n
  · obtain ⟨⟨o, h1, w1⟩, h2⟩ := q.at_ j a m e1 e2
    refine ⟨⟨o, k a o h1 w1.nt, w1⟩, ?_⟩
    cases m with
    | lst ds => obtain ⟨xs, e, l, r⟩ := h2; exact ⟨xs, k _ _ e trivial, l, RepL.mono kk gr_same ds xs r⟩
    | lk ds => obtain ⟨xs, e, l, r⟩ := h2; exact ⟨xs, k _ _ e trivial, l, RepL.mono kk gr_same ds xs r⟩
    | dct ks vs =>
      rcases h2 with ⟨kvs, e, l, r⟩ | ⟨kvs, e, l, r⟩
      · exact .inl ⟨kvs, k _ _ e trivial, l, RepL.mono kk gr_same vs _ r⟩
      · exact .inr ⟨kvs, k _ _ e trivial, l, RepL.mono kk gr_same vs _ r⟩
    | ins c ds => obtain ⟨C, dx, xs, m1, e, l, r⟩ := h2; exact ⟨C, dx, xs, m1, k _ _ e trivial, l, RepL.mono kk gr_same ds xs r⟩
    | dead => trivial
    | bn => trivial
theorem s_lam (ck : Ck N C Θ X W false) {g0 k : Nat} {params : Arguments} {body : Expr} {scope : Scope} {be : E} {c P : Addr} {p lpos pos : Pos} (hG : LamG N C X.prog X.w X.K X.mg X.base k g0) (hroom : Room (k + 2) X.A) (hg : Gl X (N.fn g0)) (hdb : ((N.fn g0) == ("__debug__" : Str)) = false)
    (TB : LamX.TabB X.base X.mg c P) (hcode : X.env.code = .ref c) (hmT : (P, X.env.qual ++ "<lambda>") ∈ N.tabs) (hu : ∀ p ∈ N.tabs, p.1 = P → p.2 = X.env.qual ++ "<lambda>") (L : LamX.LamS X.env.scope scope) (hdef : defaultsOf params X.env = ([], []))
    (hbind : ∀ (q : Str) (cl : List (Str × Addr)) (pm cv ctv : Value), bindArgs (PySem.W.kla_fn "<lambda>" q params body scope cl pm cv ctv) ⟨[], []⟩ = pure [])
    (hbody : ∀ (A : Around) (outer : List PySem.Env) (s : Shared) (H : Hp) (E : XK) (f c' : Addr), Room k (A.deeper (LamX.lamEnv X scope s.heap.objs.size f c')) → Takes (LamX.lamCx X A outer s H E scope f c') (fun c d _ H' => E c d H') →
      PE (LamX.lamCx X A outer s H E scope f c') body (tE N C Θ X (fun c d _ H' => E c d H') be)) :
    PE X (.Call (.Name (N.fn g0) p) [.Lambda params body scope lpos] [] pos) (tE N C Θ X W (.lam g0 be)) := by
  obtain ⟨ga, pg, bg, sg, dV, kV, doc, pm, cdv, ct, oc, an, od, osl, Ng, a, ir, C0, hm, hk, lk, hcg, hb, Sg, hNg, hva, hd, hcd, hGT, hT⟩ := hG.ex
  refine ⟨fun pins s σ H Q I ⟨ρ, env, hp, st, hr, po⟩ => ?_⟩
  simp only [ev] at po
  rw [hGT] at po
  refine wpAny_Call_Name_kw (ld_glob I hg hm ?_ hdb)
  refine PySem.W.callWith_K (h₀ := X.base) I.ok.mod.kin hk ?_ (by rfl) (by rfl)
  show wpAny _ _ (spliced ((false, eval (.Lambda params body scope lpos) X.env) :: backTo pos (starEach [] X.env))) _ _ s
  refine Calls.spliced_cons (LamX.lam_make2 I TB hcode hmT hu hr.tb hdef (L.has I.ok) fun f c' pm' ctv H1 s' I1 eN T1 hf hfn hfr hco => ?_)
  refine Calls.spliced_nil ⟨I1.kIn, ?_⟩
  have a1 := aft_ext (X := X) ck.pm hr eN T1
  have hc' : c' ∉ ρ := fun hm => by
    obtain ⟨j, hj, e⟩ := List.mem_iff_getElem.mp hm
    have hj2 : j < hp.length := by rw [← hr.len]; exact hj
    obtain ⟨⟨o, e1, w1⟩, _⟩ := a1.hpr.at_ j c' hp[j] (by rw [List.getElem?_eq_getElem hj, e]) (by simp [hj2])
    rw [hco] at e1
    unfold LamX.CodeO at e1
    cases e1
    exact w1
  have rc : codeAny (model X.prog X.w) X.A (.call (.ref ga) ⟨[.ref f], []⟩) (CR C8.CX0 X.stack X.prog X.w H1 s' Q C8.E0) s' := by
    refine LamX.run_ofS (N := Ng) (ps := [a]) (us := [.ref f]) (vs := [.ref f]) lk hcg Sg hroom I1.env0 (hb s' [.ref f] I1.kIn rfl) (.cons rfl .nil) rfl fun hr' => ?_
    have okT := ck.pm.thunk (N := N) (K := X.K) (mg := X.mg) f c' (X.env.qual ++ "<lambda>") env σ
    refine ⟨_, (hT (fun h => ev C be env h) (Θ.thunk N X.K X.mg f c' (X.env.qual ++ "<lambda>") env σ) X.A X.stack s' H1 okT (fun _ _ _ _ _ z => z) hr' fun W' pn xe p1 p2 tk => ?_).nox, ?_⟩
    · refine (LamX.pe_actS (i := 0) (tb := fun E => tE N C Θ X (fun c d _ H' => E c d H') be) I1 L hf hfn hfr (hbind _ _ _ _ _) tk hr' (fun A outer s H E hr2 => hbody A outer s H E f c' hr2 (takes_of (X := LamX.lamCx X A outer s H E scope f c') rfl rfl rfl rfl)) hNg hva hd hcd).imp fun σZ HZ Q' ⟨ρz, envz, hpz, stz, hrz, poz⟩ => ?_
      simp only [ev] at poz
      split at poz
      · rename_i e0
        obtain ⟨v, e1, rfl, e2, e3, stm⟩ := stz.2 0 _ e0
        refine ⟨e1, e2, ρz, env, hpz, stm, hrz.th, ?_⟩
        have poz : Post N X.K X.mg (Θ.thunk N X.K X.mg f c' (X.env.qual ++ "<lambda>") env σ) W' σZ ρz (RlX N X.K X.mg (Θ.thunk N X.K X.mg f c' (X.env.qual ++ "<lambda>") env σ) ρz) HZ hpz HZ (ev C be env hpz) Q' := poz
        match ev C be env hpz, poz with
        | none, poz => exact poz.elim
        | some (.ok x, h2), poz => exact fun v H' af rx => poz v H' af.th rx.th
        | some (.err c vs, h2), poz => exact fun Ca d H' em af er => poz Ca d H' em af.th er
      · exact poz.elim
    · refine run_body (E := C8.E0) (hp := hp) (ws := [.th]) rfl rfl rfl ⟨.ref f, [], rfl, ⟨rfl, hco, hc', st.mono ck.pm a1⟩, rfl⟩ a1.hpr.th ?_
      match run (C0.withTh fun h => ev C be env h) Ng.length ir [.th] hp, po with
      | none, po => exact po.elim
      | some (.ok x, h2), po => exact fun v H' af rx => po v H' (a1.trans af.th) (rx.th.sooner a1.dom)
      | some (.err c vs, h2), po => exact po.elim
  refine wpAny_call (codeAny_mono rc fun r s2 hq => ?_)
  cases r with
  | error e => exact (show False from hq).elim
  | ok fl =>
    cases fl with
    | ret u => exact I1.after hq
    | next => exact False.elim hq
    | brk => exact False.elim hq
    | cont => exact False.elim hq
end
end Ev
set_option Elab.async false
set_option linter.all false
set_option maxRecDepth 100000
set_option maxHeartbeats 4000000
/-! Own work: != of two instances with their class's own __eq__. -/
namespace L2
open PySem PySem.Spec PyProof.Rows
section
variable {X : Cx} {CX : CXT} {k : Nat} {C f : Addr} {fd : FuncData} {ps : List Str} {sp : Sp}
theorem ifBound_ne {M : Model} {A : Around} {E : Value → Shared → Prop} {s : Shared} {K : PySem.W.Frag} {x C : Addr} {ox : Obj} {od : Option Obj} {args : List Value} {Q : Option Value → Shared → Prop} (Y : K.In s.heap) (I : PySem.W.InstAt s.heap x ox C od)
    (hs : PySem.W.findIn K (.ref C) "__ne__" = some (some (.builtin "object.__ne__"))) (h : wpAny M A (call (.builtin "object.__ne__") (.ref x :: args)) (fun v => Q (some v)) E s) : wpAny M A (callSpecialIfBound? (.ref x) "__ne__" args) Q E s := by
  simp only [callSpecialIfBound?, bindSpecialIfBound?]
  refine wpAny_holding (wpAny_bind (wpAny_bind (wpAny_bind (I.type.here ((PySem.W.looks_findIn Y hs).here ?_)))))
  refine wpAny_bind (wpAny_askSetting (wpAny_ite ?_))
  have fin : wpAny M A (call (.builtin "object.__ne__") ([.ref x] ++ args) >>= fun v => pure (some v)) Q E s := wpAny_bind (wpAny_mono h (fun v s' h' => wpAny_pure h') fun _ _ h' => h')
  split
  · exact wpAny_bind (wpAny_of_eq (F.cmp_object.ne.bind _) (wpAny_pure (by exact fin)))
  · exact wpAny_tryCatch (wpAny_bind (wpAny_of_eq (F.cmp_object.ne.bind _) (wpAny_pure (by exact fin))))
theorem ne_own {pins : List (Addr × Obj)} {σ : St} {H : Hp} {s : Shared} {Q : VK} {a b dx dy : Addr} {fs gs : List (Str × V)} (I : Inv X pins σ H s) (F1 : FnOk X.prog X.w X.K X.mg X.base (L2.CX X.prog X.w) k f fd ps sp) (hr : Room (k + 1) X.A) (hb : Binds X.K fd ps [])
    (hne : PySem.W.findIn X.K (.ref C) "__ne__" = some (some (.builtin "object.__ne__"))) (hs : PySem.W.findIn X.K (.ref C) "__eq__" = some (some (.ref f))) (hf : PySem.W.isFn X.K (.ref f) = true) (hm : PySem.W.mroIn X.K C (.type "object") = some true)
    (ha : H a = some (.ins C dx fs)) (hb' : H b = some (.ins C dy gs)) (h : sp [.ref a, .ref b] H (fun v H' => ∃ t, v = .bl t ∧ Q (.bl (!t)) H') (fun _ _ _ => False)) :
    wpAny (model X.prog X.w) X.A (compareOp .NotEq (.ref a) (.ref b)) (EP X pins σ Q) X.xe s := by
  obtain ⟨mA, J, _⟩ := ins_get I.hok ha
  obtain ⟨mB, J', _⟩ := ins_get I.hok hb'
  obtain ⟨od, J, _⟩ := J.look
  obtain ⟨od', J', _⟩ := J'.look
  have hu : X.A.units + 1 < cLine := by have := hr.un; omega
  have eqc : wpAny (model X.prog X.w) X.A.in1 (call (.ref f) [.ref a, .ref b]) (fun v s' => ∃ t, v = .bool t ∧ EP X pins σ Q (.bool (!t)) s') X.xe s := by
    have hl := F1.len _ _ _ _ h
    have r2 : Vals [V.ref a, V.ref b] [Value.ref a, Value.ref b] := .cons rfl (.cons rfl .nil)
    refine wpAny_call (codeAny_mono (F1.run X.A.in1 X.stack s H ⟨[.ref a, .ref b], []⟩ [.ref a, .ref b] [.ref a, .ref b] _ _ hr.in1 I.env0.in1 (by
      have := hb s [.ref a, .ref b] I.kIn (by simpa using hl)
      simpa using this) r2 h) fun r s' hq => ?_)
    cases r with
    | error e =>
      obtain ⟨_, _, _, _, _, _, _, _, _, _, _, _, z⟩ := hq
      exact z.elim
    | ok fl =>
      cases fl with
      | ret w =>
        obtain ⟨z, H', I', rz, t, ez, q⟩ := I.after hq
        subst ez
        cases rz
        exact ⟨t, rfl, .bl (!t), H', I', rfl, q⟩
      | next => exact False.elim hq
      | brk => exact False.elim hq
      | cont => exact False.elim hq
  have nec : wpAny (model X.prog X.w) X.A (call (.builtin "object.__ne__") [.ref a, .ref b]) (fun v s' => ∃ t, v = .bool t ∧ EP X pins σ Q v s') X.xe s := by
    refine wpAny_call (codeAny_call_builtin F.cmp_object.ne.plain F.cmpEntry_ne (PySem.W.check_slot F.cmpKind_ne F.cmpSplit_ne (J.type.andThen (PySem.W.looks_mroIn I.kIn hm)) (F.cmpArgs_ne _ _) ?_))
    unfold Builtin.«object.__ne__»
    refine wpAny_bind (wpAny_of_eq (a := ((Value.ref a : Value), [Value.ref b])) (by first | rfl | (simp only [slotArgs]; rfl)) ?_)
    refine wpAny_bind (wpAny_cRoomFor (by exact hu) ?_)
    refine wpAny_bind (PySem.W.ifBound_K I.kIn J hs hf (wpAny_mono eqc (fun v s' ⟨t, hv, q⟩ => ?_) fun _ _ e => e))
    subst hv
    refine wpAny_bind (wpAny_truthy_bool (wpAny_pure ?_))
    exact ⟨!t, rfl, q⟩
  have one : wpAny (model X.prog X.w) X.A (tryCompare (.ref a) "__ne__" (.ref b)) (fun r s' => ∃ v, r = some v ∧ EP X pins σ Q v s') X.xe s := by
    unfold tryCompare
    refine wpAny_bind (ifBound_ne I.kIn J hne (wpAny_mono nec (fun v s' ⟨t, hv, q⟩ => ?_) fun _ _ e => e))
    subst hv
    exact wpAny_pure ⟨_, rfl, q⟩
  show wpAny _ _ (richCompare .NotEq (.ref a) (.ref b)) _ _ _
  unfold richCompare
  simp only [oneThing_ref, cmpInfo_NotEq]
  refine wpAny_holding (wpAny_bind (wpAny_cRoomFor (by omega) ?_))
  refine wpAny_bind (J.type.here (wpAny_bind (J'.type.here ?_)))
  split
  · rename_i q
    simp at q
  · refine wpAny_bind (wpAny_pure ?_)
    simp only [Bool.false_eq_true, if_false]
    refine wpAny_bind (wpAny_mono one (fun r s' z => ?_) fun _ _ e => e)
    obtain ⟨v, rfl, hq⟩ := z
    exact wpAny_pure hq
end
end L2

namespace Ev
open PySem PySem.Spec L2
/-- a class with its own __eq__ -/
structure EqG (N : Nm) (C : Cl) (P : Program) (w : World) (K : PySem.W.Frag) (mg : Str → Option Value) (base : Heap) (k c : Nat) : Prop where
  ex : ∃ (Ca f : Addr) (fd : FuncData) (ps : List Str) (g : List W → Hs → R Ev.X), mg (N.cl c) = some (.ref Ca) ∧ PySem.W.findIn K (.ref Ca) "__ne__" = some (some (.builtin "object.__ne__")) ∧ PySem.W.findIn K (.ref Ca) "__eq__" = some (some (.ref f)) ∧
    PySem.W.isFn K (.ref f) = true ∧ PySem.W.mroIn K Ca (.type "object") = some true ∧ Binds K fd ps [] ∧ FnOk P w K mg base (L2.CX P w) k f fd ps (spOf N K mg 2 g) ∧ ∀ d e h, C.eqo c d e h = okOnly (g [.d d, .d e] h)
section
variable {N : Nm} {C : Cl} {Θ : Pm} {X : Cx} {W : WX} {hot : Bool}
def rNeo (N : Nm) (X : Cx) (Ca : Addr) (g : List Ev.W → Hs → R Ev.X) : R2 := fun v u H Q => ∃ p q dx dy fs gs, v = .ref p ∧ u = .ref q ∧ H p = some (.ins Ca dx fs) ∧ H q = some (.ins Ca dy gs) ∧ spOf N X.K X.mg 2 g [.ref p, .ref q] H (fun v H' => ∃ t, v = .bl t ∧ Q (.bl (!t)) H') (fun _ _ _ => False)
theorem neo_op {c k : Nat} (hE : EqG N C X.prog X.w X.K X.mg X.base k c) (hr : Room (k + 1) X.A) (ck : Ck N C Θ X W false) : ∃ Ca g, OpR X (compareOp .NotEq) (rNeo N X Ca g) ∧ ∀ {a b : E} {σ : L2.St} {H : Hp} {Q : VK}, tE N C Θ X W (.eqo true c a b) σ H Q → tOp (rNeo N X Ca g) (tE N C Θ X W a) (tE N C Θ X W b) σ H Q := by
  obtain ⟨Ca, f, fd, ps, g, h1, h2, h3, h4, h5, h6, h7, h8⟩ := hE.ex
  refine ⟨Ca, g, fun pins s σ H v u v' u' Q I rv ru ⟨p, q, dx, dy, fs, gs, e1, e2, e3, e4, e5⟩ => ?_, fun {a b σ H Q} ⟨ρ, env, hp, st, hr, po⟩ => ?_⟩
  · subst e1 e2
    cases rv
    cases ru
    exact L2.ne_own I h7 hr h6 h2 h3 h4 h5 e3 e4 e5
  · simp only [ev] at po
    refine tE_bnd ck.pm st hr po fun x1 hp1 v H1 af rx st1 hr1 po1 => tE_bnd ck.pm st1 hr1 po1 fun y1 hp2 u H2 af2 ry st2 hr2 po2 => ?_
    split at po2
    · rename_i c1 vs c2 ws e1 e2
      split at po2
      · rename_i hcc
        obtain ⟨rfl, rfl, _⟩ := hcc
        have r1 := (rx.mono ck.pm af2).toD e1
        have r2 := ry.toD e2
        have q1 := r1
        have q2 := r2
        unfold Rep at q1 q2
        obtain ⟨p, C1, dx, xs, rfl, m1, t1, _⟩ := q1
        obtain ⟨q, C2, dy, ys, rfl, m2, t2, _⟩ := q2
        rw [h1] at m1 m2
        cases m1
        cases m2
        refine ⟨p, q, dx, dy, _, _, rfl, rfl, t1, t2, Θ, ρ, hp2, [.d (.ins _ vs), .d (.ins _ ws)], ck.pm, ck.noer rfl, rfl, ⟨_, _, rfl, r1, _, _, rfl, r2, rfl⟩, hr2, ?_⟩
        rw [h8] at po2
        unfold okOnly at po2
        generalize g [.d (.ins _ vs), .d (.ins _ ws)] hp2 = rr at po2 ⊢
        match rr, po2 with
        | none, po2 => exact po2.elim
        | some (.err c' v, h'), po2 => exact po2.elim
        | some (.ok z, h'), po2 =>
          intro v H' af3 rz
          have po2 : Post N X.K X.mg Θ W σ ρ (RlX N X.K X.mg Θ ρ) H hp2 H2 (lift ((toB z).map fun k => .d (.bl (!k))) h') Q := po2
          obtain ⟨w, e3, q3⟩ := po2.lift
          obtain ⟨t, e4, rfl⟩ := Option.map_eq_some_iff.mp e3
          have ez : z = .d (.bl t) := by
            cases z with
            | d d => cases d <;> cases e4 <;> rfl
            | r j => cases e4
            | u m => cases e4
          subst ez
          exact ⟨t, rx_bl_eq rz.1, q3 _ H' af3 (rl_bl _)⟩
      · exact po2.elim
    · exact po2.elim
theorem s_neo (ck : Ck N C Θ X W false) {c k : Nat} {a b : E} {x y : Expr} {pos : Pos} (hE : EqG N C X.prog X.w X.K X.mg X.base k c) (hr : Room (k + 1) X.A) (hm : behindInMarks .NotEq y = false) (ha : PE X x (tE N C Θ X W a)) (hb : PE X y (tE N C Θ X W b)) : PE X (.Compare x [.NotEq] [y] pos) (tE N C Θ X W (.eqo true c a b)) :=
  let ⟨Ca, g, h1, h2⟩ := neo_op hE hr ck
  (pe_cmpR h1 ha hb hm).imp fun σ H Q q => h2 q
theorem t_neo (ck : Ck N C Θ X W false) {c k : Nat} {a b : E} {x y : Expr} {pos : Pos} (hE : EqG N C X.prog X.w X.K X.mg X.base k c) (hr : Room (k + 1) X.A) (hm : behindInMarks .NotEq y = false) (ha : PE X x (tE N C Θ X W a)) (hb : PE X y (tE N C Θ X W b)) : PT X (.Compare x [.NotEq] [y] pos) (tT N C Θ X W (.eqo true c a b)) :=
  let ⟨Ca, g, h1, h2⟩ := neo_op hE hr ck
  (pt_cmpR h1 ha hb hm).imp fun σ H Q q => h2 (tT_val ck q)
end
end Ev
set_option Elab.async false
set_option linter.all false
set_option maxRecDepth 100000
set_option maxHeartbeats 4000000
/-! Own work: the rules as the printed proofs use them. -/
namespace Ev
open PySem PySem.Spec L2
def nst : Expr → Bool
  | .Starred _ _ => false
  | _ => true
theorem ns1 {x : Expr} (h : nst x = true) : ∀ a q, x ≠ .Starred a q := fun a q e => by subst e; cases h
theorem nsA {xs : List Expr} (h : xs.all nst = true) : ∀ z ∈ xs, ∀ a q, z ≠ .Starred a q := fun z hz => ns1 (List.all_eq_true.mp h z hz)
def notCall0 : Expr → Bool
  | .Call _ [] [] _ => false
  | _ => true
theorem nc0 {x : Expr} (h : notCall0 x = true) : ∀ f q, x ≠ .Call f [] [] q := fun f q e => by subst e; cases h
section
variable {N : Nm} {C : Cl} {Θ : Pm} {X : Cx} {W : WX} {hot : Bool} {x y z : Expr} {a b c : E} {pos p apos : Pos}
theorem g_int {i : Int} {j : Nat} : PE X (.Constant (.int i) j pos) (tE N C Θ X W (.cst (.int i))) := s_cst pe_int fun _ _ => by unfold Rep; rfl
theorem g_str {i : Str} {j : Nat} : PE X (.Constant (.str i) j pos) (tE N C Θ X W (.cst (.str i))) := s_cst pe_str fun _ _ => by unfold Rep; rfl
theorem g_bl {i : Bool} {j : Nat} : PE X (.Constant (.bool i) j pos) (tE N C Θ X W (.cst (.bl i))) := s_cst (v := .bl i) (by first | exact pe_bl | exact pe_bool) fun _ _ => by unfold Rep; rfl
theorem g_non {j : Nat} : PE X (.Constant .none j pos) (tE N C Θ X W (.cst .non)) := s_cst (v := .non) (by first | exact pe_none | exact pe_non) fun _ _ => by unfold Rep; rfl
theorem g_add (ck : Ck N C Θ X W hot) (ha : PE X x (tE N C Θ X W a)) (hb : PE X y (tE N C Θ X W b)) : PE X (.BinOp x .Add y pos) (tE N C Θ X W (.op2 .add a b)) := s_op2 ck (op_addD ck.pm) (fun d e => by cases d <;> first | rfl | (cases e <;> rfl)) ha hb
theorem g_sub (ck : Ck N C Θ X W hot) (ha : PE X x (tE N C Θ X W a)) (hb : PE X y (tE N C Θ X W b)) : PE X (.BinOp x .Sub y pos) (tE N C Θ X W (.op2 .sub a b)) := s_op2 ck op_subD (fun d e => rfl) ha hb
theorem g_mul (ck : Ck N C Θ X W hot) (ha : PE X x (tE N C Θ X W a)) (hb : PE X y (tE N C Θ X W b)) : PE X (.BinOp x .Mult y pos) (tE N C Θ X W (.op2 .mul a b)) := s_op2 ck (op_mulD ck.pm) (fun d e => by cases d <;> first | rfl | (cases e <;> rfl)) ha hb
theorem g_fdiv (ck : Ck N C Θ X W hot) (ha : PE X x (tE N C Θ X W a)) (hb : PE X y (tE N C Θ X W b)) : PE X (.BinOp x .FloorDiv y pos) (tE N C Θ X W (.op2 .fdiv a b)) := s_op2 ck op_fdivD (fun d e => rfl) ha hb
theorem g_mod (ck : Ck N C Θ X W hot) (ha : PE X x (tE N C Θ X W a)) (hb : PE X y (tE N C Θ X W b)) : PE X (.BinOp x .Mod y pos) (tE N C Θ X W (.op2 .mod a b)) := s_op2 ck op_modD (fun d e => rfl) ha hb
theorem g_pow (ck : Ck N C Θ X W hot) (ha : PE X x (tE N C Θ X W a)) (hb : PE X y (tE N C Θ X W b)) : PE X (.BinOp x .Pow y pos) (tE N C Θ X W (.op2 .pow a b)) := s_op2 ck op_powD (fun d e => rfl) ha hb
theorem g_ix (ck : Ck N C Θ X W hot) (hs : PlainIx y) (ha : PE X x (tE N C Θ X W a)) (hb : PE X y (tE N C Θ X W b)) : PE X (.Subscript x y pos) (tE N C Θ X W (.op2 .ix a b)) := s_ix ck hs ha hb
abbrev OpK (N : Nm) (Θ : Pm) (X : Cx) (op : CmpOp) (o : Op2) : Prop := ∃ f, OpR X (compareOp op) (rOp N Θ X f) ∧ ∀ d e, sem2 o d e = f d e
theorem k_eq (ck : Ck N C Θ X W hot) : OpK N Θ X .Eq .eq := ⟨_, op_eqDD ck.units, fun _ _ => rfl⟩
theorem k_ne (ck : Ck N C Θ X W hot) : OpK N Θ X .NotEq .ne := ⟨_, op_neDD ck.units, fun _ _ => rfl⟩
theorem k_lt (ck : Ck N C Θ X W hot) : OpK N Θ X .Lt .lt := ⟨_, op_ltD (by have := ck.units; omega), fun d e => by cases d <;> first | rfl | (cases e <;> rfl)⟩
theorem k_le (ck : Ck N C Θ X W hot) : OpK N Θ X .LtE .le := ⟨_, op_leD, fun _ _ => rfl⟩
theorem k_gt (ck : Ck N C Θ X W hot) : OpK N Θ X .Gt .gt := ⟨_, op_gtD, fun _ _ => rfl⟩
theorem k_ge (ck : Ck N C Θ X W hot) : OpK N Θ X .GtE .ge := ⟨_, op_geD, fun _ _ => rfl⟩
theorem k_in (ck : Ck N C Θ X W hot) : OpK N Θ X .In .isin := ⟨_, op_inD, fun _ _ => rfl⟩
theorem k_notin (ck : Ck N C Θ X W hot) : OpK N Θ X .NotIn .notin := ⟨_, op_notinD, fun _ _ => rfl⟩
theorem k_is (ck : Ck N C Θ X W hot) : OpK N Θ X .Is .is := ⟨_, op_isD, fun _ _ => rfl⟩
theorem g_cmp (ck : Ck N C Θ X W hot) {o : Op2} {op : CmpOp} (k : OpK N Θ X op o) (hm : behindInMarks op y = false) (ha : PE X x (tE N C Θ X W a)) (hb : PE X y (tE N C Θ X W b)) : PE X (.Compare x [op] [y] pos) (tE N C Θ X W (.op2 o a b)) :=
  let ⟨_, h1, h2⟩ := k
  s_cmp ck h1 h2 hm ha hb
theorem gt_cmp (ck : Ck N C Θ X W hot) {o : Op2} {op : CmpOp} (k : OpK N Θ X op o) (hm : behindInMarks op y = false) (ha : PE X x (tE N C Θ X W a)) (hb : PE X y (tE N C Θ X W b)) : PT X (.Compare x [op] [y] pos) (tT N C Θ X W (.op2 o a b)) :=
  let ⟨_, h1, h2⟩ := k
  t_cmp ck h1 h2 hm ha hb
theorem g_chain (ck : Ck N C Θ X W hot) {o o' : Op2} {op op' : CmpOp} (k : OpK N Θ X op o) (k' : OpK N Θ X op' o') (hm : behindInMarks op' z = false) (ha : PE X x (tE N C Θ X W a)) (hb : PE X y (tE N C Θ X W b)) (hc : PE X z (tE N C Θ X W c)) :
    PE X (.Compare x [op, op'] [y, z] pos) (tE N C Θ X W (.chain o o' a b c)) :=
  let ⟨_, h1, h2⟩ := k
  let ⟨_, h3, h4⟩ := k'
  s_chain ck h1 h3 h2 h4 hm ha hb hc
theorem gt_chain (ck : Ck N C Θ X W hot) {o o' : Op2} {op op' : CmpOp} (k : OpK N Θ X op o) (k' : OpK N Θ X op' o') (hm : behindInMarks op' z = false) (ha : PE X x (tE N C Θ X W a)) (hb : PE X y (tE N C Θ X W b)) (hc : PE X z (tE N C Θ X W c)) :
    PT X (.Compare x [op, op'] [y, z] pos) (tT N C Θ X W (.chain o o' a b c)) :=
  let ⟨_, h1, h2⟩ := k
  let ⟨_, h3, h4⟩ := k'
  t_chain ck h1 h3 h2 h4 hm ha hb hc
theorem g_len (ck : Ck N C Θ X W hot) (hg : Gl X "len") (hs : nst y = true) (ha : PE X y (tE N C Θ X W a)) : PE X (.Call (.Name "len" p) [y] [] pos) (tE N C Θ X W (.op1 .len a)) := s_bi ck call_lenDD (by decide) PySem.boot_len (by decide) (by decide) hg (ns1 hs) ha
theorem g_abs (ck : Ck N C Θ X W hot) (hg : Gl X "abs") (hs : nst y = true) (ha : PE X y (tE N C Θ X W a)) : PE X (.Call (.Name "abs" p) [y] [] pos) (tE N C Θ X W (.op1 .abs a)) := s_bi ck call_absD (by decide) PyProof.Rows.boot_abs (by decide) (by decide) hg (ns1 hs) ha
theorem g_sum (ck : Ck N C Θ X W false) (hg : Gl X "sum") (hs : nst y = true) (ha : PE X y (tE N C Θ X W a)) : PE X (.Call (.Name "sum" p) [y] [] pos) (tE N C Θ X W (.op1 .sum a)) := s_bi ck (call_sumD (ck.calm rfl)) (by decide) PyProof.Rows.boot_sum (by decide) (by decide) hg (ns1 hs) ha
theorem g_all (ck : Ck N C Θ X W false) (hg : Gl X "all") (hs : nst y = true) (ha : PE X y (tE N C Θ X W a)) : PE X (.Call (.Name "all" p) [y] [] pos) (tE N C Θ X W (.op1 .all a)) := s_bi ck (call_allD (ck.calm rfl)) (by decide) PyProof.Rows.boot_all (by decide) (by decide) hg (ns1 hs) ha
theorem g_any (ck : Ck N C Θ X W false) (hg : Gl X "any") (hs : nst y = true) (ha : PE X y (tE N C Θ X W a)) : PE X (.Call (.Name "any" p) [y] [] pos) (tE N C Θ X W (.op1 .any a)) := s_bi ck (call_anyD (ck.calm rfl)) (by decide) PyProof.Rows.boot_any (by decide) (by decide) hg (ns1 hs) ha
theorem g_tuple (ck : Ck N C Θ X W hot) (hg : Gl X "tuple") (hs : nst y = true) (ha : PE X y (tE N C Θ X W a)) : PE X (.Call (.Name "tuple" p) [y] [] pos) (tE N C Θ X W (.op1 .tuple a)) := s_ty ck (call_tupleD ck.pm) (by decide) PyProof.Rows.Boot.«tuple» (by decide) (by decide) hg (ns1 hs) ha
theorem g_listc (ck : Ck N C Θ X W hot) (hg : Gl X "list") (hs : nst y = true) (ha : PE X y (tE N C Θ X W a)) : PE X (.Call (.Name "list" p) [y] [] pos) (tE N C Θ X W (.op1 .list a)) := s_ty ck (call_listD ck.pm) (by decide) PyProof.Rows.Boot.«list» (by decide) (by decide) hg (ns1 hs) ha
theorem g_intc (ck : Ck N C Θ X W hot) (hg : Gl X "int") (hs : nst y = true) (ha : PE X y (tE N C Θ X W a)) : PE X (.Call (.Name "int" p) [y] [] pos) (tE N C Θ X W (.op1 .int a)) := s_ty ck call_intD (by decide) PyProof.Rows.Boot.«int» (by decide) (by decide) hg (ns1 hs) ha
theorem g_strc (ck : Ck N C Θ X W hot) (hg : Gl X "str") (hs : nst y = true) (ha : PE X y (tE N C Θ X W a)) : PE X (.Call (.Name "str" p) [y] [] pos) (tE N C Θ X W (.op1 .str a)) := s_ty ck call_strD (by decide) PyProof.Rows.Boot.«str» (by decide) (by decide) hg (ns1 hs) ha
theorem g_boolc (ck : Ck N C Θ X W hot) (hg : Gl X "bool") (hs : nst y = true) (ha : PE X y (tE N C Θ X W a)) : PE X (.Call (.Name "bool" p) [y] [] pos) (tE N C Θ X W (.op1 .bool a)) := s_ty ck call_boolD (by decide) PyProof.Rows.Boot.«bool» (by decide) (by decide) hg (ns1 hs) ha
theorem g_join (ck : Ck N C Θ X W hot) (hx : notCall0 x = true) (hs : nst y = true) (hl : (apos.endLine == pos.line) = true) (ha : PE X x (tE N C Θ X W a)) (hb : PE X y (tE N C Θ X W b)) : PE X (.Call (.Attribute x "join" apos) [y] [] pos) (tE N C Θ X W (.opm .join a b)) := s_opm ck F.slot_str_join F.type_str_join mt_joinD (nc0 hx) (ns1 hs) hl ha hb
theorem g_split (ck : Ck N C Θ X W hot) (hx : notCall0 x = true) (hs : nst y = true) (hl : (apos.endLine == pos.line) = true) (ha : PE X x (tE N C Θ X W a)) (hb : PE X y (tE N C Θ X W b)) : PE X (.Call (.Attribute x "split" apos) [y] [] pos) (tE N C Θ X W (.opm .split a b)) := s_opm ck F.slot_str_split F.type_str_split (mt_splitD ck.pm) (nc0 hx) (ns1 hs) hl ha hb
end
end Ev
set_option Elab.async false
set_option linter.all false
set_option maxRecDepth 100000
set_option maxHeartbeats 4000000
/-! Own work: an error's __init__ that keeps one field. -/
namespace Ev
open PySem PySem.Spec L2
theorem exi_ok {P : Program} {w : World} {K : PySem.W.Frag} {mg : Str → Option Value} {base : Heap} {CX : CXT} {x qual : Str} {params : Arguments} {body : List Stmt} {scope : Scope} {fI Ca : Addr} {fd : FuncData} {Nn ps : List Str} {f : Str} {k : Nat}
    (F : FunD K x qual params body scope [] [] fI fd) (S : FnScope Nn ps scope) (hps : ps.length = 2) (hNn : Nn.length = 2) (T : OexC K Ca) (hno : PySem.W.findIn K (.ref Ca) f = some none)
    (hb : ∀ (cdv : Value) (A : Around) (outer : List PySem.Env) (s : Shared) (H : Hp) (E : XK), PSs (cxOf CX P w K mg base Nn qual scope fI cdv A outer s H E) body (tOst K f (tVar 0) (tVar 1))) :
    FnOk P w K mg base CX (k + 1) fI fd ps (spInit K Ca f) := by
  refine F.ok S (fun vs H Q E ⟨a, v, e, _⟩ => by rw [e, hps]; rfl) fun cdv A outer s H vs Q E hroom ⟨a, v, e, ha, hq⟩ => ⟨_, hb cdv A outer s H E, ?_⟩
  subst e
  have st : L2.start Nn [.ref a, v] = [some (.ref a), some v] := by unfold L2.start; simp [hNn]
  rw [st]
  exact ⟨v, rfl, .ref a, rfl, a, Ca, rfl, T, hno, .inl ⟨ha, hq⟩⟩
end Ev
set_option Elab.async false
set_option linter.all false
set_option maxRecDepth 100000
set_option maxHeartbeats 4000000
/-! Own work: meanings by stages. -/
namespace Ev
open PySem PySem.Spec L2
section
variable {N : Nm} {C : Cl} {P : Program} {w : World} {K : PySem.W.Frag} {mg : Str → Option Value} {base : Heap} {k m : Nat}
theorem CallG.le {f : Nat} (h : CallG N C P w K mg base k f) (hk : k ≤ m) : CallG N C P w K mg base m f := let ⟨a, fd, ps, h1, h2, h3, h4⟩ := h.ex; ⟨a, fd, ps, h1, h2, h3, h4.mono hk⟩
theorem MkG.le {f : Nat} (h : MkG N C P w K mg base k f) (hk : k ≤ m) : MkG N C P w K mg base m f := let ⟨Ca, a, fd, ps, k', g, h0, h1, h2, h3, h4, h5⟩ := h.ex; ⟨Ca, a, fd, ps, k', g, Nat.le_trans h0 hk, h1, h2, h3, h4, h5⟩
theorem ExG.le {f : Nat} (h : ExG N P w K mg base k f) (hk : k ≤ m) : ExG N P w K mg base m f := let ⟨Ca, h1, h2, h3, h4, h5⟩ := h.ex; ⟨Ca, h1, h2, h3, h4, h5.elim .inl fun ⟨f, fI, k', fd, ps, q1, q2, q3, q4, q5, q6, q7⟩ => .inr ⟨f, fI, k', fd, ps, q1, q2, q3, q4, q5, q6, Nat.le_trans q7 hk⟩⟩
/-- what stands at a stage: calls, makings, errors of level k -/
structure Stg (N : Nm) (C : Cl) (P : Program) (w : World) (K : PySem.W.Frag) (mg : Str → Option Value) (base : Heap) (k : Nat) : Prop where
  gd : Gd N C P w K mg base
  ca : ∀ f, C.kf f = true → CallG N C P w K mg base k f
  mkc : ∀ c, C.km c = true → MkG N C P w K mg base k c
  ex : ∀ c, N.ke c = true → ExG N P w K mg base k c
theorem Gd.add {f : Nat} {g : List W → Hs → R Ev.X} (h : Gd N C P w K mg base) (hf : ∃ a, mg (N.fn f) = some (.ref a)) : Gd N (C.add f g) P w K mg base where
  bi := h.bi
  gl := h.gl
  fnv := fun i hi => by
    by_cases e : i = f
    · subst e; exact hf
    · exact h.fnv i (by simpa [Cl.add, e] using hi)
  insOk := h.insOk
  insFd := h.insFd
  insNf := h.insNf
  kitB := h.kitB
  kitI := h.kitI
  kitO := h.kitO
  kcC := h.kcC
  clv := h.clv
  xs := ⟨h.xs.kit, h.xs.kve, h.xs.nve, h.xs.exc, h.xs.xno, h.xs.xfl⟩
  exm := h.exm
theorem Gd.same {C' : Cl} (h : Gd N C P w K mg base) (h1 : C'.gl = C.gl) (h2 : C'.kf = C.kf) (h3 : C'.nf = C.nf) (h4 : C'.sub = C.sub) (h5 : C'.kc = C.kc) (h6 : C'.xfl = C.xfl) : Gd N C' P w K mg base where
  bi := h.bi
  gl := by rw [h1]; exact h.gl
  fnv := by rw [h2]; exact h.fnv
  insOk := h.insOk
  insFd := h.insFd
  insNf := by rw [h3]; exact h.insNf
  kitB := h.kitB
  kitI := h.kitI
  kitO := by rw [h4]; exact h.kitO
  kcC := by rw [h5]; exact h.kcC
  clv := h.clv
  xs := ⟨by rw [h4]; exact h.xs.kit, h.xs.kve, h.xs.nve, h.xs.exc, h.xs.xno, by rw [h6]; exact h.xs.xfl⟩
  exm := by rw [h4]; exact h.exm
theorem Stg.add {f : Nat} {fa : Addr} {fd : FuncData} {ps : List Str} {g : List W → Hs → R Ev.X} (h : Stg N C P w K mg base k) (hm : mg (N.fn f) = some (.ref fa)) (hk : PySem.W.keepIn K (.ref fa) = true) (hb : Binds K fd ps [])
    (F : FnOk P w K mg base (L2.CX P w) (k + 1) fa fd ps (spOf N K mg (N.ar f) g)) : Stg N (C.add f g) P w K mg base (k + 1) where
  gd := h.gd.add ⟨fa, hm⟩
  ca := fun i hi => by
    by_cases e : i = f
    · subst e
      exact ⟨fa, fd, ps, hm, hk, hb, by show FnOk _ _ _ _ _ _ _ _ _ _ (spOf N K mg (N.ar i) (if i = i then g else C.G i)); rw [if_pos rfl]; exact F⟩
    · have h1 : C.kf i = true := by simpa [Cl.add, e] using hi
      obtain ⟨a, fd, ps, q1, q2, q3, q4⟩ := (h.ca i h1).ex
      exact ⟨a, fd, ps, q1, q2, q3, by show FnOk _ _ _ _ _ _ _ _ _ _ (spOf N K mg (N.ar i) (if i = f then g else C.G i)); rw [if_neg e]; exact q4.mono (Nat.le_succ k)⟩
  mkc := fun c hc => let ⟨Ca, a, fd, ps, k', g, h0, h1, h2, h3, h4, h5⟩ := (h.mkc c hc).ex; ⟨Ca, a, fd, ps, k', g, Nat.le_succ_of_le h0, h1, h2, h3, h4, h5⟩
  ex := fun c hc => (h.ex c hc).le (Nat.le_succ k)
theorem Stg.addMk {c : Nat} {Ca fa : Addr} {fd : FuncData} {ps : List Str} {g : List W → Hs → R Ev.X} (h : Stg N C P w K mg base k) (hm : mg (N.cl c) = some (.ref Ca)) (hM : Mk K Ca fa) (hb : Binds K fd ps [])
    (F : FnOk P w K mg base (L2.CX P w) k fa fd ps (spOf N K mg (N.am c + 1) g)) : Stg N (C.addMk c g) P w K mg base (k + 1) where
  gd := h.gd.same rfl rfl rfl rfl rfl rfl
  ca := fun i hi => let ⟨a, fd, ps, q1, q2, q3, q4⟩ := (h.ca i hi).ex; ⟨a, fd, ps, q1, q2, q3, q4.mono (Nat.le_succ k)⟩
  mkc := fun i hi => by
    by_cases e : i = c
    · subst e
      exact ⟨Ca, fa, fd, ps, k, g, Nat.le_refl _, hm, hM, hb, F, by show (if i = i then mkBy i g else C.mkO i) = _; rw [if_pos rfl]⟩
    · have h1 : C.km i = true := by simpa [Cl.addMk, e] using hi
      obtain ⟨Cb, a, fd, ps, k', g', h0, q1, q2, q3, q4, q5⟩ := (h.mkc i h1).ex
      exact ⟨Cb, a, fd, ps, k', g', Nat.le_succ_of_le h0, q1, q2, q3, q4, by show (if i = c then mkBy c g else C.mkO i) = _; rw [if_neg e]; exact q5⟩
  ex := fun c hc => (h.ex c hc).le (Nat.le_succ k)
theorem Stg.same {C' : Cl} (h : Stg N C P w K mg base k) (h1 : C'.gl = C.gl) (h2 : C'.kf = C.kf) (h3 : C'.nf = C.nf) (h4 : C'.sub = C.sub) (h5 : C'.kc = C.kc) (h6 : C'.xfl = C.xfl) (h7 : C'.G = C.G) (h8 : C'.km = C.km) (h9 : C'.mkO = C.mkO) : Stg N C' P w K mg base k where
  gd := h.gd.same h1 h2 h3 h4 h5 h6
  ca := by
    rw [h2]
    exact fun i hi => let ⟨a, fd, ps, q1, q2, q3, q4⟩ := (h.ca i hi).ex; ⟨a, fd, ps, q1, q2, q3, by rw [h7]; exact q4⟩
  mkc := by
    rw [h8]
    exact fun i hi => let ⟨Ca, a, fd, ps, k', g, h0, q1, q2, q3, q4, q5⟩ := (h.mkc i hi).ex; ⟨Ca, a, fd, ps, k', g, h0, q1, q2, q3, q4, by rw [h9]; exact q5⟩
  ex := h.ex
/-- a def at its stage -/
theorem Stg.fn {x qual : Str} {params : Arguments} {body : List Stmt} {scope : Scope} {f : Addr} {fd : FuncData} {Nn ps : List Str} {ir : S} (h : Stg N C P w K mg base k) (F : FunD K x qual params body scope [] [] f fd) (S : FnScope Nn ps scope)
    (hb : ∀ (Θ : Pm) (cdv : Value) (A : Around) (outer : List PySem.Env) (s : Shared) (H : Hp) (E : XK), Ck N C Θ (cxOf (L2.CX P w) P w K mg base Nn qual scope f cdv A outer s H E) (fun c d _ H' => E c d H') false →
      PassesOwn (model P w) (cxOf (L2.CX P w) P w K mg base Nn qual scope f cdv A outer s H E).A (cxOf (L2.CX P w) P w K mg base Nn qual scope f cdv A outer s H E).env (cxOf (L2.CX P w) P w K mg base Nn qual scope f cdv A outer s H E).xe →
      PSs (cxOf (L2.CX P w) P w K mg base Nn qual scope f cdv A outer s H E) body (tS N C Θ (cxOf (L2.CX P w) P w K mg base Nn qual scope f cdv A outer s H E) (fun c d _ H' => E c d H') ir)) :
    FnOk P w K mg base (L2.CX P w) (k + 1) f fd ps (spOf N K mg ps.length (run C Nn.length ir)) := fn_ok F S S.nd h.gd h.ca h.mkc h.ex hb
theorem Stg.le (h : Stg N C P w K mg base k) (hk : k ≤ m) : Stg N C P w K mg base m := ⟨h.gd, fun f e => (h.ca f e).le hk, fun f e => (h.mkc f e).le hk, fun f e => (h.ex f e).le hk⟩
theorem Stg.fix {x qual : Str} {params : Arguments} {body : List Stmt} {scope : Scope} {f : Nat} {fa : Addr} {fd : FuncData} {Nn ps : List Str} {ir : S} (h : Stg N C P w K mg base k) (hm : mg (N.fn f) = some (.ref fa)) (hk : PySem.W.keepIn K (.ref fa) = true) (hbd : Binds K fd ps [])
    (F : FunD K x qual params body scope [] [] fa fd) (S : FnScope Nn ps scope) (har : ps.length = N.ar f)
    (hb : ∀ (g : List W → Hs → R Ev.X) (Θ : Pm) (cdv : Value) (A : Around) (outer : List PySem.Env) (s : Shared) (H : Hp) (E : XK), Ck N (C.add f g) Θ (cxOf (L2.CX P w) P w K mg base Nn qual scope fa cdv A outer s H E) (fun c d _ H' => E c d H') false →
      PassesOwn (model P w) (cxOf (L2.CX P w) P w K mg base Nn qual scope fa cdv A outer s H E).A (cxOf (L2.CX P w) P w K mg base Nn qual scope fa cdv A outer s H E).env (cxOf (L2.CX P w) P w K mg base Nn qual scope fa cdv A outer s H E).xe →
      PSs (cxOf (L2.CX P w) P w K mg base Nn qual scope fa cdv A outer s H E) body (tS N (C.add f g) Θ (cxOf (L2.CX P w) P w K mg base Nn qual scope fa cdv A outer s H E) (fun c d _ H' => E c d H') ir)) :
    ∀ m, FnOk P w K mg base (L2.CX P w) (k + 2 * m) fa fd ps (spOf N K mg ps.length (fixN C f Nn.length ir m))
  | 0 => ⟨fun vs H Q E ⟨_, _, _, _, _, _, _, _, _, z⟩ => z.elim, fun A outer s H args us vs Q E hr he hb hv ⟨_, _, _, _, _, _, _, _, _, z⟩ => z.elim⟩
  | m + 1 => by
    have ih := Stg.fix h hm hk hbd F S har hb m
    rw [har] at ih
    have h2 := (h.le (m := k + 2 * m) (by omega)).add hm hk hbd (ih.mono (Nat.le_succ _))
    exact Stg.fn h2 F S (hb (fixN C f Nn.length ir m))
end
end Ev
set_option Elab.async false
set_option linter.all false
set_option maxRecDepth 100000
set_option maxHeartbeats 4000000
/-! Own work: a law's end over a head told by facts, with code tables. -/
namespace LamX
open PySem PySem.Spec PyProof.Rows L2
theorem walk_ofXT {l : PySem.W.OpenLaw} {n k : Nat} {q : Program} {loose : List Str} {XP : (Str → Option Value) → Heap → Prop} {YP : World → Heap → Prop} {d : DefRec} {CX : World → CXT} {x : Str}
    (hn : l.most = some n) (hn2 : n ≤ sizeLine) (hdf : d.params.defaults = []) (hr : Room k callerA)
    (F : ∀ (w : World) (mg : Str → Option Value) (fa : Addr) (h : Heap), YP w h → h.Ns mainGlobals mg → mg d.name = some (.ref fa) → ∃ K : PySem.W.Frag, K.In h ∧ LawAtS l w K (CX w) k n x mg fa h)
    (hCX : ∀ (w : World) (H : Hp) (s : Shared) (e : Value) (s' : Shared), CX w [] H s (fun _ _ _ => False) e s' → False) :
    PySem.W.WalkO q loose XP YP l.row.toRowW d [] (fun f vs => PySem.call f vs) := by
  refine Att.attach_callB hn hdf fun w s₀ s₁ mg mb fa o pm cd doc a vs ns G Y ho hd hcd hmg hobj hints hlen hbits hg => ?_
  obtain ⟨K, KX, fd, cs, sp, hT, nT, C, hb, hsp, hF⟩ := F w mg fa _ Y G.T.g hmg
  exact law_callTs KX G.T.g G.T.b G.T.builtins G.T.nolimit hg hT nT C G.T.bmain hobj hints (Nat.le_trans hlen hn2) hr hF hb (fun H hH hS => hsp H a ns hlen hbits hH hS) fun H e s' => hCX w H s₁ e s'
end LamX
namespace Ev
open PySem PySem.Spec L2
def Pm.nil : Pm := ⟨fun _ _ _ => False, fun _ _ _ _ _ => False⟩
theorem Pm.nil_ok : Pm.nil.Ok := ⟨fun _ _ _ _ _ h => h.elim, fun _ _ _ _ _ _ _ h => h.elim⟩
/-- the law's promise, from its meaning -/
theorem law_sp {N : Nm} {K : PySem.W.Frag} {mg : Str → Option Value} {H : Hp} {a : Addr} {ns : List Int} {g : List W → Hs → R Ev.X} (hg : g [.d (.scr ns)] [] = some (.ok (.d (.bl true)), [])) (hT : ∀ p ∈ N.tabs, H p.1 = some (.tbl #[])) (hS : SqL K H a (ns.map V.int)) :
    spOf N K mg 1 g [.ref a] H (fun v _ => v = .bl true) (fun _ _ _ => False) := by
  refine ⟨Pm.nil, [], [], [.d (.scr ns)], Pm.nil_ok, fun _ _ _ _ _ h => h, rfl, ⟨.ref a, [], rfl, ?_, rfl⟩, ⟨rfl, List.nodup_nil, fun p hp => LamX.TabS.nil (hT p hp), fun j b m e => by simp at e⟩, ?_⟩
  · show Rep _ _ _ _ _ _ _
    unfold Rep
    exact ⟨a, rfl, hS.elim (fun h => .inl ⟨h, by simp⟩) .inr⟩
  · rw [hg]
    intro v H' af rx
    exact rx_bl_eq rx.1
end Ev
set_option Elab.async false
set_option linter.all false
set_option maxRecDepth 100000
set_option maxHeartbeats 4000000
/-! Own work: the ground's facts, told by one decidable question of the head's heap. -/
namespace Ev
open PySem PySem.Spec L2
/-- an error class with its own __init__ -/
def oexB (K : PySem.W.Frag) (C : Addr) : Bool := match K.lookup C with
  | some ⟨.type "type", _, .cls cd, sl⟩ => (match cd.mro, sl.toList with
    | .ref C' :: bm, [_, _, _, _, some (.builtin n), _] => C' == C && n == "ValueError.__new__" && !cd.hasDel && cd.hasDict && PySem.HandSPX.refsVE bm
    | _, _ => false)
  | _ => false
theorem oexB_cls {K : PySem.W.Frag} {C : Addr} (q : oexB K C = true) : ∃ nm q N bs bm sn sub ab col dd k0 k1 k2 k3 k5, K.lookup C = some (excClassObj nm q C N bs bm true sn sub ab col dd k0 k1 k2 k3 k5 "ValueError.__new__") ∧ PySem.HandSPX.refsVE bm = true := by
  unfold oexB at q
  split at q
  · rename_i dd cd sl ho
    split at q
    · rename_i C' bm k0 k1 k2 k3 n k5 hm hs
      simp only [Bool.and_eq_true, beq_iff_eq, Bool.not_eq_true'] at q
      obtain ⟨⟨⟨⟨rfl, rfl⟩, hdel⟩, hdi⟩, ht⟩ := q
      obtain ⟨nm, bs, mro, ns, qn, hd, sn, sub, ab, col, del⟩ := cd
      dsimp only at hm hdel hdi
      subst hm hdel hdi
      have hsl : sl = #[k0, k1, k2, k3, some (.builtin "ValueError.__new__"), k5] := by
        obtain ⟨l⟩ := sl
        simp only at hs
        rw [hs]
      subst hsl
      exact ⟨nm, qn, ns, bs, bm, sn, sub, ab, col, dd, k0, k1, k2, k3, k5, ho, ht⟩
    · cases q
  · cases q
abbrev ga (N : Nm) (K : PySem.W.Frag) (c : Nat) : Addr := He.ga K (N.cl c)
/-- own classes that are no errors -/
def InsP (N : Nm) (C : Cl) (K : PySem.W.Frag) (n c : Nat) : Prop :=
  PySem.W.plainGet K (ga N K c) Str.empty = true ∧ PySem.W.hasDictIn K (ga N K c) = true ∧ PySem.W.plainOver K (ga N K c) = true ∧ PySem.W.findIn K (.ref (ga N K c)) "__setattr__" = some (some (.builtin "object.__setattr__")) ∧
  PySem.W.findIn K (.ref (ga N K c)) "__class__" = some (some (.builtin "object.__class__")) ∧ PySem.W.specialIn K (.builtin "object.__class__") "__get__" = some (some (.builtin "getset_descriptor.__get__")) ∧ PySem.W.takesIn K (.builtin "object.__class__") = some true ∧
  PySem.W.mroIn K (ga N K c) (.type "object") = some true ∧ (N.fd c).Nodup ∧ (∀ f ∈ N.fd c, PySem.W.findIn K (.ref (ga N K c)) f = some none) ∧ (∀ t ∈ tyNames, PySem.W.kitOne K (.ref (ga N K c)) (.type t) = some false) ∧
  ∀ c' ∈ List.range n, N.kt c' = true → PySem.W.kitOne K (.ref (ga N K c)) (.ref (ga N K c')) = some (C.sub c c')
def ErrP (N : Nm) (C : Cl) (K : PySem.W.Frag) (n c : Nat) : Prop :=
  PySem.W.findIn K (.ref (ga N K c)) "__getattribute__" = some (some (.builtin "BaseException.__getattribute__")) ∧ PySem.W.findIn K (.ref (ga N K c)) "__getattr__" = some none ∧ PySem.W.subIn K (.ref (ga N K c)) (.type "BaseException") = some true ∧
  PySem.W.hasDictIn K (ga N K c) = true ∧ PySem.W.findIn K (.ref (ga N K c)) "__class__" = some (some (.builtin "object.__class__")) ∧ PySem.W.specialIn K (.builtin "object.__class__") "__get__" = some (some (.builtin "getset_descriptor.__get__")) ∧
  PySem.W.takesIn K (.builtin "object.__class__") = some true ∧ PySem.W.mroIn K (ga N K c) (.type "object") = some true ∧ PySem.W.kitOne K (.ref (ga N K c)) (.type "ValueError") = some true ∧
  (∀ c' ∈ List.range n, N.kt c' = true → PySem.W.kitOne K (.ref (ga N K c)) (.ref (ga N K c')) = some (C.sub c c')) ∧ (∀ c' ∈ List.range n, N.kx c' = true → PySem.W.exmOne K (.ref (ga N K c)) (.ref (ga N K c')) = some (C.sub c c')) ∧
  PySem.W.typeIn K (.ref (ga N K c)) = some (.type "type") ∧ PySem.W.keepIn K (.ref (ga N K c)) = true ∧
  (match N.xf c with
    | none => PySem.W.excIn K (ga N K c) veM "ValueError.__new__" = true
    | some f => PySem.W.findIn K (.ref (ga N K c)) f = some none ∧ oexB K (ga N K c) = true ∧ PySem.W.findIn K (.ref (ga N K c)) "__setattr__" = some (some (.builtin "object.__setattr__")) ∧
        PySem.W.findIn K (.ref (ga N K c)) "__init__" = some (some (.ref (He.ma K (ga N K c) "__init__"))) ∧ PySem.W.typeIn K (.ref (He.ma K (ga N K c) "__init__")) = some (.type "function"))
def GP (N : Nm) (C : Cl) (K : PySem.W.Frag) (n : Nat) : Prop :=
  (∀ c ∈ List.range n, N.kc c = true → InsP N C K n c) ∧ (∀ c ∈ List.range n, N.kt c = true → ∀ t ∈ tyNames, PySem.W.kitOne K (.type t) (.ref (ga N K c)) = some false) ∧ ∀ c ∈ List.range n, N.ke c = true → ErrP N C K n c
instance (N : Nm) (C : Cl) (K : PySem.W.Frag) (n c : Nat) : Decidable (InsP N C K n c) := by unfold InsP; infer_instance
instance (N : Nm) (C : Cl) (K : PySem.W.Frag) (n c : Nat) : Decidable (ErrP N C K n c) := by
  unfold ErrP
  cases N.xf c <;> infer_instance
instance (N : Nm) (C : Cl) (K : PySem.W.Frag) (n : Nat) : Decidable (GP N C K n) := by unfold GP; infer_instance
/-- the numbers of the classes that are told -/
structure Bnd (N : Nm) (C : Cl) (n : Nat) : Prop where
  kc : ∀ c, N.kc c = true → c < n
  kt : ∀ c, N.kt c = true → c < n
  ke : ∀ c, N.ke c = true → c < n
  kx : ∀ c, N.kx c = true → c < n
  nf : ∀ c f i, C.nf c f = some i → N.kc c = true ∧ ∃ x, (N.fd c)[i]? = some x ∧ x = N.fl f
  xfl : ∀ c f, C.xfl c = some f → N.xf c = some (N.fl f)
  kcC : ∀ c, C.kc c = true → N.kc c = true
theorem gd_of {N : Nm} {C : Cl} {P : Program} {w : World} {K : PySem.W.Frag} {mg : Str → Option Value} {base : Heap} {n : Nat} (B : Bnd N C n) (g : GP N C K n) (hg : ∀ c, c < n → mg (N.cl c) = some (.ref (ga N K c))) (bi : ∀ x ∈ biNames, mg x = none) (nve : mg "ValueError" = none)
    (gl : ∀ g d, C.gl g = some d → ∃ u v, mg (N.gl g) = some u ∧ RelV v u ∧ ∀ H B, Rep N K mg H B d v) (fnv : ∀ f, C.kf f = true → ∃ a, mg (N.fn f) = some (.ref a)) : Gd N C P w K mg base := by
  obtain ⟨g1, g2, g3⟩ := g
  have r : ∀ {c}, c < n → c ∈ List.range n := fun h => List.mem_range.mpr h
  have eq : ∀ {c Ca}, c < n → mg (N.cl c) = some (.ref Ca) → Ca = ga N K c := fun {c Ca} h e => by
    rw [hg c h] at e
    cases e
    rfl
  refine { bi := bi, gl := gl, fnv := fnv, insOk := fun c h => ?_, insFd := fun c h => ?_, insNf := B.nf, kitB := fun t ht c Ca e h => ?_, kitI := fun c h Ca e t ht => ?_, kitO := fun c c' h h' Ca Cb e e' => ?_, kcC := B.kcC, clv := fun c h => ⟨_, hg c (B.kt c h)⟩, xs := ?_, exm := fun c c' h h' Ca Cb e e' => ?_ }
  · obtain ⟨h1, h2, h3, h4, h5, h6, h7, h8, _⟩ := g1 c (r (B.kc c h)) h
    exact ⟨_, hg c (B.kc c h), ⟨h1, h2, h3, h4⟩, h5, h6, h7, h8⟩
  · obtain ⟨h1, h2, h3, h4, h5, h6, h7, h8, h9, h10, _⟩ := g1 c (r (B.kc c h)) h
    refine ⟨h9, fun f hf Ca e => ?_⟩
    rw [eq (B.kc c h) e]
    exact h10 f hf
  · rw [eq (B.kt c h) e]
    exact g2 c (r (B.kt c h)) h t ht
  · obtain ⟨h1, h2, h3, h4, h5, h6, h7, h8, h9, h10, h11, _⟩ := g1 c (r (B.kc c h)) h
    rw [eq (B.kc c h) e]
    exact h11 t ht
  · obtain ⟨h1, h2, h3, h4, h5, h6, h7, h8, h9, h10, h11, h12⟩ := g1 c (r (B.kc c h)) h
    rw [eq (B.kc c h) e, eq (B.kt c' h') e']
    exact h12 c' (r (B.kt c' h')) h'
  · refine ⟨fun c c' h h' Ca Cb e e' => ?_, fun c h Ca e => ?_, nve, fun c h Ca e => ?_, fun c f h hf Ca e => ?_, B.xfl⟩
    · obtain ⟨h1, h2, h3, h4, h5, h6, h7, h8, h9, h10, _⟩ := g3 c (r (B.ke c h)) h
      rw [eq (B.ke c h) e, eq (B.kt c' h') e']
      exact h10 c' (r (B.kt c' h')) h'
    · obtain ⟨h1, h2, h3, h4, h5, h6, h7, h8, h9, _⟩ := g3 c (r (B.ke c h)) h
      rw [eq (B.ke c h) e]
      exact h9
    · obtain ⟨h1, h2, h3, h4, h5, h6, h7, h8, h9, _⟩ := g3 c (r (B.ke c h)) h
      rw [eq (B.ke c h) e]
      exact ⟨h1, h2, h3, h4, h5, h6, h7, h8⟩
    · obtain ⟨h1, h2, h3, h4, h5, h6, h7, h8, h9, h10, h11, h12, h13, h14⟩ := g3 c (r (B.ke c h)) h
      rw [eq (B.ke c h) e]
      rw [hf] at h14
      exact h14.1
  · obtain ⟨h1, h2, h3, h4, h5, h6, h7, h8, h9, h10, h11, _⟩ := g3 c (r (B.ke c h)) h
    rw [eq (B.ke c h) e, eq (B.kx c' h') e']
    exact h11 c' (r (B.kx c' h')) h'
/-- an error: what its making needs -/
theorem exG_of0 {N : Nm} {C : Cl} {P : Program} {w : World} {K : PySem.W.Frag} {mg : Str → Option Value} {base : Heap} {n c k : Nat} (g : ErrP N C K n c) (hg : mg (N.cl c) = some (.ref (ga N K c))) (hx : N.xf c = none) : ExG N P w K mg base k c := by
  obtain ⟨h1, h2, h3, h4, h5, h6, h7, h8, h9, h10, h11, h12, h13, h14⟩ := g
  rw [hx] at h14
  exact ⟨_, hg, h3, h12, h13, .inl ⟨hx, h14⟩⟩
theorem exG_of1 {N : Nm} {C : Cl} {P : Program} {w : World} {K : PySem.W.Frag} {mg : Str → Option Value} {base : Heap} {n c k : Nat} {f : Str} {fd : FuncData} {ps : List Str} (g : ErrP N C K n c) (hg : mg (N.cl c) = some (.ref (ga N K c))) (hx : N.xf c = some f)
    (F : OexC K (ga N K c) → PySem.W.findIn K (.ref (ga N K c)) f = some none → FnOk P w K mg base (L2.CX P w) k (He.ma K (ga N K c) "__init__") fd ps (spInit K (ga N K c) f)) (hb : Binds K fd ps []) : ExG N P w K mg base (k + 1) c := by
  obtain ⟨h1, h2, h3, h4, h5, h6, h7, h8, h9, h10, h11, h12, h13, h14⟩ := g
  rw [hx] at h14
  obtain ⟨q1, q2, q3, q4, q5⟩ := h14
  have ho : OexC K (ga N K c) := ⟨oexB_cls q2, q3, h3, h12, h13⟩
  exact ⟨_, hg, h3, h12, h13, .inr ⟨f, _, k, fd, ps, hx, ho, q4, q5, F ho q1, hb, Nat.le_refl _⟩⟩
end Ev
set_option Elab.async false
set_option linter.all false
set_option maxRecDepth 100000
set_option maxHeartbeats 4000000
/-! Own work: defs whose code object is asked for; == of a class; the def that gets thunks. -/
namespace Ev
open PySem PySem.Spec L2
section
variable {N : Nm} {C : Cl} {P : Program} {w : World} {K : PySem.W.Frag} {mg : Str → Option Value} {base : Heap} {k m : Nat}
theorem Stg.fnC {p : Str × Option Str} {x qual : Str} {params : Arguments} {body : List Stmt} {scope : Scope} {fd : FuncData} {Nn ps : List Str} {ir : S} (h : Stg N C P w K mg base k) (F : FunD K x qual params body scope [] [] (He.fAd K p) fd) (S : FnScope Nn ps scope)
    (hb : ∀ (Θ : Pm) (cdv : Value) (A : Around) (outer : List PySem.Env) (s : Shared) (H : Hp) (E : XK), cdv = .ref (He.codeOf K p) → Room k (cxOf (L2.CX P w) P w K mg base Nn qual scope (He.fAd K p) cdv A outer s H E).A → (∀ ρ c vs v H, ¬ Θ.er ρ c vs v H) →
      Ck N C Θ (cxOf (L2.CX P w) P w K mg base Nn qual scope (He.fAd K p) cdv A outer s H E) (fun c d _ H' => E c d H') false →
      PassesOwn (model P w) (cxOf (L2.CX P w) P w K mg base Nn qual scope (He.fAd K p) cdv A outer s H E).A (cxOf (L2.CX P w) P w K mg base Nn qual scope (He.fAd K p) cdv A outer s H E).env (cxOf (L2.CX P w) P w K mg base Nn qual scope (He.fAd K p) cdv A outer s H E).xe →
      PSs (cxOf (L2.CX P w) P w K mg base Nn qual scope (He.fAd K p) cdv A outer s H E) body (tS N C Θ (cxOf (L2.CX P w) P w K mg base Nn qual scope (He.fAd K p) cdv A outer s H E) (fun c d _ H' => E c d H') ir)) :
    FnOk P w K mg base (L2.CX P w) (k + 1) (He.fAd K p) fd ps (spOf N K mg ps.length (run C Nn.length ir)) := by
  obtain ⟨oc, od, dV, kV, doc, pm, an, cdv, ct, osl, rfl, lk, hcd, _, _⟩ := F.ex
  obtain ⟨c, hc⟩ := He.codeIn_ref hcd
  have hcode : cdv = .ref (He.codeOf K p) := by rw [hc, He.codeOf_eq lk hc]
  refine fn_of lk hcd S (fun vs H Q E ⟨Θ, ρ, hp, ws, hΘ, hne, hl, rw1, hr, po⟩ => by rw [← rw1.len]; exact hl) fun A outer s H vs Q E hroom ⟨Θ, ρ, hp, ws, hΘ, hne, hl, rw1, hr, po⟩ => ?_
  have tk : Takes (cxOf (L2.CX P w) P w K mg base Nn qual scope (He.fAd K p) cdv A outer s H E) (fun c d _ H' => E c d H') := takes_of (X := cxOf (L2.CX P w) P w K mg base Nn qual scope (He.fAd K p) cdv A outer s H E) rfl rfl rfl rfl
  have ck : Ck N C Θ (cxOf (L2.CX P w) P w K mg base Nn qual scope (He.fAd K p) cdv A outer s H E) (fun c d _ H' => E c d H') false := Gd.ck (X := cxOf (L2.CX P w) P w K mg base Nn qual scope (He.fAd K p) cdv A outer s H E) h.gd hΘ hne S.nd rfl hroom tk h.ca h.mkc h.ex
  exact ⟨_, hb Θ cdv A outer s H E hcode hroom hne ck (passes_of (X := cxOf (L2.CX P w) P w K mg base Nn qual scope (He.fAd K p) cdv A outer s H E) rfl), run_body (X := cxOf (L2.CX P w) P w K mg base Nn qual scope (He.fAd K p) cdv A outer s H E) rfl rfl rfl rw1 hr po⟩
/-- the def that gets thunks, whose own body calls nothing else -/
theorem lamG_of {C0 : Cl} {g0 : Nat} {params : Arguments} {body : List Stmt} {scope : Scope} {fa : Addr} {fd : FuncData} {Nn : List Str} {a : Str} {ir : S} (h : Stg N C P w K mg base k) (hm : mg (N.fn g0) = some (.ref fa)) (F : FunD K (N.fn g0) (N.fn g0) params body scope [] [] fa fd) (hbd : Binds K fd [a] [])
    (Sg : FnScope Nn [a] scope) (hva : Vis scope a) (hN0 : Nn[0]? = some a) (hd : (a == ("__debug__" : Str)) = false) (hcd2 : (a == ("__classdict__" : Str)) = false) (hGT : ∀ t h, C.GT g0 t h = okOnly (run (C0.withTh t) Nn.length ir [.th] h))
    (e1 : C0.gl = C.gl) (e2 : ∀ f, C0.kf f = false) (e3 : C0.nf = C.nf) (e4 : C0.sub = C.sub) (e5 : C0.kc = C.kc) (e6 : C0.xfl = C.xfl) (e7 : ∀ c, C0.km c = false)
    (hb : ∀ (t : Hs → R Ev.X) (Θt : Pm) (cdv : Value) (A : Around) (outer : List PySem.Env) (s : Shared) (H : Hp),
      (∀ (W : WX) (pn : List (Addr × Obj)) (xe : Value → Shared → Prop) (p1 p2 : Pos), Takes ((cxOf C8.CX0 P w K mg base Nn (N.fn g0) scope fa cdv A outer s H C8.E0).tr pn xe) W →
        PE ((cxOf C8.CX0 P w K mg base Nn (N.fn g0) scope fa cdv A outer s H C8.E0).tr pn xe) (.Call (.Name a p1) [] [] p2) (tE N (C0.withTh t) Θt ((cxOf C8.CX0 P w K mg base Nn (N.fn g0) scope fa cdv A outer s H C8.E0).tr pn xe) W (.act 0))) →
      Ck N (C0.withTh t) Θt (cxOf C8.CX0 P w K mg base Nn (N.fn g0) scope fa cdv A outer s H C8.E0).nox W0 false →
      PSs (cxOf C8.CX0 P w K mg base Nn (N.fn g0) scope fa cdv A outer s H C8.E0).nox body (tS N (C0.withTh t) Θt (cxOf C8.CX0 P w K mg base Nn (N.fn g0) scope fa cdv A outer s H C8.E0).nox W0 ir)) :
    LamG N C P w K mg base k g0 := by
  obtain ⟨oc, od, dV, kV, doc, pm, an, cdv, ct, osl, rfl, lk, hcd, _, _⟩ := F.ex
  have gd : ∀ t, Gd N (C0.withTh t) P w K mg base := fun t => by
    have g := h.gd
    exact { bi := g.bi, gl := (by show ∀ i d, C0.gl i = some d → _; rw [e1]; exact g.gl), fnv := (fun f hf => by rw [show (C0.withTh t).kf f = false from e2 f] at hf; cases hf), insOk := g.insOk, insFd := g.insFd, insNf := (by show ∀ c f i, C0.nf c f = some i → _; rw [e3]; exact g.insNf), kitB := g.kitB, kitI := g.kitI, kitO := by (intro c c' h1 h2 Ca Cb q1 q2; rw [show (C0.withTh t).sub c c' = C.sub c c' from by rw [← e4] <;> rfl]; exact g.kitO c c' h1 h2 Ca Cb q1 q2), kcC := (by show ∀ c, C0.kc c = true → _; rw [e5]; exact g.kcC), clv := g.clv,
            xs := ⟨by (intro c c' h1 h2 Ca Cb q1 q2; rw [show (C0.withTh t).sub c c' = C.sub c c' from by rw [← e4] <;> rfl]; exact g.xs.kit c c' h1 h2 Ca Cb q1 q2), g.xs.kve, g.xs.nve, g.xs.exc, g.xs.xno, by show ∀ c f, C0.xfl c = some f → _; rw [e6]; exact g.xs.xfl⟩, exm := by (intro c c' h1 h2 Ca Cb q1 q2; rw [show (C0.withTh t).sub c c' = C.sub c c' from by rw [← e4] <;> rfl]; exact g.exm c c' h1 h2 Ca Cb q1 q2) }
  refine ⟨fa, params, body, scope, dV, kV, doc, pm, cdv, ct, oc, an, od, osl, Nn, a, ir, C0, hm, F.kp, lk, hcd, hbd, Sg, hN0, hva, hd, hcd2, hGT, fun t Θt A outer s H okT ne room act => hb t Θt cdv A outer s H act ?_⟩
  exact Gd.ck (X := (cxOf C8.CX0 P w K mg base Nn (N.fn g0) scope fa cdv A outer s H C8.E0).nox) (k := k) (gd t) okT ne Sg.nd rfl (room.mono (Nat.le_succ k)) (fun u s' ⟨a, B, sI, pins, σ, H, cls, d, e, I, nb, up, sky, na, os, ag, w⟩ => w.elim)
    (fun f hf => by rw [show (C0.withTh t).kf f = false from e2 f] at hf; cases hf) (fun c hc => by rw [show (C0.withTh t).km c = false from e7 c] at hc; cases hc) h.ex
end
end Ev
set_option Elab.async false
set_option linter.all false
set_option maxRecDepth 100000
set_option maxHeartbeats 4000000
/-! Own work: constants of the module. -/
namespace Ev
open PySem PySem.Spec L2
theorem gl_int {N : Nm} {K : PySem.W.Frag} {mg : Str → Option Value} {x : Str} {i : Int} (h : ∃ t, mg x = some (.int i t)) : ∃ u v, mg x = some u ∧ RelV v u ∧ ∀ H B, Rep N K mg H B (.int i) v := by
  obtain ⟨t, h⟩ := h
  exact ⟨_, .int i, h, ⟨t, rfl⟩, fun _ _ => by unfold Rep; rfl⟩
theorem gl_str {N : Nm} {K : PySem.W.Frag} {mg : Str → Option Value} {x i : Str} (h : ∃ t, mg x = some (.str i t)) : ∃ u v, mg x = some u ∧ RelV v u ∧ ∀ H B, Rep N K mg H B (.str i) v := by
  obtain ⟨t, h⟩ := h
  exact ⟨_, .str i, h, ⟨t, rfl⟩, fun _ _ => by unfold Rep; rfl⟩
theorem vals_of : ∀ {its : List Value} {ns : List Int}, its.map (fun v => match v with | .int i _ => some i | _ => none) = ns.map some → Vals (ns.map V.int) its
  | [], [], _ => .nil
  | [], _ :: _, h => by cases h
  | _ :: _, [], h => by cases h
  | v :: its, n :: ns, h => by
    simp only [List.map_cons, List.cons.injEq] at h
    obtain ⟨h1, h2⟩ := h
    refine .cons ?_ (vals_of h2)
    cases v <;> simp at h1
    subst h1
    exact ⟨_, rfl⟩
theorem gl_tup {N : Nm} {K : PySem.W.Frag} {mg : Str → Option Value} {x : Str} {ns : List Int} {a : Addr} {d : Option Addr} {its : Array Value} {n : Nat} {sl : Array (Option Value)} (hm : mg x = some (.ref a)) (hl : K.lookup a = some ⟨.type "tuple", d, .seq its n, sl⟩)
    (h : its.toList.map (fun v => match v with | .int i _ => some i | _ => none) = ns.map some) (hn : ns.length ≤ 1000) : ∃ u v, mg x = some u ∧ RelV v u ∧ ∀ H B, Rep N K mg H B (.tup (ns.map Ev.D.int)) v := by
  have hv := vals_of h
  have hlen : its.size = ns.length := by
    have := hv.length
    simpa using this.symm
  have hz := small_size hn
  refine ⟨_, .ref a, hm, rfl, fun H B => ?_⟩
  unfold Rep
  exact ⟨a, ns.map V.int, rfl, .inr ⟨_, its, n, hl, rfl, rfl, by omega, hv⟩, by rw [List.length_map]; exact hz, RepL.ints⟩
end Ev
set_option Elab.async false
set_option linter.all false
set_option maxRecDepth 100000
set_option maxHeartbeats 4000000
/-! Own work: names in a row that get new things. -/
namespace Ev
open PySem PySem.Spec L2
section
variable (N : Nm) (K : PySem.W.Frag) (mg : Str → Option Value) (Θ : Pm) (W' : WX) (σ : L2.St)
def PostB (ρ : List Addr) (hp : Hs) (H : Hp) (r : R (List W)) (T : List V → Hp → Prop) : Prop := match r with
  | some (.ok ws, hp') => ∀ ρ' vs H', Aft N K mg Θ ρ hp ρ' hp' H H' → RWs N K mg Θ ρ' H' ws vs → T vs H'
  | some (.err c vs, hp') => ∀ ρ' Ca d H', mg (N.cl c) = some (.ref Ca) → Aft N K mg Θ ρ hp ρ' hp' H H' → ErrR N K mg ρ' H' c vs d → W' (.ref Ca) d σ H'
  | none => False
end
def tB (N : Nm) (C : Cl) (Θ : Pm) (X : Cx) (W : WX) (fs : List Bool) (e : E) : TA := fun σ H T => ∃ ρ env hp, StR N X.K X.mg Θ ρ H env σ ∧ HpR N X.K X.mg Θ ρ H hp ∧ PostB N X.K X.mg Θ W σ ρ hp H (evn C fs e env hp) T
section
variable {N : Nm} {C : Cl} {Θ : Pm} {X : Cx} {W : WX} {hot : Bool}
theorem b_nil : PA X [] (tB N C Θ X W [] .nil) := pa_nil.imp fun σ H Q ⟨ρ, env, hp, st, hr, po⟩ => by
  simp only [evn] at po
  exact po ρ [] H (.refl hr) rfl
theorem b_cons (ck : Ck N C Θ X W hot) {x : Expr} {xs : List Expr} {a b : E} {f : Bool} {fs : List Bool} (hs : ∀ a q, x ≠ .Starred a q) (ha : PE X x (tE N C Θ X W a)) (hb : PA X xs (tB N C Θ X W fs b)) : PA X (x :: xs) (tB N C Θ X W (f :: fs) (.cons a b)) := by
  refine (pa_cons ha hb (star_ok hs _ _)).imp fun σ H Q ⟨ρ, env, hp, st, hr, po⟩ => ⟨ρ, env, hp, st, hr, ?_⟩
  cases f with
  | true =>
    simp only [evn] at po
    match e : ev C a env hp, po with
    | none, po => exact po.elim
    | some (.err c vs, hp1), po => exact fun Ca d H' e1 af er => po ρ Ca d H' e1 af er
    | some (.ok y, hp1), po =>
      intro v H1 af rx
      cases y with
      | d z => exact po.elim
      | r j => exact po.elim
      | u m =>
        obtain ⟨⟨p, rfl, hn, h0, h1, hm⟩, hf⟩ := rx
        have hr1 := af.hpr
        have a2 : Aft N X.K X.mg Θ ρ hp (ρ ++ [p]) (hp1 ++ [m]) H H1 := ⟨⟨[p], rfl, fun b hb => by simp at hb; rw [hb]; exact h0⟩, af.kp, af.dom, fun j m' e1 e2 => by
          have := af.shut j m' e1 e2
          rw [List.getElem?_append_left (List.getElem?_eq_some_iff.mp this).1]; exact this, hf p rfl⟩
        refine ⟨ρ ++ [p], env, hp1 ++ [m], st.mono ck.pm a2, a2.hpr, ?_⟩
        simp only [bnd_ok] at po
        match e2 : evn C fs b env (hp1 ++ [m]), po with
        | none, po => exact po.elim
        | some (.err c vs, hp2), po => exact fun ρ' Ca d H' e1 af2 er => po ρ' Ca d H' e1 (a2.trans af2) er
        | some (.ok ws, hp2), po =>
          intro ρ' vs H' af2 rw'
          refine po ρ' (.ref p :: vs) H' (a2.trans af2) ⟨.ref p, vs, rfl, ⟨p, ?_, rfl⟩, rw'⟩
          obtain ⟨ex, e3, _⟩ := af2.pre
          rw [e3, ← hr1.len]; simp
  | false =>
    simp only [evn] at po
    match e : ev C a env hp, po with
    | none, po => exact po.elim
    | some (.err c vs, hp1), po => exact fun Ca d H' e1 af er => po ρ Ca d H' e1 af er
    | some (.ok y, hp1), po =>
      intro v H1 af rx
      simp only [bnd_ok] at po
      match e3 : y.toW, po with
      | none, po => exact po.elim
      | some w, po =>
        refine ⟨ρ, env, hp1, st.mono ck.pm af, af.hpr, ?_⟩
        simp only at po
        match e2 : evn C fs b env hp1, po with
        | none, po => exact po.elim
        | some (.err c vs, hp2), po => exact fun ρ' Ca d H' e1 af2 er => po ρ' Ca d H' e1 (af.trans af2) er
        | some (.ok ws, hp2), po =>
          intro ρ' vs H' af2 rw'
          exact po ρ' (v :: vs) H' (af.trans af2) ⟨v, vs, rfl, (rx.1.toW e3).mono ck.pm af2, rw'⟩
/-- a, b = x, y -/
theorem p_parn2 (ck : Ck N C Θ X W hot) {s : Stmt} {i j : Nat} {fs : List Bool} {es : E} (h : PS X s (tPar i j (tB N C Θ X W fs es))) : PS X s (tS N C Θ X W (.parn [i, j] fs es)) := h.imp fun D σ H ⟨ρ, env, hp, B0, hB, st, hr, po⟩ => by
  simp only [ex] at po
  refine ⟨ρ, env, hp, st, hr, ?_⟩
  match e : evn C fs es env hp, po with
  | none, po => exact po.elim
  | some (.err c vs, hp2), po => exact fun ρ' Ca d H' e1 af er => po ρ' σ Ca d H' e1 af (st.mono ck.pm af) er
  | some (.ok ws, hp2), po =>
    intro ρ' vs H' af rw1
    match ws, po, rw1 with
    | [w1, w2], po1, rw1 =>
      obtain ⟨v1, r1, e1, q1, rw2⟩ := rw1
      obtain ⟨v2, r2, e2, q2, rw3⟩ := rw2
      have rw3 : r2 = [] := rw3
      subst e1 e2 rw3
      exact ⟨v1, v2, rfl, po1 ρ' _ H' af (((st.mono ck.pm af).set q1).set q2)⟩
    | [], po1, rw1 => exact po1.elim
    | [_], po1, rw1 => exact po1.elim
    | _ :: _ :: _ :: _, po1, rw1 => exact po1.elim
theorem p_parn3 (ck : Ck N C Θ X W hot) {s : Stmt} {i j k : Nat} {fs : List Bool} {es : E} (h : PS X s (tPar3 i j k (tB N C Θ X W fs es))) : PS X s (tS N C Θ X W (.parn [i, j, k] fs es)) := h.imp fun D σ H ⟨ρ, env, hp, B0, hB, st, hr, po⟩ => by
  simp only [ex] at po
  refine ⟨ρ, env, hp, st, hr, ?_⟩
  match e : evn C fs es env hp, po with
  | none, po => exact po.elim
  | some (.err c vs, hp2), po => exact fun ρ' Ca d H' e1 af er => po ρ' σ Ca d H' e1 af (st.mono ck.pm af) er
  | some (.ok ws, hp2), po =>
    intro ρ' vs H' af rw1
    match ws, po, rw1 with
    | [w1, w2, w3], po1, rw1 =>
      obtain ⟨v1, r1, e1, q1, rw2⟩ := rw1
      obtain ⟨v2, r2, e2, q2, rw3⟩ := rw2
      obtain ⟨v3, r3, e3, q3, rw4⟩ := rw3
      have rw4 : r3 = [] := rw4
      subst e1 e2 e3 rw4
      exact ⟨v1, v2, v3, rfl, po1 ρ' _ H' af ((((st.mono ck.pm af).set q1).set q2).set q3)⟩
    | [], po1, rw1 => exact po1.elim
    | [_], po1, rw1 => exact po1.elim
    | [_, _], po1, rw1 => exact po1.elim
    | _ :: _ :: _ :: _ :: _, po1, rw1 => exact po1.elim
theorem setsW_len : ∀ {is : List Nat} {ws : List Ev.W} {env env' : Env}, setsW is ws env = some env' → ws.length = is.length
  | [], [], _, _, _ => rfl
  | [], _ :: _, _, _, e => by cases e
  | _ :: _, [], _, _, e => by cases e
  | _ :: is, _ :: ds, _, _, e => congrArg (· + 1) (setsW_len (is := is) (ws := ds) e)
theorem tgS_okW {ρ : List Addr} {H : Hp} {Q : St → Hp → Prop} : ∀ {is : List Nat} {ws : List Ev.W} {xs : List V} {env env' : Env} {σ : St}, setsW is ws env = some env' → RWs N X.K X.mg Θ ρ H ws xs → StR N X.K X.mg Θ ρ H env σ →
    (∀ σ', StR N X.K X.mg Θ ρ H env' σ' → Q σ' H) → tgS is xs σ H Q
  | [], ws, xs, env, env', σ, e, r, st, q => by
    cases ws with
    | nil => cases e; exact ⟨r, q σ st⟩
    | cons d ds => cases e
  | i :: is, ws, xs, env, env', σ, e, r, st, q => by
    cases ws with
    | nil => cases e
    | cons w ws =>
      obtain ⟨v, r', e1, h1, h2⟩ := r
      exact ⟨v, r', e1, tgS_okW e h2 (StR.set st h1) q⟩
/-- a, b = x, y, the tuple itself is built -/
theorem p_parnT (ck : Ck N C Θ X W hot) {tg : Expr} {xs : List Expr} {is : List Nat} {fs : List Bool} {es : E} {pos pos2 : Pos} {k : Nat} (hn : is.length ≤ 1000) (ha : PA X xs (tB N C Θ X W fs es)) (hg : PG X tg (tgG X.K (.many is))) (hs : swapsWithSole [tg] (.Tuple xs k pos2) pos.line X.env = pure false) (hw : swappedStores [tg] (.Tuple xs k pos2) X.env = pure none)
    (h1 : (assignEach [tg] X.env).map (·.2) = [assign tg X.env]) : PS X (.Assign [tg] (.Tuple xs k pos2) pos) (tS N C Θ X W (.parn is fs es)) := (ps_asg (pe_tup ha) hg hs hw h1).imp fun D σ H ⟨ρ, env, hp, B0, hB, st, hr, po⟩ => by
  simp only [ex] at po
  refine ⟨ρ, env, hp, st, hr, ?_⟩
  match e : evn C fs es env hp, po with
  | none, po => exact po.elim
  | some (.err c vs, hp2), po => exact fun ρ' Ca d H' e1 af er => po ρ' σ Ca d H' e1 af (st.mono ck.pm af) er
  | some (.ok ws, hp2), po =>
    intro ρ' vs H' af rw1
    simp only [bns_ok] at po
    match e2 : setsW is ws env, po with
    | none, po => exact po.elim
    | some env', po =>
      have l1 := setsW_len e2
      have l2 := rw1.len
      have hsz : vs.length ≤ sizeLine := Nat.le_trans (by omega : vs.length ≤ 1000) (by decide)
      refine ⟨hsz, fun p hp0 => ?_⟩
      have a2 : Aft N X.K X.mg Θ ρ' hp2 ρ' hp2 H' (L2.upd H' p (.tup vs)) := .new ck.pm af.hpr hp0
      refine ⟨p, vs, rfl, .inl ?_, by omega, tgS_okW e2 (rw1.mono ck.pm a2) ((st.mono ck.pm af).mono ck.pm a2) fun σ' st2 => po ρ' σ' _ (af.trans a2) st2⟩
      exact .inl upd_same
end
end Ev
set_option Elab.async false
set_option linter.all false
set_option maxRecDepth 100000
set_option maxHeartbeats 4000000
/-! Own work: reckoning with the evaluator. -/
namespace Ev.Pl
open PySem PySem.Spec
@[simp] theorem X.rd_d (h : Hs) (z : D) : X.rd h (.d z) = some z := rfl
@[simp] theorem X.rd_u (h : Hs) (m : MO) : X.rd h (.u m) = m.rd := rfl
@[simp] theorem X.rd_r (h : Hs) (j : Nat) : X.rd h (.r j) = (match h[j]? with | some m => m.rd | none => none) := rfl
@[simp] theorem MO.rd_lst (xs : List D) : MO.rd (.lst xs) = some (.lst xs) := rfl
@[simp] theorem MO.rd_lk (xs : List D) : MO.rd (.lk xs) = some (.lst xs) := rfl
@[simp] theorem MO.rd_dct (xs ys : List D) : MO.rd (.dct xs ys) = some (.dct xs ys) := rfl
@[simp] theorem MO.rd_ins (c : Nat) (ys : List D) : MO.rd (.ins c ys) = some (.ins c ys) := rfl
@[simp] theorem MO.toD_lst (xs : List D) : MO.toD (.lst xs) = some (.lst xs) := rfl
@[simp] theorem MO.toD_dct (xs ys : List D) : MO.toD (.dct xs ys) = some (.dct xs ys) := rfl
@[simp] theorem MO.toD_ins (c : Nat) (ys : List D) : MO.toD (.ins c ys) = some (.ins c ys) := rfl
@[simp] theorem X.toD_d (z : D) : X.toD (.d z) = some z := rfl
@[simp] theorem X.toD_u (m : MO) : X.toD (.u m) = m.toD := rfl
@[simp] theorem X.toD_r (j : Nat) : X.toD (.r j) = none := rfl
@[simp] theorem X.toW_d (z : D) : X.toW (.d z) = some (.d z) := rfl
@[simp] theorem X.toW_u (m : MO) : X.toW (.u m) = m.toD.map W.d := rfl
@[simp] theorem X.toW_r (j : Nat) : X.toW (.r j) = some (.r j) := rfl
@[simp] theorem toB_bl (b : Bool) : toB (.d (.bl b)) = some b := rfl
@[simp] theorem argsW_nil : argsW [] = some [] := rfl
@[simp] theorem argsW_cons (x : X) (xs : List X) : argsW (x :: xs) = (match x.toW, argsW xs with | some w, some ws => some (w :: ws) | _, _ => none) := rfl
@[simp] theorem allToD_nil : allToD [] = some [] := rfl
@[simp] theorem allToD_cons (x : X) (xs : List X) : allToD (x :: xs) = (match x.toD, allToD xs with | some w, some ws => some (w :: ws) | _, _ => none) := rfl
@[simp] theorem shut_d (z : D) (h : Hs) : shut (.d z) h = h := rfl
@[simp] theorem shut_u (m : MO) (h : Hs) : shut (.u m) h = h := rfl
@[simp] theorem reopen_d (z : D) (h0 h : Hs) : reopen (.d z) h0 h = h := rfl
@[simp] theorem reopen_u (m : MO) (h0 h : Hs) : reopen (.u m) h0 h = h := rfl
@[simp] theorem fin_d (n : Nat) (z : D) (h : Hs) : fin n (.d z) h = some (.ok (.d z), h.take n) := rfl
@[simp] theorem fin_u (n : Nat) (m : MO) (h : Hs) : fin n (.u m) h = some (.ok (.u m), h.take n) := rfl
@[simp] theorem unbrk_nx (dead : List Nat) (x : X) (h0 h : Hs) (e : Env) : unbrk dead x h0 (some (.nx e, h)) = some (.nx (wipeE e dead), reopen x h0 h) := rfl
@[simp] theorem unbrk_brk (dead : List Nat) (x : X) (h0 h : Hs) (e : Env) : unbrk dead x h0 (some (.brk e, h)) = some (.nx (wipeE e dead), reopen x h0 h) := rfl
@[simp] theorem unbrk_ret (dead : List Nat) (x y : X) (h0 h : Hs) : unbrk dead x h0 (some (.ret y, h)) = some (.ret y, reopen x h0 h) := rfl
@[simp] theorem unbrk_err (dead : List Nat) (x : X) (h0 h : Hs) (e : Env) (c : Nat) (vs : List D) : unbrk dead x h0 (some (.err c vs e, h)) = some (.err c vs e, reopen x h0 h) := rfl
@[simp] theorem wipeE_nil (e : Env) : wipeE e [] = e := rfl
@[simp] theorem wipeE_cons (e : Env) (v : Nat) (vs : List Nat) : wipeE e (v :: vs) = (wipeE e vs).set v none := rfl
@[simp] theorem bindT_one (i : Nat) (d : D) (e : Env) : bindT (.one i) d e = some (e.set i (some (.d d))) := rfl
@[simp] theorem bindT_many (is : List Nat) (ds : List D) (e : Env) : bindT (.many is) (.tup ds) e = bindTs is ds e := rfl
@[simp] theorem bindTs_nil (e : Env) : bindTs [] [] e = some e := rfl
@[simp] theorem bindTs_cons (i : Nat) (is : List Nat) (d : D) (ds : List D) (e : Env) : bindTs (i :: is) (d :: ds) e = bindTs is ds (e.set i (some (.d d))) := rfl

/-! ### the evaluator, a form at a time -/
def seqS (r : RS) (k : Env → Hs → RS) : RS := match r with
  | some (.nx e, h) => k e h
  | r => r
@[simp] theorem seqS_nx (e : Env) (h : Hs) (k : Env → Hs → RS) : seqS (some (.nx e, h)) k = k e h := rfl
@[simp] theorem seqS_brk (e : Env) (h : Hs) (k : Env → Hs → RS) : seqS (some (.brk e, h)) k = some (.brk e, h) := rfl
@[simp] theorem seqS_cont (e : Env) (h : Hs) (k : Env → Hs → RS) : seqS (some (.cont e, h)) k = some (.cont e, h) := rfl
@[simp] theorem seqS_ret (x : X) (h : Hs) (k : Env → Hs → RS) : seqS (some (.ret x, h)) k = some (.ret x, h) := rfl
@[simp] theorem seqS_err (c : Nat) (vs : List D) (e : Env) (h : Hs) (k : Env → Hs → RS) : seqS (some (.err c vs e, h)) k = some (.err c vs e, h) := rfl
@[simp] theorem seqS_none (k : Env → Hs → RS) : seqS none k = none := rfl
@[simp] theorem seqS_ite (c : Prop) [Decidable c] (a b : RS) (k : Env → Hs → RS) : seqS (if c then a else b) k = if c then seqS a k else seqS b k := by split <;> rfl
@[simp] theorem bnd_ite {A B : Type} (c : Prop) [Decidable c] (a b : R A) (k : A → Hs → R B) : bnd (if c then a else b) k = if c then bnd a k else bnd b k := by split <;> rfl
@[simp] theorem bns_ite {A : Type} (c : Prop) [Decidable c] (a b : R A) (e : Env) (k : A → Hs → RS) : bns (if c then a else b) e k = if c then bns a e k else bns b e k := by split <;> rfl
@[simp] theorem endR_nx (n : Nat) (e : Env) (h : Hs) : endR n (some (.nx e, h)) = some (.ok (.d .non), h.take n) := rfl
@[simp] theorem endR_ret (n : Nat) (x : X) (h : Hs) : endR n (some (.ret x, h)) = fin n x h := rfl
@[simp] theorem endR_err (n : Nat) (c : Nat) (vs : List D) (e : Env) (h : Hs) : endR n (some (.err c vs e, h)) = some (.err c vs, h.take n) := rfl
@[simp] theorem endR_ite (n : Nat) (c : Prop) [Decidable c] (a b : RS) : endR n (if c then a else b) = if c then endR n a else endR n b := by split <;> rfl
theorem run_eq (C : Cl) (n : Nat) (b : S) (ws : List W) (h : Hs) : Ev.run C n b ws h = endR h.length (ex C b (startE n ws) h) := rfl
def rdW : Option (Option W) → Hs → R X
  | some (some (.d d)), h => some (.ok (.d d), h)
  | some (some (.r j)), h => some (.ok (.r j), h)
  | _, _ => none
@[simp] theorem rdW_d (d : D) (h : Hs) : rdW (some (some (.d d))) h = some (.ok (.d d), h) := rfl
@[simp] theorem rdW_r (d : Nat) (h : Hs) : rdW (some (some (.r d))) h = some (.ok (.r d), h) := rfl
section
variable (C : Cl) (env : Env) (h : Hs) (a b c : E) (es : E) (i : Nat) (o o2 : Op2)
@[simp] theorem ev_var : ev C (.var i) env h = rdW env[i]? h := by
  unfold ev rdW; rcases env[i]? with _ | _ | _ | _ | _ | _ <;> rfl
@[simp] theorem ev_cst (d : D) : ev C (.cst d) env h = some (.ok (.d d), h) := by simp only [ev]
@[simp] theorem ev_glb : ev C (.glb i) env h = lift ((C.gl i).map .d) h := by simp only [ev]
@[simp] theorem ev_tup : ev C (.tup es) env h = bnd (evs C es env h) fun xs h => lift ((allToD xs).map fun ds => .d (.tup ds)) h := by simp only [ev]
@[simp] theorem ev_lst : ev C (.lst es) env h = bnd (evs C es env h) fun xs h => lift ((allToD xs).map fun ds => .u (.lst ds)) h := by simp only [ev]
@[simp] theorem ev_dct0 : ev C .dct0 env h = some (.ok (.u (.dct [] [])), h) := by simp only [ev]
@[simp] theorem ev_op1 (o : Op1) : ev C (.op1 o a) env h = bnd (ev C a env h) fun x h => lift ((x.rd h).bind (sem1 o)) h := by simp only [ev]
@[simp] theorem ev_op2 : ev C (.op2 o a b) env h = bnd (ev C a env h) fun x h => bnd (ev C b env h) fun y h => lift ((x.rd h).bind fun d => (y.rd h).bind fun e => sem2 o d e) h := by simp only [ev]
@[simp] theorem ev_opm (o : OpM) : ev C (.opm o a b) env h = bnd (ev C a env h) fun x h => bnd (lift ((x.rd h).bind isStr) h) fun _ h => bnd (ev C b env h) fun y h => lift ((x.rd h).bind fun d => (y.rd h).bind fun e => semM o d e) h := by simp only [ev]
@[simp] theorem ev_chain : ev C (.chain o o2 a b c) env h = bnd (ev C a env h) fun x h => bnd (ev C b env h) fun y h =>
      bnd (lift (((x.rd h).bind fun d => (y.rd h).bind fun e => sem2 o d e).bind toB) h) fun k h =>
        if k then bnd (ev C c env h) fun z h => lift ((y.rd h).bind fun d => (z.rd h).bind fun e => sem2 o2 d e) h else some (.ok (.d (.bl false)), h) := by simp only [ev]
@[simp] theorem ev_cut : ev C (.cut a b c) env h = bnd (ev C a env h) fun x h => bnd (evo C b env h) fun l h => bnd (evo C c env h) fun u h => lift ((x.rd h).bind (cutD l u)) h := by simp only [ev]
@[simp] theorem ev_and : ev C (.and a b) env h = bnd (ev C a env h) fun x h => bnd (lift (toB x) h) fun k h => if k then ev C b env h else some (.ok (.d (.bl false)), h) := by simp only [ev]
@[simp] theorem ev_or : ev C (.or a b) env h = bnd (ev C a env h) fun x h => bnd (lift (toB x) h) fun k h => if k then some (.ok (.d (.bl true)), h) else ev C b env h := by simp only [ev]
@[simp] theorem ev_not : ev C (.not a) env h = bnd (ev C a env h) fun x h => lift ((toB x).map fun k => .d (.bl (!k))) h := by simp only [ev]
@[simp] theorem ev_ife : ev C (.ife a b c) env h = bnd (ev C a env h) fun x h => bnd (lift (toB x) h) fun k h => if k then ev C b env h else ev C c env h := by simp only [ev]
@[simp] theorem ev_call : ev C (.call i es) env h = bnd (evs C es env h) fun xs h => bnd (lift (argsW xs) h) fun ws h => C.G i ws h := by simp only [ev]
@[simp] theorem ev_mk : ev C (.mk i es) env h = bnd (evs C es env h) fun xs h => bnd (lift (argsW xs) h) fun ws h => C.mkO i ws h := by simp only [ev]
@[simp] theorem ev_fld : ev C (.fld a i) env h = bnd (ev C a env h) fun x h => lift (((x.rd h).bind (insFld C i)).map .d) h := by simp only [ev]
@[simp] theorem ev_isi (ts : List Ty) : ev C (.isi a ts) env h = bnd (ev C a env h) fun x h => lift (((x.rd h).bind fun d => isiDs C d ts).map fun k => .d (.bl k)) h := by simp only [ev]
def compF (C : Cl) (elt : E) (tg : Tg) (cond : E) (env : Env) (d : D) (h : Hs) : R (Option D) := match bindT tg d env with
        | some env' => bnd (ev C cond env' h) fun x h => bnd (lift (toB x) h) fun k h => if k then bnd (ev C elt env' h) fun y h => lift (y.toD.map some) h else some (.ok none, h)
        | none => none
def compE (p : X × List D) (h : Hs) (r : R (List D)) : R X := match r with
      | some (.ok ds, h') => some (.ok (.u (.lst ds)), reopen p.1 h (h'.take h.length))
      | _ => none
@[simp] theorem compE_ok (p : X × List D) (h : Hs) (ds : List D) (h' : Hs) : compE p h (some (.ok ds, h')) = some (.ok (.u (.lst ds)), reopen p.1 h (h'.take h.length)) := rfl
@[simp] theorem ev_comp (own : List Nat) (tg : Tg) : ev C (.comp own a tg b c) env h = bnd (evi C b env h) fun p h => compE p h (compL (compF C a tg c (wipeE env own)) p.2 (shut p.1 h ++ [.bn])) := by
  simp only [ev]; rfl
@[simp] theorem ev_yes : ev C .yes env h = some (.ok (.d (.bl true)), h) := by simp only [ev]
@[simp] theorem ev_lam : ev C (.lam i a) env h = C.GT i (fun h => ev C a env h) h := by simp only [ev]
@[simp] theorem evs_nil : evs C .nil env h = some (.ok [], h) := by simp only [evs]
@[simp] theorem evs_cons : evs C (.cons a b) env h = bnd (ev C a env h) fun x h => bnd (evs C b env h) fun xs h => some (.ok (x :: xs), h) := by simp only [evs]
@[simp] theorem evo_no : evo C .no env h = some (.ok none, h) := by simp only [evo]
@[simp] theorem evo_some : evo C (.cons a .nil) env h = bnd (ev C a env h) fun x h => lift ((x.rd h).bind opInt) h := by simp only [evo]
def rngD : D → Option (X × List D)
  | .int n => if -(2 ^ 62) ≤ n ∧ n ≤ 16777216 then some (.d .non, rangeD 0 n) else none
  | _ => none
def rngD2 : D → D → Option (X × List D)
  | .int m, .int n => if okR m = true ∧ okR n = true ∧ n - m ≤ 16777216 then some (.d .non, rangeD m n) else none
  | _, _ => none
@[simp] theorem evi_rng : evi C (.rng a) env h = bnd (ev C a env h) fun x h => lift ((x.rd h).bind rngD) h := by simp only [evi]; rfl
@[simp] theorem evi_rng2 : evi C (.rng2 a b) env h = bnd (ev C a env h) fun x h => bnd (ev C b env h) fun y h => lift ((x.rd h).bind fun d => (y.rd h).bind fun e => rngD2 d e) h := by simp only [evi]; rfl
@[simp] theorem evi_enum : evi C (.enum a) env h = bnd (ev C a env h) fun x h => lift ((x.rd h).bind fun d => (seqD2 d).map fun xs => (x, enumD xs)) h := by simp only [evi]
@[simp] theorem evi_zip : evi C (.zip a b) env h = bnd (ev C a env h) fun x h => bnd (ev C b env h) fun y h => lift (zipX h x y) h := by simp only [evi]
@[simp] theorem evi_seq : evi C (.cons a .nil) env h = bnd (ev C a env h) fun x h => lift ((x.rd h).bind fun d => (seqD d).map fun xs => (x, xs)) h := by simp only [evi]
variable (s r : S) (e : E)
@[simp] theorem ex_nil : ex C .nil env h = some (.nx env, h) := by simp only [ex]
@[simp] theorem ex_cons : ex C (.cons s r) env h = seqS (ex C s env h) fun e h => ex C r e h := by
  simp only [ex]
  rcases ex C s env h with _ | ⟨_ | _ | _ | _ | _, _⟩ <;> rfl
@[simp] theorem ex_pass : ex C .pass env h = some (.nx env, h) := by simp only [ex]
@[simp] theorem ex_brk : ex C .brk env h = some (.brk env, h) := by simp only [ex]
@[simp] theorem ex_cont : ex C .cont env h = some (.cont env, h) := by simp only [ex]
def asgS (i : Nat) (env : Env) (h : Hs) : Option W → RS
    | some w => some (.nx (env.set i (some w)), h)
    | none => none
@[simp] theorem asgS_some (w : W) : asgS i env h (some w) = some (.nx (env.set i (some w)), h) := rfl
@[simp] theorem ex_asg : ex C (.asg i e) env h = bns (ev C e env h) env fun x h => asgS i env h x.toW := by simp only [ex]; rfl
@[simp] theorem ex_ret : ex C (.ret e) env h = bns (ev C e env h) env fun x h => some (.ret x, h) := by simp only [ex]
@[simp] theorem ex_retn : ex C .retn env h = some (.ret (.d .non), h) := by simp only [ex]
@[simp] theorem ex_expr : ex C (.expr e) env h = bns (ev C e env h) env fun _ h => some (.nx env, h) := by simp only [ex]
def iftS (C : Cl) (s r : S) (env : Env) (h : Hs) : Option Bool → RS
    | some true => ex C s env h
    | some false => ex C r env h
    | none => none
@[simp] theorem ex_ift : ex C (.ift e s r) env h = bns (ev C e env h) env fun x h => iftS C s r env h (toB x) := by simp only [ex]; rfl
@[simp] theorem iftS_some (k : Bool) : iftS C s r env h (some k) = if k = true then ex C s env h else ex C r env h := by cases k <;> rfl
def rseS (i : Nat) (env : Env) (h : Hs) : Option (List D) → RS
    | some ds => some (.err i ds env, h)
    | none => none
@[simp] theorem rseS_some (ds : List D) : rseS i env h (some ds) = some (.err i ds env, h) := rfl
@[simp] theorem ex_rse : ex C (.rse i es) env h = bns (evs C es env h) env fun xs h => rseS i env h (allToD xs) := by simp only [ex]; rfl
def newS (i : Nat) (env : Env) (h : Hs) : X → RS
    | .u m => some (.nx (env.set i (some (.r h.length))), h ++ [m])
    | _ => none
@[simp] theorem newS_u (m : MO) : newS i env h (.u m) = some (.nx (env.set i (some (.r h.length))), h ++ [m]) := rfl
@[simp] theorem ex_new : ex C (.new i e) env h = bns (ev C e env h) env fun x h => newS i env h x := by simp only [ex]; rfl
def unpS (is : List Nat) (env : Env) (h : Hs) : Option D → RS
    | some (.tup ds) => match bindTs is ds env with
      | some env' => some (.nx env', h)
      | none => none
    | _ => none
@[simp] theorem ex_unp (is : List Nat) : ex C (.unp is e) env h = bns (ev C e env h) env fun x h => unpS is env h (x.rd h) := by simp only [ex]; rfl
def parS (is : List Nat) (env : Env) (h : Hs) : Option (List W) → RS
    | some ws => if ws.length = is.length then some (.nx ((is.zip ws).foldl (fun env p => env.set p.1 (some p.2)) env), h) else none
    | none => none
@[simp] theorem parS_some (is : List Nat) (ws : List W) : parS is env h (some ws) = if ws.length = is.length then some (.nx ((is.zip ws).foldl (fun env p => env.set p.1 (some p.2)) env), h) else none := rfl
@[simp] theorem ex_par (is : List Nat) : ex C (.par is es) env h = bns (evs C es env h) env fun xs h => parS is env h (argsW xs) := by simp only [ex]; rfl
def forF (C : Cl) (tg : Tg) (b : S) (d : D) (env : Env) (h : Hs) : RS := match bindT tg d env with
        | some env' => ex C b env' h
        | none => none
@[simp] theorem ex_for (tg : Tg) (it : E) (b : S) (dead : List Nat) : ex C (.for tg it b dead) env h = bns (evi C it env h) env fun p h =>
      unbrk dead p.1 h (forL (forF C tg b) dead p.2 (wipeE env dead) (shut p.1 h)) := by simp only [ex]; rfl
end
/-- what isinstance can judge -/
def pdK (kc : Nat → Bool) : D → Bool
  | .fn _ => false | .cls _ => false | .ty _ => false | .scr _ => false
  | .ins c _ => kc c
  | _ => true
/-- isinstance -/
def tyB (sub : Nat → Nat → Bool) : Ty → D → Bool
  | .int, .int _ => true | .int, .bl _ => true | .bool, .bl _ => true | .str, .str _ => true | .tuple, .tup _ => true | .list, .lst _ => true | .dict, .dct _ _ => true
  | .own c, .ins c' _ => sub c' c
  | _, _ => false
theorem isiD_pd (C : Cl) (d : D) (h : pdK C.kc d = true) (t : Ty) : isiD C d t = some (tyB C.sub t d) := by
  cases d <;> cases t <;> simp_all [isiD, tyB, pdK]
theorem isi1_pd {C : Cl} {d : D} (h : pdK C.kc d = true) (t : Ty) : isiDs C d [t] = some (tyB C.sub t d) := by
  simp only [isiDs, isiD_pd C d h]; cases tyB C.sub t d <;> rfl
theorem isi2_pd {C : Cl} {d : D} (h : pdK C.kc d = true) (t u : Ty) : isiDs C d [t, u] = some (tyB C.sub t d || tyB C.sub u d) := by
  simp only [isiDs, isiD_pd C d h]; cases tyB C.sub t d <;> cases tyB C.sub u d <;> rfl
@[simp] theorem ite_and (p : Prop) [Decidable p] (c : Bool) (h : Hs) : (if p then some (Out.ok (X.d (.bl c)), h) else some (Out.ok (X.d (.bl false)), h)) = some (Out.ok (X.d (.bl (decide p && c))), h) := by by_cases q : p <;> simp [q]
@[simp] theorem ite_or (p : Prop) [Decidable p] (c : Bool) (h : Hs) : (if p then some (Out.ok (X.d (.bl true)), h) else some (Out.ok (X.d (.bl c)), h)) = some (Out.ok (X.d (.bl (decide p || c))), h) := by by_cases q : p <;> simp [q]
/-- one turn of a comprehension at a time -/
theorem compL_map {A : Type} {f : D → Hs → R (Option D)} {h : Hs} {g : A → D} (F : A → D) : ∀ (xs : List A), (∀ x ∈ xs, f (g x) h = some (.ok (some (F x)), h)) → compL f (xs.map g) h = some (.ok (xs.map F), h)
  | [], _ => rfl
  | x :: xs, H => by
    have h1 := H x (List.mem_cons_self ..)
    have h2 := compL_map (f := f) (h := h) (g := g) F xs fun y hy => H y (List.mem_cons_of_mem _ hy)
    simp only [List.map_cons, compL, h1, h2]
theorem compL_filter {A : Type} {f : D → Hs → R (Option D)} {h : Hs} {g : A → D} (F : A → Option D) : ∀ (xs : List A), (∀ x ∈ xs, f (g x) h = some (.ok (F x), h)) → compL f (xs.map g) h = some (.ok (xs.filterMap F), h)
  | [], _ => rfl
  | x :: xs, H => by
    have h1 := H x (List.mem_cons_self ..)
    have h2 := compL_filter (f := f) (h := h) (g := g) F xs fun y hy => H y (List.mem_cons_of_mem _ hy)
    simp only [List.map_cons, compL, h1, h2, List.filterMap_cons]
    cases F x <;> rfl
@[simp] theorem compL_nil (f : D → Hs → R (Option D)) (h : Hs) : compL f [] h = some (.ok [], h) := rfl
@[simp] theorem blsD_nil : blsD [] = some [] := rfl
@[simp] theorem blsD_cons (b : Bool) (xs : List D) : blsD (.bl b :: xs) = (blsD xs).map (b :: ·) := rfl
@[simp] theorem intsD_nil : intsD [] = some [] := rfl
@[simp] theorem intsD_cons (b : Int) (xs : List D) : intsD (.int b :: xs) = (intsD xs).map (b :: ·) := rfl
@[simp] theorem strsD_nil : strsD [] = some [] := rfl
@[simp] theorem strsD_cons (b : Str) (xs : List D) : strsD (.str b :: xs) = (strsD xs).map (b :: ·) := rfl
theorem compL_one {f : D → Hs → R (Option D)} {h : Hs} (F : D → D) {xs : List D} (H : ∀ x ∈ xs, f x h = some (.ok (some (F x)), h)) : compL f xs h = some (.ok (xs.map F), h) := by
  have := compL_map (f := f) (h := h) (g := id) F xs H
  simpa using this
theorem compL_to {A : Type} {g : A → D} {f : D → Hs → R (Option D)} {h : Hs} (F : A → D) {xs : List A} (H : ∀ x ∈ xs, f (g x) h = some (.ok (some (F x)), h)) : compL f (xs.map g) h = some (.ok (xs.map F), h) := compL_map F xs H
theorem compL_fil {A : Type} {g : A → D} {f : D → Hs → R (Option D)} {h : Hs} (F : A → Option D) {xs : List A} (H : ∀ x ∈ xs, f (g x) h = some (.ok (F x), h)) : compL f (xs.map g) h = some (.ok (xs.filterMap F), h) := compL_filter F xs H
@[simp] theorem compL_pure (F : D → D) (ds : List D) (h : Hs) : compL (fun d h => some (.ok (some (F d)), h)) ds h = some (.ok (ds.map F), h) := by
  have := compL_map (f := fun d h => some (.ok (some (F d)), h)) (h := h) (g := id) F ds fun _ _ => rfl
  simpa using this
@[simp] theorem blsD_map {A : Type} (p : A → Bool) : ∀ xs : List A, blsD (xs.map fun x => D.bl (p x)) = some (xs.map p)
  | [] => rfl
  | x :: xs => by simp [blsD, blsD_map p xs]
@[simp] theorem intsD_map {A : Type} (p : A → Int) : ∀ xs : List A, intsD (xs.map fun x => D.int (p x)) = some (xs.map p)
  | [] => rfl
  | x :: xs => by simp [intsD, intsD_map p xs]
@[simp] theorem strsD_map {A : Type} (p : A → Str) : ∀ xs : List A, strsD (xs.map fun x => D.str (p x)) = some (xs.map p)
  | [] => rfl
  | x :: xs => by simp [strsD, strsD_map p xs]
/-! ### operators -/
section
variable (i j : Int) (xs ys : List D) (a b : D)
@[simp] theorem dI_eq : dI i = some (.d (.int i)) := rfl
@[simp] theorem dB_eq (b : Bool) : dB b = some (.d (.bl b)) := rfl
@[simp] theorem dS_eq (b : Str) : dS b = some (.d (.str b)) := rfl
@[simp] theorem o_add : sem2 .add (.int i) (.int j) = some (.d (.int (i + j))) := rfl
@[simp] theorem o_sub : sem2 .sub (.int i) (.int j) = some (.d (.int (i - j))) := rfl
theorem o_mul (h : okMul i j = true) : sem2 .mul (.int i) (.int j) = some (.d (.int (i * j))) := by simp [sem2, mulD, h]
theorem o_fdiv (h : j ≠ 0) (h2 : j.natAbs < 1073741824) : sem2 .fdiv (.int i) (.int j) = some (.d (.int (i.fdiv j))) := by simp [sem2, h, h2]
theorem o_mod (h : j ≠ 0) : sem2 .mod (.int i) (.int j) = some (.d (.int (i.fmod j))) := by simp [sem2, h]
theorem o_pow (h : 0 ≤ j) (h2 : j ≤ 1000000) (h3 : i.natAbs < 2 ^ 64) : sem2 .pow (.int i) (.int j) = some (.d (.int (i ^ j.toNat))) := by simp only [sem2, h, h2, h3]; rfl
@[simp] theorem o_eq : sem2 .eq a b = (eqD a b).map fun k => .d (.bl k) := rfl
@[simp] theorem o_ne : sem2 .ne a b = (eqD a b).map fun k => .d (.bl (!k)) := rfl
@[simp] theorem o_lt : sem2 .lt (.int i) (.int j) = some (.d (.bl (decide (i < j)))) := rfl
@[simp] theorem o_le : sem2 .le (.int i) (.int j) = some (.d (.bl (decide (i ≤ j)))) := rfl
@[simp] theorem o_gt : sem2 .gt (.int i) (.int j) = some (.d (.bl (decide (j < i)))) := rfl
@[simp] theorem o_ge : sem2 .ge (.int i) (.int j) = some (.d (.bl (decide (j ≤ i)))) := rfl
@[simp] theorem o_in : sem2 .isin a b = (inD a b).map fun k => .d (.bl k) := rfl
@[simp] theorem o_nin : sem2 .notin a b = (inD a b).map fun k => .d (.bl (!k)) := rfl
@[simp] theorem o_is : sem2 .is a .non = some (.d (.bl (isNon a))) := rfl
@[simp] theorem o_isnot : sem2 .isnot a .non = some (.d (.bl (!isNon a))) := rfl
@[simp] theorem o_ixt : sem2 .ix (.tup xs) (.int i) = (getD xs i).map .d := rfl
@[simp] theorem o_ixl : sem2 .ix (.lst xs) (.int i) = (getD xs i).map .d := rfl
theorem o_addt (h : xs.length + ys.length ≤ sizeLine) : sem2 .add (.tup xs) (.tup ys) = some (.d (.tup (xs ++ ys))) := by simp [sem2, addD, h]
theorem o_addl (h : xs.length + ys.length ≤ sizeLine) : sem2 .add (.lst xs) (.lst ys) = some (.u (.lst (xs ++ ys))) := by simp [sem2, addD, h]
@[simp] theorem u_neg : sem1 .neg (.int i) = some (.d (.int (-i))) := rfl
@[simp] theorem u_lent : sem1 .len (.tup xs) = some (.d (.int xs.length)) := rfl
@[simp] theorem u_lenl : sem1 .len (.lst xs) = some (.d (.int xs.length)) := rfl
@[simp] theorem u_lens (ns : List Int) : sem1 .len (.scr ns) = some (.d (.int ns.length)) := rfl
@[simp] theorem u_sum : sem1 .sum (.lst xs) = (intsD xs).map fun ns => .d (.int ns.sum) := rfl
@[simp] theorem u_all : sem1 .all (.lst xs) = (blsD xs).map fun bs => .d (.bl (bs.all id)) := rfl
@[simp] theorem u_any : sem1 .any (.lst xs) = (blsD xs).map fun bs => .d (.bl (bs.any id)) := rfl
@[simp] theorem u_tupl : sem1 .tuple (.lst xs) = some (.d (.tup xs)) := rfl
@[simp] theorem u_tupt : sem1 .tuple (.tup xs) = some (.d (.tup xs)) := rfl
@[simp] theorem u_lstl : sem1 .list (.lst xs) = some (.u (.lst xs)) := rfl
@[simp] theorem u_lstt : sem1 .list (.tup xs) = some (.u (.lst xs)) := rfl
@[simp] theorem u_int : sem1 .int (.int i) = some (.d (.int i)) := rfl
@[simp] theorem u_intb (b : Bool) : sem1 .int (.bl b) = some (.d (.int (if b then 1 else 0))) := rfl
@[simp] theorem u_bool : sem1 .bool (.int i) = some (.d (.bl (i != 0))) := rfl
@[simp] theorem u_abs : sem1 .abs (.int i) = some (.d (.int (if i < 0 then -i else i))) := rfl
@[simp] theorem seqD_lst : seqD (.lst xs) = some xs := rfl
@[simp] theorem seqD_tup : seqD (.tup xs) = some xs := rfl
@[simp] theorem seqD2_lst : seqD2 (.lst xs) = some xs := rfl
@[simp] theorem seqD2_tup : seqD2 (.tup xs) = some xs := rfl
@[simp] theorem cutD_tup (lo hi : Option Int) : cutD lo hi (.tup xs) = some (.d (.tup (cutL xs lo hi))) := rfl
@[simp] theorem cutD_lst (lo hi : Option Int) : cutD lo hi (.lst xs) = some (.u (.lst (cutL xs lo hi))) := rfl
@[simp] theorem cutD_scr (ns : List Int) (lo hi : Option Int) : cutD lo hi (.scr ns) = some (.u (.lst ((cutL ns lo hi).map .int))) := rfl
@[simp] theorem opInt_int : opInt (.int i) = some (some i) := rfl
@[simp] theorem isStr_str (s : Str) : isStr (.str s) = some () := rfl
theorem rngD_int (h : i ≤ 16777216) (h2 : -(2 ^ 62) ≤ i) : rngD (.int i) = some (.d .non, (List.range i.toNat).map fun (k : Nat) => D.int (k : Int)) := by
  simp only [rngD]; rw [if_pos ⟨h2, h⟩]; simp [rangeD]
end
@[simp high] theorem u_all_map {A : Type} (p : A → Bool) (xs : List A) : sem1 .all (.lst (xs.map fun x => D.bl (p x))) = some (.d (.bl (xs.all p))) := by
  simp only [u_all, blsD_map]; simp [List.all_map, Function.comp_def]
@[simp high] theorem u_any_map {A : Type} (p : A → Bool) (xs : List A) : sem1 .any (.lst (xs.map fun x => D.bl (p x))) = some (.d (.bl (xs.any p))) := by
  simp only [u_any, blsD_map]; simp [List.any_map, Function.comp_def]
@[simp] theorem intsD_ints (ns : List Int) : intsD (ns.map .int) = some ns := by
  have := intsD_map id ns; simpa using this
@[simp] theorem insFld_ins (C : Cl) (f c : Nat) (vs : List D) : insFld C f (.ins c vs) = (match C.nf c f with | some i => vs[i]? | none => none) := rfl
/-! ### loops -/
def exits : Fl → Bool
  | .nx _ => false | .cont _ => false | _ => true
/-- what a for comes to that ends at the first item of which q tells -/
def forRes {A K : Type} (q : A → Option K) (F : A → K → Fl) (nx : Fl) (h : Hs) : List A → RS
  | [] => some (nx, h)
  | x :: xs => match q x with
    | some k => some (F x k, h)
    | none => forRes q F nx h xs
theorem forRes_some {A K : Type} {q : A → Option K} {F : A → K → Fl} {nx : Fl} {h : Hs} {k : K} : ∀ {xs : List A}, xs.findSome? q = some k → ∃ x ∈ xs, forRes q F nx h xs = some (F x k, h)
  | [], e => by cases e
  | x :: xs, e => by
    simp only [List.findSome?_cons] at e
    cases hq : q x with
    | some k' => rw [hq] at e; cases e; exact ⟨x, List.mem_cons_self .., by simp [forRes, hq]⟩
    | none =>
      rw [hq] at e
      obtain ⟨y, hy, z⟩ := forRes_some (F := F) (nx := nx) (h := h) e
      exact ⟨y, List.mem_cons_of_mem _ hy, by simp [forRes, hq, z]⟩
theorem forRes_none {A K : Type} {q : A → Option K} {F : A → K → Fl} {nx : Fl} {h : Hs} : ∀ {xs : List A}, xs.findSome? q = none → forRes q F nx h xs = some (nx, h)
  | [], _ => rfl
  | x :: xs, e => by
    simp only [List.findSome?_cons] at e
    cases hq : q x with
    | some k' => rw [hq] at e; cases e
    | none => rw [hq] at e; simp [forRes, hq, forRes_none (F := F) (nx := nx) (h := h) e]
theorem forL_exit1 {A Z K : Type} {f : D → Env → Hs → RS} {h : Hs} {g : A → D} (E : Z → Env) (u : A → Z → Z) (q : A → Option K) (F : A → K → Fl) (he : ∀ x k, exits (F x k) = true) : ∀ (xs : List A) (z : Z),
    (∀ x ∈ xs, ∀ z, f (g x) (E z) h = match q x with | some k => some (F x k, h) | none => some (.nx (E (u x z)), h)) →
    forL f [] (xs.map g) (E z) h = forRes q F (.nx (E (xs.foldl (fun z x => u x z) z))) h xs
  | [], z, H => rfl
  | x :: xs, z, H => by
    have h1 := H x (List.mem_cons_self ..) z
    have h2 := forL_exit1 E u q F he xs (u x z) fun y hy => H y (List.mem_cons_of_mem _ hy)
    cases e : q x with
    | some k =>
      have := he x k
      rw [e] at h1
      simp only [List.map_cons, forL, forRes, e, h1]
      cases hf : F x k <;> first | rfl | simp [hf, exits] at this
    | none =>
      rw [e] at h1
      simp only [List.map_cons, forL, forRes, e, h1]
      simpa using h2
theorem forL_exit {A Z K : Type} {f : D → Env → Hs → RS} {h : Hs} {env : Env} {g : A → D} {xs : List A} (E : Z → Env) (u : A → Z → Z) (q : A → Option K) (F : A → K → Fl) (z : Z) (e0 : E z = env) (he : ∀ x k, exits (F x k) = true)
    (H : ∀ x ∈ xs, ∀ z, f (g x) (E z) h = match q x with | some k => some (F x k, h) | none => some (.nx (E (u x z)), h)) :
    forL f [] (xs.map g) env h = forRes q F (.nx (E (xs.foldl (fun z x => u x z) z))) h xs := e0 ▸ forL_exit1 E u q F he xs z H
/-- a for that keeps something, item by item -/
theorem forL_inv {A : Type} {f : D → Env → Hs → RS} {g : A → D} (J : List A → Env → Hs → Prop) : ∀ (xs : List A) (env : Env) (h : Hs), J xs env h →
    (∀ x xs env h, J (x :: xs) env h → ∃ env' h', f (g x) env h = some (.nx env', h') ∧ J xs env' h') → ∃ env' h', forL f [] (xs.map g) env h = some (.nx env', h') ∧ J [] env' h'
  | [], env, h, i, _ => ⟨env, h, rfl, i⟩
  | x :: xs, env, h, i, H => by
    obtain ⟨env1, h1, e1, i1⟩ := H x xs env h i
    obtain ⟨env2, h2, e2, i2⟩ := forL_inv J xs env1 h1 i1 H
    exact ⟨env2, h2, by simp only [List.map_cons, forL, e1]; simpa using e2, i2⟩
@[simp] theorem take_plus {A : Type} (h xs : List A) (k : Nat) : (h ++ xs).take (h.length + k) = h ++ xs.take k := by
  rw [List.take_append]; simp
  exact List.take_of_length_le (by omega)
@[simp] theorem take_set_self {A : Type} (h : List A) (j : Nat) (v : A) : (h.set j v).take h.length = h.set j v := List.take_of_length_le (by simp)
@[simp] theorem at_end {A : Type} (h : List A) (x : A) (xs : List A) : (h ++ x :: xs)[h.length]? = some x := by simp
@[simp] theorem set_end {A : Type} (h : List A) (x y : A) (xs : List A) : (h ++ x :: xs).set h.length y = h ++ y :: xs := by simp
theorem enumD_map {A : Type} (e : A → D) (xs : List A) : enumD (xs.map e) = xs.zipIdx.map fun p => D.tup [.int (p.2 : Int), e p.1] := by
  simp [enumD, List.zipIdx_map, Function.comp_def]
theorem findSome_map {A B C : Type} (q : A → Option B) (F : B → C) : ∀ xs : List A, xs.findSome? (fun x => (q x).map F) = (xs.findSome? q).map F
  | [] => rfl
  | x :: xs => by
    simp only [List.findSome?_cons]
    cases q x with
    | none => simpa using findSome_map q F xs
    | some b => rfl
section
variable (C : Cl) (env : Env) (h : Hs) (e : E)
def setfS (i c f : Nat) (env : Env) (h : Hs) (y : X) : RS := match env[i]? with
    | some (some (.r j)) => match y.toD, h[j]? with
      | some d, some (.ins c' ws) => if ws.length = f ∧ c' = c then some (.nx env, h.set j (.ins c' (ws ++ [d]))) else none
      | _, _ => none
    | _ => none
@[simp] theorem ex_setf (i c f : Nat) : ex C (.setf i c f e) env h = bns (ev C e env h) env fun y h => setfS i c f env h y := by simp only [ex]; rfl
theorem setfS_eq {i c f j : Nat} {y : X} {d : D} {ws : List D} (h1 : env[i]? = some (some (.r j))) (h2 : y.toD = some d) (h3 : h[j]? = some (.ins c ws)) (h4 : ws.length = f) : setfS i c f env h y = some (.nx env, h.set j (.ins c (ws ++ [d]))) := by
  simp [setfS, h1, h2, h3, h4]
end
section
variable (C : Cl) (env : Env) (h : Hs) (e : E)
def setxT (i : Nat) (env : Env) (h : Hs) (k : D) (d : D) (j : Nat) : RS := match k, h[j]? with
        | .int n, some (.lst xs) => match ixN xs.length n with
          | some m => some (.nx env, h.set j (.lst (xs.set m d)))
          | none => none
        | _, _ => none
def setxS (C : Cl) (i : Nat) (k : E) (env : Env) (h : Hs) (y : X) : RS := match env[i]? with
    | some (some (.r j)) => bns (ev C k env h) env fun z h => match y.toD, z.rd h with
      | some d, some kd => setxT i env h kd d j
      | _, _ => none
    | _ => none
@[simp] theorem ex_setx (i : Nat) (k : E) : ex C (.setx i k e) env h = bns (ev C e env h) env fun y h => setxS C i k env h y := by
  simp only [ex]
  congr 1
  funext y h
  unfold setxS
  rcases env[i]? with _ | _ | _ | j | _ | _
  · rfl
  · rfl
  · rfl
  · show bns _ _ _ = bns _ _ _
    congr 1
    funext z h
    unfold setxT
    cases y.toD with
    | none => cases z.rd h <;> rfl
    | some d =>
      cases z.rd h with
      | none => rfl
      | some k =>
        cases k <;> first | rfl | (rcases h[j]? with _ | _ | _ | _ | _ | _ | _ <;> rfl)
  · rfl
  · rfl
theorem setxS_eq {i j : Nat} {k : E} {y : X} {d : D} {n : Int} {xs : List D} {m : Nat} (h1 : env[i]? = some (some (.r j))) (h2 : ev C k env h = some (.ok (.d (.int n)), h)) (h3 : y.toD = some d) (h4 : h[j]? = some (.lst xs)) (h5 : ixN xs.length n = some m) :
    setxS C i k env h y = some (.nx env, h.set j (.lst (xs.set m d))) := by
  simp [setxS, h1, h2, h3, setxT, h4, h5]
end
theorem getD_nat {xs : List D} {i : Nat} (h : i < xs.length) : getD xs (i : Int) = some xs[i] := by
  have h1 : L2.ixN xs.length (i : Int) = some i := by unfold L2.ixN; rw [if_pos (by omega), if_pos (by omega)]; simp
  simp [getD, L2.atI, h1, h]
theorem getD_int {xs : List D} {i : Int} (h0 : 0 ≤ i) (h : i < xs.length) : getD xs i = xs[i.toNat]? := by
  obtain ⟨n, rfl⟩ := Int.eq_ofNat_of_zero_le h0
  rw [getD_nat (by omega)]; simp
@[simp] theorem getD_0 (a : D) (xs : List D) : getD (a :: xs) 0 = some a := getD_nat (xs := a :: xs) (i := 0) (by simp)
@[simp] theorem getD_1 (a b : D) (xs : List D) : getD (a :: b :: xs) 1 = some b := getD_nat (xs := a :: b :: xs) (i := 1) (by simp)
@[simp] theorem getD_2 (a b c : D) (xs : List D) : getD (a :: b :: c :: xs) 2 = some c := getD_nat (xs := a :: b :: c :: xs) (i := 2) (by simp)
@[simp] theorem getD_3 (a b c d : D) (xs : List D) : getD (a :: b :: c :: d :: xs) 3 = some d := getD_nat (xs := a :: b :: c :: d :: xs) (i := 3) (by simp)
@[simp] theorem getD_4 (a b c d e : D) (xs : List D) : getD (a :: b :: c :: d :: e :: xs) 4 = some e := getD_nat (xs := a :: b :: c :: d :: e :: xs) (i := 4) (by simp)
theorem getD_m1 (xs : List D) (h : xs ≠ []) : getD xs (-1) = some (xs.getLast h) := by
  have h0 : 0 < xs.length := List.length_pos_iff.mpr h
  have h1 : L2.ixN xs.length (-1) = some (xs.length - 1) := by
    unfold L2.ixN
    rw [if_neg (by omega), if_pos (by omega)]
    congr 1; omega
  simp [getD, L2.atI, h1, List.getLast_eq_getElem]
theorem cutL_map {A B : Type} (f : A → B) (xs : List A) (lo hi : Option Int) : cutL (xs.map f) lo hi = (cutL xs lo hi).map f := by
  simp [cutL]
theorem cutL_init {A : Type} (xs : List A) : cutL xs none (some (-1)) = xs.dropLast := by
  have h1 : HT.sIx xs.length 0 none = 0 := rfl
  have h2 : HT.sIx xs.length xs.length (some (-1)) = xs.length - 1 := by
    show (if (-1 : Int) < 0 then ((-1 : Int) + (xs.length : Int)).toNat else min (-1 : Int).toNat xs.length) = _
    rw [if_pos (by decide)]; omega
  simp [cutL, h1, h2, List.dropLast_eq_take]
theorem zipD_self : ∀ xs : List D, zipD xs xs = xs.map fun x => .tup [x, x]
  | [] => rfl
  | x :: xs => by
    have := zipD_self xs
    simp only [zipD, List.zip_cons_cons, List.map_cons] at this ⊢
    rw [this]
theorem zipD_map {A B : Type} (f : A → D) (g : B → D) : ∀ (xs : List A) (ys : List B), zipD (xs.map f) (ys.map g) = (xs.zip ys).map fun p => .tup [f p.1, g p.2]
  | [], _ => rfl
  | _ :: _, [] => rfl
  | x :: xs, y :: ys => by
    have := zipD_map f g xs ys
    simp only [zipD, List.map_cons, List.zip_cons_cons] at this ⊢
    rw [this]
theorem flat1 {A B : Type} (f : A → B) : ∀ xs : List A, (xs.map fun a => [f a]).flatten = xs.map f
  | [] => rfl
  | x :: xs => by simp [flat1 f xs]
theorem sum1 {A : Type} : ∀ xs : List A, (xs.map fun _ => 1).sum = xs.length
  | [] => rfl
  | x :: xs => by simp [sum1 xs]; omega
theorem findSome_congr {A B : Type} {f g : A → Option B} : ∀ {xs : List A}, (∀ x ∈ xs, f x = g x) → xs.findSome? f = xs.findSome? g
  | [], _ => rfl
  | x :: xs, h => by simp only [List.findSome?_cons, h x (List.mem_cons_self ..), findSome_congr (xs := xs) fun y hy => h y (List.mem_cons_of_mem _ hy)]
/-! ### deep things -/
mutual
/-- what isinstance can judge, through and through -/
def dpK (kc : Nat → Bool) : D → Bool
  | .fn _ => false | .cls _ => false | .ty _ => false | .scr _ => false
  | .ins c _ => kc c
  | .tup xs => dpKs kc xs
  | .lst xs => dpKs kc xs
  | _ => true
def dpKs (kc : Nat → Bool) : List D → Bool
  | [] => true
  | x :: xs => dpK kc x && dpKs kc xs
end
theorem dpKs_all (kc : Nat → Bool) : ∀ xs, dpKs kc xs = xs.all (dpK kc)
  | [] => rfl
  | x :: xs => by simp [dpKs, dpKs_all kc xs]
@[simp] theorem dpK_tup (kc : Nat → Bool) (xs : List D) : dpK kc (.tup xs) = xs.all (dpK kc) := by rw [← dpKs_all]; rfl
@[simp] theorem dpK_lst (kc : Nat → Bool) (xs : List D) : dpK kc (.lst xs) = xs.all (dpK kc) := by rw [← dpKs_all]; rfl
@[simp] theorem dpK_int (kc : Nat → Bool) (i : Int) : dpK kc (.int i) = true := rfl
@[simp] theorem dpK_str (kc : Nat → Bool) (i : Str) : dpK kc (.str i) = true := rfl
@[simp] theorem dpK_bl (kc : Nat → Bool) (i : Bool) : dpK kc (.bl i) = true := rfl
@[simp] theorem dpK_non (kc : Nat → Bool) : dpK kc .non = true := rfl
@[simp] theorem dpK_dct (kc : Nat → Bool) (xs ys : List D) : dpK kc (.dct xs ys) = true := rfl
@[simp] theorem pdK_tup (kc : Nat → Bool) (xs : List D) : pdK kc (.tup xs) = true := rfl
@[simp] theorem pdK_lst (kc : Nat → Bool) (xs : List D) : pdK kc (.lst xs) = true := rfl
@[simp] theorem pdK_int (kc : Nat → Bool) (i : Int) : pdK kc (.int i) = true := rfl
@[simp] theorem pdK_str (kc : Nat → Bool) (i : Str) : pdK kc (.str i) = true := rfl
@[simp] theorem pdK_bl (kc : Nat → Bool) (i : Bool) : pdK kc (.bl i) = true := rfl
@[simp] theorem pdK_non (kc : Nat → Bool) : pdK kc .non = true := rfl
@[simp] theorem pdK_dct (kc : Nat → Bool) (xs ys : List D) : pdK kc (.dct xs ys) = true := rfl
theorem pd_of_dp {kc : Nat → Bool} {d : D} (h : dpK kc d = true) : pdK kc d = true := by cases d <;> first | rfl | exact h
/-! ### == of embedded things -/
structure Emb {A : Type} [DecidableEq A] (e : A → D) (ok : A → Prop) (k : Nat) : Prop where
  py : ∀ a, ok a → ∃ p, (e a).py = some p ∧ p.canLay0 = true ∧ p.depth ≤ k
  eq : ∀ a b p q, ok a → ok b → (e a).py = some p → (e b).py = some q → PyData.eqv p q = decide (a = b)
theorem Emb.int : Emb D.int (fun _ => True) 0 where
  py a _ := ⟨.int a, by simp [D.py], rfl, by simp [PyData.depth]⟩
  eq a b p q _ _ h1 h2 := by simp [D.py] at h1 h2; subst h1; subst h2; by_cases e : a = b <;> simp [PyData.eqv, e]
theorem Emb.str : Emb D.str (fun s => PyData.strOk s = true) 0 where
  py a h := ⟨.str a, by simp [D.py], by simp only [PyData.canLay0]; exact h, by simp [PyData.depth]⟩
  eq a b p q _ _ h1 h2 := by simp [D.py] at h1 h2; subst h1; subst h2; by_cases e : a = b <;> simp [PyData.eqv, e]
theorem Emb.bl : Emb D.bl (fun _ => True) 0 where
  py a _ := ⟨.bool a, by simp [D.py], rfl, by simp [PyData.depth]⟩
  eq a b p q _ _ h1 h2 := by simp [D.py] at h1 h2; subst h1; subst h2; by_cases e : a = b <;> simp [PyData.eqv, e]
section
variable {A : Type} [DecidableEq A] {e : A → D} {ok : A → Prop} {k : Nat}
theorem Emb.pys (E : Emb e ok k) : ∀ xs : List A, (∀ x ∈ xs, ok x) → ∃ ps, D.pys (xs.map e) = some ps ∧ PyData.canLayAll0 ps = true ∧ PyData.depthAll ps ≤ k
  | [], _ => ⟨[], rfl, rfl, by simp [PyData.depthAll]⟩
  | x :: xs, h => by
    obtain ⟨p, p1, p2, p3⟩ := E.py x (h x (List.mem_cons_self ..))
    obtain ⟨ps, q1, q2, q3⟩ := E.pys xs fun y hy => h y (List.mem_cons_of_mem _ hy)
    exact ⟨p :: ps, by simp [D.pys, p1, q1], by simp [PyData.canLayAll0, p2, q2], by simp [PyData.depthAll]; omega⟩
theorem Emb.eqs (E : Emb e ok k) : ∀ (xs ys : List A) (ps qs : List PyData), (∀ x ∈ xs, ok x) → (∀ x ∈ ys, ok x) → D.pys (xs.map e) = some ps → D.pys (ys.map e) = some qs → PyData.eqvAll ps qs = decide (xs = ys)
  | [], [], ps, qs, _, _, h1, h2 => by simp [D.pys] at h1 h2; subst h1; subst h2; rfl
  | [], y :: ys, ps, qs, _, _, h1, h2 => by
    simp only [List.map_cons, D.pys] at h2
    split at h2
    · cases h2; simp [D.pys] at h1; subst h1; rfl
    · cases h2
  | x :: xs, [], ps, qs, _, _, h1, h2 => by
    simp only [List.map_cons, D.pys] at h1
    split at h1
    · cases h1; simp [D.pys] at h2; subst h2; rfl
    · cases h1
  | x :: xs, y :: ys, ps, qs, hx, hy, h1, h2 => by
    simp only [List.map_cons, D.pys] at h1 h2
    split at h1
    · rename_i p ps' e1 e2
      cases h1
      split at h2
      · rename_i q qs' e3 e4
        cases h2
        have a1 := E.eq x y p q (hx x (List.mem_cons_self ..)) (hy y (List.mem_cons_self ..)) e1 e3
        have a2 := E.eqs xs ys ps' qs' (fun z hz => hx z (List.mem_cons_of_mem _ hz)) (fun z hz => hy z (List.mem_cons_of_mem _ hz)) e2 e4
        simp [PyData.eqvAll, a1, a2]
      · cases h2
    · cases h1
theorem Emb.tup (E : Emb e ok k) : Emb (fun xs : List A => D.tup (xs.map e)) (fun xs => ∀ x ∈ xs, ok x) (k + 1) where
  py a h := by
    obtain ⟨ps, q1, q2, q3⟩ := E.pys a h
    exact ⟨.tuple ps, by simp [D.py, q1], by simp [PyData.canLay0, q2], by simp [PyData.depth, q3]⟩
  eq a b p q h1 h2 e1 e2 := by
    obtain ⟨ps, q1, q2, q3⟩ := E.pys a h1
    obtain ⟨qs, r1, r2, r3⟩ := E.pys b h2
    simp [D.py, q1] at e1
    simp [D.py, r1] at e2
    subst e1; subst e2
    simp [PyData.eqv, E.eqs a b ps qs h1 h2 q1 r1]
theorem Emb.lst (E : Emb e ok k) : Emb (fun xs : List A => D.lst (xs.map e)) (fun xs => ∀ x ∈ xs, ok x) (k + 1) where
  py a h := by
    obtain ⟨ps, q1, q2, q3⟩ := E.pys a h
    exact ⟨.list ps, by simp [D.py, q1], by simp [PyData.canLay0, q2], by simp [PyData.depth, q3]⟩
  eq a b p q h1 h2 e1 e2 := by
    obtain ⟨ps, q1, q2, q3⟩ := E.pys a h1
    obtain ⟨qs, r1, r2, r3⟩ := E.pys b h2
    simp [D.py, q1] at e1
    simp [D.py, r1] at e2
    subst e1; subst e2
    simp [PyData.eqv, E.eqs a b ps qs h1 h2 q1 r1]
theorem Emb.eqD (E : Emb e ok k) (hk : k ≤ 64) {a b : A} (ha : ok a) (hb : ok b) : Ev.eqD (e a) (e b) = some (decide (a = b)) := by
  obtain ⟨p, p1, p2, p3⟩ := E.py a ha
  obtain ⟨q, q1, q2, q3⟩ := E.py b hb
  have s1 : SeqAt.shaped p = true := by simp [SeqAt.shaped, p2]; omega
  have s2 : SeqAt.shaped q = true := by simp [SeqAt.shaped, q2]; omega
  unfold Ev.eqD
  simp [p1, q1, s1, s2, E.eq a b p q ha hb p1 q1]
end
@[simp] theorem eqD_int (i j : Int) : Ev.eqD (.int i) (.int j) = some (decide (i = j)) := Emb.int.eqD (by decide) trivial trivial
@[simp] theorem eqD_bl (i j : Bool) : Ev.eqD (.bl i) (.bl j) = some (decide (i = j)) := Emb.bl.eqD (by decide) trivial trivial
theorem eqD_str {i j : Str} (h1 : PyData.strOk i = true) (h2 : PyData.strOk j = true) : Ev.eqD (.str i) (.str j) = some (decide (i = j)) := Emb.str.eqD (by decide) h1 h2
theorem eqD_ints (i j : List Int) : Ev.eqD (.tup (i.map .int)) (.tup (j.map .int)) = some (decide (i = j)) := Emb.int.tup.eqD (by decide) (fun _ _ => trivial) (fun _ _ => trivial)
theorem eqD_tabs (i j : List (List Int)) : Ev.eqD (.tup (i.map fun t => .tup (t.map .int))) (.tup (j.map fun t => .tup (t.map .int))) = some (decide (i = j)) := Emb.int.tup.tup.eqD (by decide) (fun _ _ _ _ => trivial) (fun _ _ _ _ => trivial)
@[simp] theorem take_self {A : Type} (h : List A) (xs : List A) : (h ++ xs).take h.length = h := List.take_left
end Ev.Pl
set_option Elab.async false
set_option linter.all false
set_option maxRecDepth 100000
set_option maxHeartbeats 4000000
/-! Own work: texts as lists of signs. -/
namespace Ev.Pl
open PySem PySem.Spec
def ofL (l : List Nat) : Str := ⟨l.toArray⟩
@[simp] theorem tl_ofL (l : List Nat) : TL.tl (ofL l) = l := rfl
@[simp] theorem cps_ofL (l : List Nat) : (ofL l).cps.toList = l := rfl
@[simp] theorem ofL_length (l : List Nat) : (ofL l).length = l.length := by show l.toArray.size = _; simp
theorem ofL_inj {a b : List Nat} : ofL a = ofL b ↔ a = b := ⟨fun h => by have := congrArg TL.tl h; simpa using this, fun h => h ▸ rfl⟩
@[simp] theorem ofL_eq {a b : List Nat} : (ofL a = ofL b) = (a = b) := propext ofL_inj
theorem ofL_tl (s : Str) : ofL (TL.tl s) = s := TL.mk_tl s
@[simp] theorem ofL_append (a b : List Nat) : ofL a ++ ofL b = ofL (a ++ b) := TL.ext_tl (by rw [TL.tl_append]; rfl)
theorem ofL_lit {s : Str} {l : List Nat} (h : s.cps.toList = l) : s = ofL l := TL.ext_tl h
def splitC (c : Nat) (l : List Nat) : List (List Nat) := TL.spl [c] 0 [] l
theorem splitC_eq (c : Nat) (hc : c < 256) (l : List Nat) : Txt.split (ofL l) (ofL [c]) = (splitC c l).map ofL := by
  refine TL.map_tl_inj ?_
  rw [TL.split_spl _ _ (by simp) (TL.kind_ok (by simp [ofL]; exact hc))]
  simp [splitC, Function.comp_def]
theorem spl_len (c : Nat) : ∀ (l acc : List Nat), (TL.spl [c] 0 acc l).length ≤ l.length + 1
  | [], acc => by rw [TL.spl_nil]; simp
  | d :: r, acc => by
    show (if TL.pre [c] (d :: r) = true then acc :: TL.spl [c] 0 [] r else TL.spl [c] 0 (acc ++ [d]) r).length ≤ _
    split
    · have := spl_len c r []; simp; omega
    · have := spl_len c r (acc ++ [d]); simp; omega
theorem splitC_len (c : Nat) (l : List Nat) : (splitC c l).length ≤ l.length + 1 := spl_len c l []
theorem spl_ne (c : Nat) : ∀ (l acc : List Nat), TL.spl [c] 0 acc l ≠ []
  | [], acc => by rw [TL.spl_nil]; simp
  | d :: r, acc => by
    show (if TL.pre [c] (d :: r) = true then acc :: TL.spl [c] 0 [] r else TL.spl [c] 0 (acc ++ [d]) r) ≠ _
    split
    · simp
    · exact spl_ne c r _
theorem splitC_ne (c : Nat) (l : List Nat) : splitC c l ≠ [] := spl_ne c l []
theorem spl_mem (c : Nat) : ∀ (l acc : List Nat) (p : List Nat), p ∈ TL.spl [c] 0 acc l → p.length ≤ acc.length + l.length ∧ ∀ d ∈ p, d ∈ acc ∨ d ∈ l
  | [], acc, p, h => by
    rw [TL.spl_nil] at h
    simp at h; subst h
    exact ⟨by simp, fun d hd => .inl hd⟩
  | e :: r, acc, p, h => by
    have h : p ∈ (if TL.pre [c] (e :: r) = true then acc :: TL.spl [c] 0 [] r else TL.spl [c] 0 (acc ++ [e]) r) := h
    split at h
    · rcases List.mem_cons.mp h with h | h
      · subst h; exact ⟨by simp, fun d hd => .inl hd⟩
      · have z := spl_mem c r [] p h
        exact ⟨by simp at z ⊢; omega, fun d hd => .inr (List.mem_cons_of_mem _ (by simpa using z.2 d hd))⟩
    · have z := spl_mem c r (acc ++ [e]) p h
      refine ⟨by have := z.1; simp at this ⊢; omega, fun d hd => ?_⟩
      rcases z.2 d hd with q | q
      · rcases List.mem_append.mp q with q | q
        · exact .inl q
        · exact .inr (by simp at q; subst q; exact List.mem_cons_self ..)
      · exact .inr (List.mem_cons_of_mem _ q)
theorem splitC_mem {c : Nat} {l p : List Nat} (h : p ∈ splitC c l) : p.length ≤ l.length ∧ ∀ d ∈ p, d ∈ l := by
  have := spl_mem c l [] p h
  simpa using this
theorem splitC_join {c : Nat} {ps : List (List Nat)} (h : ps ≠ []) (hp : ∀ p ∈ ps, c ∉ p) : splitC c (TL.joinL [c] ps) = ps := TL.spl_join h hp
/-- a text: not too long, plain signs -/
structure TOk (l : List Nat) : Prop where
  len : l.length ≤ 100000
  sg : ∀ c ∈ l, c < 256
theorem TOk.str {l : List Nat} (h : TOk l) : PyData.strOk (ofL l) = true := by
  simp only [PyData.strOk, Array.all_eq_true]
  intro i hi
  have := h.sg (l[i]'(by simpa [ofL] using hi)) (List.getElem_mem _)
  have h2 : (ofL l).cps[i] = l[i]'(by simpa [ofL] using hi) := by simp [ofL]
  rw [h2]; simp; omega
theorem TOk.sub {l m : List Nat} (h : TOk l) (h1 : m.length ≤ l.length) (h2 : ∀ c ∈ m, c ∈ l) : TOk m := ⟨Nat.le_trans h1 h.len, fun c hc => h.sg c (h2 c hc)⟩
theorem TOk.size {l : List Nat} (h : TOk l) : l.length ≤ sizeLine := Nat.le_trans h.len (by decide)
theorem TOk.part {l p : List Nat} {c : Nat} (h : TOk l) (hp : p ∈ splitC c l) : TOk p := h.sub (splitC_mem hp).1 (splitC_mem hp).2
theorem eqD_txt {a b : List Nat} (ha : TOk a) (hb : TOk b) : Ev.eqD (.str (ofL a)) (.str (ofL b)) = some (decide (a = b)) := by
  rw [eqD_str ha.str hb.str]; simp
theorem lenD_txt {l : List Nat} (h : TOk l) : lenD (.str (ofL l)) = dI l.length := by simp [lenD, h.size]
theorem len_txt {l : List Nat} (h : TOk l) : sem1 .len (.str (ofL l)) = some (.d (.int l.length)) := by simp [sem1, lenD, h.size]
theorem seqD_txt {l : List Nat} (h : TOk l) : seqD (.str (ofL l)) = some (l.map fun c => .str (ofL [c])) := by
  simp [seqD, h.size]; intro a _; rfl
@[simp] theorem inD_sign (c : Nat) (l : List Nat) : inD (.str (ofL [c])) (.str (ofL l)) = some (decide (c ∈ l)) := rfl
theorem split_txt {l : List Nat} (h : TOk l) (c : Nat) (hc : c < 256) : semM .split (.str (ofL l)) (.str (ofL [c])) = some (.u (.lst ((splitC c l).map fun p => .str (ofL p)))) := by
  have h1 := splitC_len c l
  have h2 := h.len
  have e : sizeLine = 16777216 := rfl
  simp [semM, splitC_eq c hc, e]
  exact ⟨by omega, by omega⟩
theorem cut_txt {l : List Nat} (h : TOk l) (lo hi : Option Int) : cutD lo hi (.str (ofL l)) = dS (ofL (cutL l lo hi)) := by
  simp [cutD, h.size]
  rfl
theorem join_txt (s : List Nat) (ls : List (List Nat)) (h : (ls.map (·.length)).sum + ls.length * s.length ≤ 16777216) : semM .join (.str (ofL s)) (.lst (ls.map fun l => .str (ofL l))) = dS (ofL (TL.joinL s ls)) := by
  have e : Txt.join (ofL s) (ls.map ofL) = ofL (TL.joinL s ls) := by
    rw [TL.join_eq]
    refine TL.ext_tl ?_
    rw [TL.tl_join]; simp [Function.comp_def]
  have e2 : strsD (ls.map fun l => D.str (ofL l)) = some (ls.map ofL) := strsD_map ofL ls
  have e3 : ((ls.map ofL).map (·.length)).sum = (ls.map (·.length)).sum := by simp [Function.comp_def]
  simp only [semM, e2, joinD, e3, List.length_map, ofL_length, e, h, if_true]
@[simp] theorem joinL_nil (ls : List (List Nat)) : TL.joinL [] ls = ls.flatten := by
  induction ls with
  | nil => rfl
  | cons a r ih =>
    cases r with
    | nil => simp [TL.joinL]
    | cons b r => simp only [TL.joinL, ih, List.nil_append, List.flatten_cons]
theorem cutL_mem {A : Type} {xs : List A} {lo hi : Option Int} {x : A} (h : x ∈ cutL xs lo hi) : x ∈ xs := by
  unfold cutL at h; exact List.drop_subset _ _ (List.take_subset _ _ h)
theorem cutL_len {A : Type} (xs : List A) (lo hi : Option Int) : (cutL xs lo hi).length ≤ xs.length := by
  unfold cutL; rw [List.length_take, List.length_drop]; omega
theorem TOk.cut {l : List Nat} (h : TOk l) (lo hi : Option Int) : TOk (cutL l lo hi) := h.sub (cutL_len _ _ _) fun _ hc => cutL_mem hc
/-- a figure -/
theorem int_fig {c : Nat} (h : 48 ≤ c) (h2 : c ≤ 57) : sem1 .int (.str (ofL [c])) = dI ((c : Int) - 48) := by
  have : c = 48 ∨ c = 49 ∨ c = 50 ∨ c = 51 ∨ c = 52 ∨ c = 53 ∨ c = 54 ∨ c = 55 ∨ c = 56 ∨ c = 57 := by omega
  have e : intText? (ofL [c]) = some ((c : Int) - 48) := by rcases this with e | e | e | e | e | e | e | e | e | e <;> subst e <;> decide +kernel
  simp [sem1, e, dI]
theorem str_fig {i : Int} (h : 0 ≤ i) (h2 : i < 10) : sem1 .str (.int i) = dS (ofL [48 + i.toNat]) := by
  obtain ⟨n, rfl⟩ := Int.eq_ofNat_of_zero_le h
  have hn : n < 10 := by omega
  have e : (toString (n : Int) : Str) = ofL [48 + n] := by
    refine ofL_lit ?_
    have := TL.tl_num n
    rw [TL.numL_lt hn] at this
    exact this
  have h3 : (n : Int).natAbs.log2 < 1920 := by
    simp
    have : n.log2 ≤ n := Nat.log2_le_self n
    omega
  simp only [sem1, h3, if_true]
  rw [e]; simp
theorem joinL_len (s : List Nat) : ∀ ls : List (List Nat), (TL.joinL s ls).length ≤ (ls.map (·.length)).sum + ls.length * s.length
  | [] => by simp [TL.joinL]
  | [a] => by simp [TL.joinL]
  | a :: b :: r => by
    have := joinL_len s (b :: r)
    simp only [TL.joinL, List.length_append, List.map_cons, List.sum_cons, List.length_cons, Nat.add_mul] at this ⊢
    omega
theorem joinL_mem {s : List Nat} {c : Nat} : ∀ {ls : List (List Nat)}, c ∈ TL.joinL s ls → c ∈ s ∨ ∃ l ∈ ls, c ∈ l
  | [], h => by simp [TL.joinL] at h
  | [a], h => .inr ⟨a, by simp, h⟩
  | a :: b :: r, h => by
    simp only [TL.joinL, List.mem_append] at h
    rcases h with h | h | h
    · exact .inr ⟨a, by simp, h⟩
    · exact .inl h
    · rcases joinL_mem h with h | ⟨l, hl, h⟩
      · exact .inl h
      · exact .inr ⟨l, List.mem_cons_of_mem _ hl, h⟩
theorem sum_le {n : Nat} : ∀ {ls : List (List Nat)}, (∀ l ∈ ls, l.length ≤ n) → (ls.map (·.length)).sum ≤ ls.length * n
  | [], _ => by simp
  | a :: r, h => by
    have h1 := h a (List.mem_cons_self ..)
    have h2 := sum_le (ls := r) fun l hl => h l (List.mem_cons_of_mem _ hl)
    simp only [List.map_cons, List.sum_cons, List.length_cons, Nat.add_mul]; omega
theorem add_txt {a b : List Nat} (ha : a.length ≤ 1000000) (hb : b.length ≤ 1000000) : sem2 .add (.str (ofL a)) (.str (ofL b)) = some (.d (.str (ofL (a ++ b)))) := by
  have : a.length + b.length ≤ sizeLine := Nat.le_trans (by omega : _ ≤ 2000000) (by decide)
  simp [sem2, addD, this]
theorem add_lst {a b : List D} (ha : a.length ≤ 1000000) (hb : b.length ≤ 1000000) : sem2 .add (.lst a) (.lst b) = some (.u (.lst (a ++ b))) := o_addl _ _ (Nat.le_trans (by omega : _ ≤ 2000000) (by decide))
theorem add_tup {a b : List D} (ha : a.length ≤ 1000000) (hb : b.length ≤ 1000000) : sem2 .add (.tup a) (.tup b) = some (.d (.tup (a ++ b))) := o_addt _ _ (Nat.le_trans (by omega : _ ≤ 2000000) (by decide))
theorem TOk.app {a b : List Nat} (ha : TOk a) (hb : TOk b) (h : a.length + b.length ≤ 100000) : TOk (a ++ b) := ⟨by simpa using h, fun c hc => (List.mem_append.mp hc).elim (ha.sg c) (hb.sg c)⟩
def bitS (c : Nat) : Bool := decide (c ∈ [48, 49])
def allB (l : List Nat) : Bool := l.all bitS
def valL (l : List Nat) : List Int := l.map fun c : Nat => (c : Int) - 48
@[simp] theorem valL_length (l : List Nat) : (valL l).length = l.length := by simp [valL]
theorem bitS_iff {c : Nat} : bitS c = true ↔ c = 48 ∨ c = 49 := by simp [bitS]
end Ev.Pl
set_option Elab.async false
set_option linter.all false
set_option maxRecDepth 100000
set_option maxHeartbeats 4000000
/-! Own work: what an evaluation comes to, backwards. -/
namespace Ev.Pl
open PySem PySem.Spec
def WR {A : Type} (r : R A) (Q : A → Hs → Prop) : Prop := ∃ a h', r = some (.ok a, h') ∧ Q a h'
def WF (r : RS) (Q : Fl → Hs → Prop) : Prop := ∃ f h', r = some (f, h') ∧ Q f h'
@[simp] theorem WR_ok {A : Type} (a : A) (h : Hs) (Q : A → Hs → Prop) : WR (some (.ok a, h)) Q = Q a h := by
  apply propext; unfold WR
  exact ⟨fun ⟨a', h', e, q⟩ => by cases e; exact q, fun q => ⟨a, h, rfl, q⟩⟩
@[simp] theorem WF_ok (f : Fl) (h : Hs) (Q : Fl → Hs → Prop) : WF (some (f, h)) Q = Q f h := by
  apply propext; unfold WF
  exact ⟨fun ⟨a', h', e, q⟩ => by cases e; exact q, fun q => ⟨f, h, rfl, q⟩⟩
theorem WR_bnd {A B : Type} {r : R A} {k : A → Hs → R B} {Q : B → Hs → Prop} (w : WR r fun a h => WR (k a h) Q) : WR (bnd r k) Q := by
  obtain ⟨a, h, e, q⟩ := w; rw [e]; exact q
theorem WF_bns {A : Type} {r : R A} {env : Env} {k : A → Hs → RS} {Q : Fl → Hs → Prop} (w : WR r fun a h => WF (k a h) Q) : WF (bns r env k) Q := by
  obtain ⟨a, h, e, q⟩ := w; rw [e]; exact q
theorem WF_seq {r : RS} {k : Env → Hs → RS} {Q : Fl → Hs → Prop} (w : WF r fun f h => WF (seqS (some (f, h)) k) Q) : WF (seqS r k) Q := by
  obtain ⟨a, h, e, q⟩ := w; rw [e]; exact q
theorem WR_endR {n : Nat} {r : RS} {Q : X → Hs → Prop} (w : WF r fun f h => WR (endR n (some (f, h))) Q) : WR (endR n r) Q := by
  obtain ⟨a, h, e, q⟩ := w; rw [e]; exact q
theorem WR_compE {p : X × List D} {h : Hs} {r : R (List D)} {Q : X → Hs → Prop} (w : WR r fun ds h' => WR (compE p h (some (.ok ds, h'))) Q) : WR (compE p h r) Q := by
  obtain ⟨a, h', e, q⟩ := w; rw [e]; exact q
theorem WF_unbrk {dead : List Nat} {x : X} {h0 : Hs} {r : RS} {Q : Fl → Hs → Prop} (w : WF r fun f h => WF (unbrk dead x h0 (some (f, h))) Q) : WF (unbrk dead x h0 r) Q := by
  obtain ⟨a, h', e, q⟩ := w; rw [e]; exact q
theorem WR_imp {A : Type} {r : R A} {Q Q' : A → Hs → Prop} (w : WR r Q) (i : ∀ a h, Q a h → Q' a h) : WR r Q' := by
  obtain ⟨a, h, e, q⟩ := w; exact ⟨a, h, e, i a h q⟩
theorem WF_imp {r : RS} {Q Q' : Fl → Hs → Prop} (w : WF r Q) (i : ∀ a h, Q a h → Q' a h) : WF r Q' := by
  obtain ⟨a, h, e, q⟩ := w; exact ⟨a, h, e, i a h q⟩
theorem WR_eq {A : Type} {r : R A} {a : A} {h : Hs} {Q : A → Hs → Prop} (e : r = some (.ok a, h)) (q : Q a h) : WR r Q := ⟨a, h, e, q⟩
theorem WF_ite {c : Prop} [Decidable c] {a b : RS} {Q : Fl → Hs → Prop} (h1 : c → WF a Q) (h2 : ¬ c → WF b Q) : WF (if c then a else b) Q := by
  by_cases h : c
  · rw [if_pos h]; exact h1 h
  · rw [if_neg h]; exact h2 h
theorem WR_ite {A : Type} {c : Prop} [Decidable c] {a b : R A} {Q : A → Hs → Prop} (h1 : c → WR a Q) (h2 : ¬ c → WR b Q) : WR (if c then a else b) Q := by
  by_cases h : c
  · rw [if_pos h]; exact h1 h
  · rw [if_neg h]; exact h2 h
/-- a comprehension whose items do something to the heap -/
theorem WR_compL {A : Type} {g : A → D} {f : D → Hs → R (Option D)} (I : Hs → Prop) (P : A → D → Prop) : ∀ {xs : List A} {h : Hs} {Q : List D → Hs → Prop}, I h → (∀ x ∈ xs, ∀ h, I h → WR (f (g x) h) fun r h' => I h' ∧ ∃ d, r = some d ∧ P x d) →
    (∀ ds h', I h' → ds.length = xs.length → (∀ (i : Nat) x, xs[i]? = some x → ∃ d, ds[i]? = some d ∧ P x d) → Q ds h') → WR (compL f (xs.map g) h) Q
  | [], h, Q, i, _, q => ⟨[], h, rfl, q [] h i rfl (by simp)⟩
  | x :: xs, h, Q, i, H, q => by
    obtain ⟨r, h1, e1, i1, d, rfl, p1⟩ := H x (List.mem_cons_self ..) h i
    obtain ⟨ds, h2, e2, q2⟩ := WR_compL I P (xs := xs) (h := h1) (Q := fun ds h' => Q (d :: ds) h') i1 (fun y hy => H y (List.mem_cons_of_mem _ hy)) fun ds h' i' l p => q (d :: ds) h' i' (by simp [l]) fun k y hk => by
      cases k with
      | zero => simp at hk; subst hk; exact ⟨d, rfl, p1⟩
      | succ k => exact p k y (by simpa using hk)
    exact ⟨d :: ds, h2, by simp only [List.map_cons, compL, e1, e2], q2⟩
/-- .. of which each may be left out -/
theorem WR_pick {A : Type} {g : A → D} {f : D → Hs → R (Option D)} (I : Hs → Prop) (F : A → D) : ∀ {xs : List A} {h : Hs} {Q : List D → Hs → Prop}, I h → (∀ x ∈ xs, ∀ h, I h → WR (f (g x) h) fun r h' => I h' ∧ (r = none ∨ r = some (F x))) →
    (∀ (ys : List A) h', I h' → ys.Sublist xs → Q (ys.map F) h') → WR (compL f (xs.map g) h) Q
  | [], h, Q, i, _, q => ⟨[], h, rfl, q [] h i .slnil⟩
  | x :: xs, h, Q, i, H, q => by
    obtain ⟨r, h1, e1, i1, hr⟩ := H x (List.mem_cons_self ..) h i
    rcases hr with rfl | rfl
    · obtain ⟨ds, h2, e2, q2⟩ := WR_pick I F (xs := xs) (h := h1) (Q := Q) i1 (fun y hy => H y (List.mem_cons_of_mem _ hy)) fun ys h' i' s => q ys h' i' (s.cons _)
      exact ⟨ds, h2, by simp only [List.map_cons, compL, e1, e2], q2⟩
    · obtain ⟨ds, h2, e2, q2⟩ := WR_pick I F (xs := xs) (h := h1) (Q := fun ds h' => Q (F x :: ds) h') i1 (fun y hy => H y (List.mem_cons_of_mem _ hy)) fun ys h' i' s => q (x :: ys) h' i' (s.cons_cons _)
      exact ⟨F x :: ds, h2, by simp only [List.map_cons, compL, e1, e2], q2⟩
/-- a for that may end early -/
theorem WF_forL {A : Type} {f : D → Env → Hs → RS} {g : A → D} (J : List A → Env → Hs → Prop) : ∀ {xs : List A} {env : Env} {h : Hs} {Q : Fl → Hs → Prop}, J xs env h →
    (∀ x xs env h, J (x :: xs) env h → WF (f (g x) env h) fun fl h' => match fl with | .nx e => J xs e h' | .cont e => J xs e h' | fl => Q fl h') → (∀ env h, J [] env h → Q (.nx env) h) → WF (forL f [] (xs.map g) env h) Q
  | [], env, h, Q, i, _, q => ⟨.nx env, h, rfl, q env h i⟩
  | x :: xs, env, h, Q, i, H, q => by
    obtain ⟨fl, h1, e1, i1⟩ := H x xs env h i
    cases fl with
    | nx e =>
      obtain ⟨fl2, h2, e2, q2⟩ := WF_forL J (xs := xs) (env := e) (h := h1) (Q := Q) i1 H q
      exact ⟨fl2, h2, by simp only [List.map_cons, forL, e1]; simpa using e2, q2⟩
    | cont e =>
      obtain ⟨fl2, h2, e2, q2⟩ := WF_forL J (xs := xs) (env := e) (h := h1) (Q := Q) i1 H q
      exact ⟨fl2, h2, by simp only [List.map_cons, forL, e1]; simpa using e2, q2⟩
    | brk e => exact ⟨_, h1, by simp only [List.map_cons, forL, e1], i1⟩
    | ret y => exact ⟨_, h1, by simp only [List.map_cons, forL, e1], i1⟩
    | err c vs e => exact ⟨_, h1, by simp only [List.map_cons, forL, e1], i1⟩
def appX (h' : Hs) (j : Nat) (y : X) : R X := match y.toD, h'[j]? with
        | some d, some (.lst xs) => if xs.length < sizeLine then some (.ok (.d .non), h'.set j (.lst (xs ++ [d]))) else none
        | _, _ => none
theorem ev_app {C : Cl} {i j : Nat} {e : E} {env : Env} {h : Hs} {ys : List D} (h1 : env[i]? = some (some (.r j))) (h2 : h[j]? = some (.lst ys)) : ev C (.app i e) env h = bnd (ev C e env h) fun y h' => appX h' j y := by
  simp only [ev, h1, h2]; rfl
theorem appX_eq {h' : Hs} {j : Nat} {y : X} {d : D} {xs : List D} (h1 : y.toD = some d) (h2 : h'[j]? = some (.lst xs)) (h3 : xs.length < sizeLine) : appX h' j y = some (.ok (.d .non), h'.set j (.lst (xs ++ [d]))) := by
  simp [appX, h1, h2, h3]
section
variable (C : Cl) (env : Env) (h : Hs) (es : E)
def actX (C : Cl) (h : Hs) : Option (Option W) → R X
    | some (some .th) => C.th h
    | _ => none
@[simp] theorem actX_th : actX C h (some (some .th)) = C.th h := rfl
@[simp] theorem ev_act (i : Nat) : ev C (.act i) env h = actX C h env[i]? := by
  simp only [ev]; rcases env[i]? with _ | _ | _ | _ | _ | _ <;> rfl
def exX (k : Nat → List D → Option D) (h : Hs) : Option (Option W) → R X
    | some (some (.ex c vs)) => lift ((k c vs).map .d) h
    | _ => none
@[simp] theorem exX_ex (k : Nat → List D → Option D) (c : Nat) (vs : List D) : exX k h (some (some (.ex c vs))) = lift ((k c vs).map .d) h := rfl
@[simp] theorem ev_exisi (i c' : Nat) : ev C (.exisi i c') env h = exX (fun c _ => some (.bl (C.sub c c'))) h env[i]? := by
  simp only [ev]; rcases env[i]? with _ | _ | _ | _ | _ | _ <;> rfl
@[simp] theorem ev_exve (i : Nat) : ev C (.exve i) env h = exX (fun _ _ => some (.bl true)) h env[i]? := by
  simp only [ev]; rcases env[i]? with _ | _ | _ | _ | _ | _ <;> rfl
def fldK (C : Cl) (f : Nat) (c : Nat) : List D → Option D
  | [v] => if C.xfl c = some f then some v else none
  | _ => none
@[simp] theorem ev_exfld (i f : Nat) : ev C (.exfld i f) env h = exX (fldK C f) h env[i]? := by
  simp only [ev]; rcases env[i]? with _ | _ | _ | _ | _ | ⟨c, _ | ⟨v, _ | _⟩⟩ <;> first | rfl | (show (if _ then _ else _) = lift (Option.map _ (if _ then _ else _)) _; split <;> rfl)
def oplX (C : Cl) (o : OpM) (b : E) (env : Env) (h : Hs) (x : X) : Option D → R X
    | some (.lst _) => bnd (ev C b env h) fun y h => lift ((x.rd h).bind fun d => (y.rd h).bind fun e => semL o d e) h
    | _ => none
@[simp] theorem oplX_l (o : OpM) (b : E) (x : X) (xs : List D) : oplX C o b env h x (some (.lst xs)) = bnd (ev C b env h) fun y h => lift ((x.rd h).bind fun d => (y.rd h).bind fun e => semL o d e) h := rfl
@[simp] theorem ev_opl (o : OpM) (a b : E) : ev C (.opl o a b) env h = bnd (ev C a env h) fun x h => oplX C o b env h x (x.rd h) := by
  simp only [ev]
  first | done | rfl | (congr 1; funext x h; rcases x.rd h with _ | _ | _ | _ | _ | _ | _ | _ | _ | _ | _ | _ | _ <;> rfl)
def triE (i : Nat) : RS → RS
        | some (.nx env2, h2) => if noEx (env2.set i none) then some (.nx (env2.set i none), h2) else none
        | some (.ret x, h2) => some (.ret x, h2)
        | _ => none
@[simp] theorem triE_ret (i : Nat) (x : X) : triE i (some (.ret x, h)) = some (.ret x, h) := rfl
@[simp] theorem triE_ite (i : Nat) (c : Prop) [Decidable c] (a b : RS) : triE i (if c then a else b) = if c then triE i a else triE i b := by split <;> rfl
def triS (C : Cl) (c i : Nat) (hd : S) : RS → RS
    | some (.err c' vs env', h') => if C.sub c' c then triE i (ex C hd (env'.set i (some (.ex c' vs))) h') else some (.err c' vs env', h')
    | r => r
@[simp] theorem triS_ret (c i : Nat) (hd : S) (x : X) : triS C c i hd (some (.ret x, h)) = some (.ret x, h) := rfl
@[simp] theorem triS_nx (c i : Nat) (hd : S) (e : Env) : triS C c i hd (some (.nx e, h)) = some (.nx e, h) := rfl
@[simp] theorem triS_err (c i : Nat) (hd : S) (c' : Nat) (vs : List D) (env' : Env) : triS C c i hd (some (.err c' vs env', h)) = if C.sub c' c then triE i (ex C hd (env'.set i (some (.ex c' vs))) h) else some (.err c' vs env', h) := rfl
@[simp] theorem triS_ite (c i : Nat) (hd : S) (q : Prop) [Decidable q] (a b : RS) : triS C c i hd (if q then a else b) = if q then triS C c i hd a else triS C c i hd b := by split <;> rfl
@[simp] theorem ex_tri (b : S) (c i : Nat) (hd : S) : ex C (.tri b c i hd) env h = triS C c i hd (ex C b env h) := by
  simp only [ex]
  rcases ex C b env h with _ | ⟨_ | _ | _ | _ | ⟨c', vs, env'⟩, h'⟩ <;> rfl
def parnS (is : List Nat) (env : Env) (h : Hs) : Option Env → RS
    | some env' => some (.nx env', h)
    | none => none
@[simp] theorem parnS_some (is : List Nat) (env' : Env) : parnS is env h (some env') = some (.nx env', h) := rfl
@[simp] theorem ex_parn (is : List Nat) (fs : List Bool) : ex C (.parn is fs es) env h = bns (evn C fs es env h) env fun ws h => parnS is env h (setsW is ws env) := by
  simp only [ex]; rfl
@[simp] theorem setsW_nil (env : Env) : setsW [] [] env = some env := rfl
@[simp] theorem setsW_cons (i : Nat) (is : List Nat) (w : W) (ws : List W) (env : Env) : setsW (i :: is) (w :: ws) env = setsW is ws (env.set i (some w)) := rfl
@[simp] theorem evn_nil : evn C [] .nil env h = some (.ok [], h) := by simp only [evn]
def evnN (h : Hs) (k : Hs → R (List W)) : X → R (List W)
    | .u m => bnd (k (h ++ [m])) fun ws h' => some (.ok (.r h.length :: ws), h')
    | _ => none
@[simp] theorem evnN_u (k : Hs → R (List W)) (m : MO) : evnN h k (.u m) = bnd (k (h ++ [m])) fun ws h' => some (.ok (.r h.length :: ws), h') := rfl
def evnO (k : R (List W)) : Option W → R (List W)
    | some w => bnd k fun ws h' => some (.ok (w :: ws), h')
    | none => none
@[simp] theorem evnO_some (k : R (List W)) (w : W) : evnO k (some w) = bnd k fun ws h' => some (.ok (w :: ws), h') := rfl
@[simp] theorem evn_new (fs : List Bool) (a b : E) : evn C (true :: fs) (.cons a b) env h = bnd (ev C a env h) fun x h => evnN h (fun h => evn C fs b env h) x := by
  simp only [evn]; first | done | (congr 1; done) | (congr 1; funext x h; cases x <;> rfl)
@[simp] theorem evn_old (fs : List Bool) (a b : E) : evn C (false :: fs) (.cons a b) env h = bnd (ev C a env h) fun x h => evnO (evn C fs b env h) x.toW := by
  simp only [evn]; first | done | (congr 1; done) | (congr 1; funext x h; cases x.toW <;> rfl)
end
/-- a body in two parts -/
def takeS : Nat → S → S
  | 0, _ => .nil
  | n + 1, .cons a r => .cons a (takeS n r)
  | _, s => s
def dropS : Nat → S → S
  | 0, s => s
  | n + 1, .cons _ r => dropS n r
  | _, _ => .nil
theorem ex_split (C : Cl) : ∀ (n : Nat) (s : S) (env : Env) (h : Hs), ex C s env h = seqS (ex C (takeS n s) env h) fun e h => ex C (dropS n s) e h
  | 0, s, env, h => by simp [takeS, dropS]
  | n + 1, s, env, h => by
    cases s with
    | cons a r =>
      simp only [takeS, dropS, ex_cons]
      rcases ex C a env h with _ | ⟨_ | _ | _ | _ | _, _⟩ <;> first | rfl | exact ex_split C n r _ _
    | _ =>
      simp only [takeS, dropS]
      generalize ex C _ env h = q
      rcases q with _ | ⟨_ | _ | _ | _ | _, _⟩ <;> first | rfl | simp
def eqoX (C : Cl) (neg : Bool) (c : Nat) (h : Hs) : Option D → Option D → R X
    | some (.ins c1 vs), some (.ins c2 ws) => if c1 = c ∧ c2 = c ∧ neg = true then bnd (C.eqo c (.ins c1 vs) (.ins c2 ws) h) fun z h => lift ((toB z).map fun k => .d (.bl (!k))) h else none
    | _, _ => none
@[simp] theorem eqoX_ins (C : Cl) (c : Nat) (h : Hs) (vs ws : List D) : eqoX C true c h (some (.ins c vs)) (some (.ins c ws)) = bnd (C.eqo c (.ins c vs) (.ins c ws) h) fun z h => lift ((toB z).map fun k => .d (.bl (!k))) h := by simp [eqoX]
@[simp] theorem ev_eqo (C : Cl) (neg : Bool) (c : Nat) (a b : E) (env : Env) (h : Hs) : ev C (.eqo neg c a b) env h = bnd (ev C a env h) fun x h => bnd (ev C b env h) fun y h => eqoX C neg c h x.toD y.toD := by
  simp only [ev]
  first | done | rfl | (congr 1; done)
end Ev.Pl
set_option Elab.async false
set_option linter.all false
set_option maxRecDepth 100000
set_option maxHeartbeats 4000000
/-! Own work, printed by gen2.py: the defs as IR, their meanings by stages. -/
namespace Kd
open PySem PySem.Spec Ev
def n0 : List Str := ["thing"]
def ir0 : S := (.cons (.ret (.and (.isi (.var 0) [.int]) (.not (.isi (.var 0) [.bool]))))
 .nil)
def n1 : List Str := ["thing", "low", "high"]
def ir1 : S := (.cons (.ret (.and (.call 0 (.cons (.var 0) .nil)) (.chain .le .le (.var 1) (.var 0) (.var 2))))
 .nil)
def n2 : List Str := ["many", "thing", "one"]
def ir2 : S := (.cons (.ret (.and (.isi (.var 1) [.tuple]) (.and (.op2 .eq (.op1 .len (.var 1)) (.var 0)) (.op1 .all (.comp [2] (.call 1 (.cons (.var 2) (.cons (.cst (.int 0)) (.cons (.cst (.int 1)) .nil)))) (.one 2) (.cons (.var 1) .nil) .yes)))))
 .nil)
def n3 : List Str := ["limit", "thing", "one", "at"]
def ir3 : S := (.cons (.ift (.or (.not (.isi (.var 1) [.tuple])) (.not (.op1 .all (.comp [2] (.call 1 (.cons (.var 2) (.cons (.cst (.int 0)) (.cons (.op2 .sub (.var 0) (.cst (.int 1))) .nil)))) (.one 2) (.cons (.var 1) .nil) .yes)))) (.cons (.ret (.cst (.bl false)))
 .nil) .nil)
 (.cons (.ret (.op1 .all (.comp [3] (.op2 .lt (.op2 .ix (.var 1) (.var 3)) (.op2 .ix (.var 1) (.op2 .add (.var 3) (.cst (.int 1))))) (.one 3) (.rng (.op2 .sub (.op1 .len (.var 1)) (.cst (.int 1)))) .yes)))
 .nil))
def n4 : List Str := ["bits", "lamp", "bit"]
def ir4 : S := (.cons (.ret (.op1 .sum (.comp [1, 2] (.op2 .ix (.glb 1) (.var 1)) (.many [1, 2]) (.enum (.var 0)) (.op2 .eq (.var 2) (.cst (.int 1))))))
 .nil)
def n5 : List Str := ["net", "number", "table"]
def ir5 : S := (.cons (.ret (.op1 .tuple (.comp [2] (.op2 .ix (.var 2) (.var 1)) (.one 2) (.cons (.fld (.var 0) 2) .nil) .yes)))
 .nil)
def n6 : List Str := ["thing"]
def ir6 : S := (.cons (.ift (.not (.isi (.var 0) [(.own 6)])) (.cons (.rse 3 .nil)
 .nil) .nil)
 .nil)
def n7 : List Str := ["state"]
def ir7 : S := (.cons (.ift (.or (.not (.isi (.var 0) [.tuple])) (.or (.not (.chain .le .le (.cst (.int 1)) (.op1 .len (.var 0)) (.glb 0))) (.not (.call 2 (.cons (.op1 .len (.var 0)) (.cons (.var 0) .nil)))))) (.cons (.rse 2 .nil)
 .nil) .nil)
 (.cons (.ret (.call 4 (.cons (.var 0) .nil)))
 .nil))
def n8 : List Str := ["many", "thing"]
def ir8 : S := (.cons (.ift (.or (.not (.isi (.var 1) [.tuple])) (.or (.op2 .ne (.op1 .len (.var 1)) (.cst (.int 2))) (.not (.call 3 (.cons (.var 0) (.cons (.op2 .ix (.var 1) (.cst (.int 0))) .nil)))))) (.cons (.ret (.cst (.bl false)))
 .nil) .nil)
 (.cons (.ret (.call 2 (.cons (.op2 .ix (.glb 1) (.op1 .len (.op2 .ix (.var 1) (.cst (.int 0))))) (.cons (.op2 .ix (.var 1) (.cst (.int 1))) .nil))))
 .nil))
def n9 : List Str := ["bits", "bit"]
def ir9 : S := (.cons (.ret (.opm .join (.cst (.str "")) (.comp [1] (.op1 .str (.var 1)) (.one 1) (.cons (.var 0) .nil) .yes)))
 .nil)
def n10 : List Str := ["net", "table"]
def ir10 : S := (.cons (.expr (.call 6 (.cons (.var 0) .nil)))
 (.cons (.ret (.opm .join (.cst (.str "")) (.comp [1] (.op2 .add (.call 9 (.cons (.var 1) .nil)) (.cst (.str "\n"))) (.one 1) (.cons (.fld (.var 0) 2) .nil) .yes)))
 .nil))
def n11 : List Str := ["row", "many", "sign"]
def ir11 : S := (.cons (.ret (.and (.op2 .eq (.op1 .len (.var 0)) (.var 1)) (.op1 .all (.comp [2] (.op2 .isin (.var 2) (.cst (.str "01"))) (.one 2) (.cons (.var 0) .nil) .yes))))
 .nil)
def n12 : List Str := ["row", "sign"]
def ir12 : S := (.cons (.ret (.op1 .tuple (.comp [1] (.op1 .int (.var 1)) (.one 1) (.cons (.var 0) .nil) .yes)))
 .nil)
def n13 : List Str := ["text", "rows", "whole", "at", "row"]
def ir13 : S := (.cons (.ift (.not (.isi (.var 0) [.str])) (.cons (.rse 4 (.cons (.cst (.int 0)) .nil))
 .nil) .nil)
 (.cons (.asg 1 (.opm .split (.var 0) (.cst (.str "\n"))))
 (.cons (.asg 2 (.cut (.var 1) .no (.cons (.op1 .neg (.cst (.int 1))) .nil)))
 (.cons (.ift (.not (.chain .le .le (.cst (.int 1)) (.op1 .len (.var 2)) (.glb 0))) (.cons (.rse 4 (.cons (.op1 .len (.var 1)) .nil))
 .nil) .nil)
 (.cons (.for (.many [3, 4]) (.enum (.var 2)) (.cons (.ift (.not (.call 11 (.cons (.var 4) (.cons (.op2 .ix (.glb 1) (.op1 .len (.var 2))) .nil)))) (.cons (.rse 4 (.cons (.op2 .add (.var 3) (.cst (.int 1))) .nil))
 .nil) .nil)
 .nil) [])
 (.cons (.ift (.op2 .ne (.op2 .ix (.var 1) (.op1 .neg (.cst (.int 1)))) (.cst (.str ""))) (.cons (.rse 4 (.cons (.op1 .len (.var 1)) .nil))
 .nil) .nil)
 (.cons (.ret (.mk 6 (.cons (.op1 .tuple (.comp [4] (.call 12 (.cons (.var 4) .nil)) (.one 4) (.cons (.var 2) .nil) .yes)) .nil)))
 .nil)))))))
def n14 : List Str := ["lamps"]
def ir14 : S := (.cons (.ret (.ife (.op2 .eq (.op1 .len (.var 0)) (.cst (.int 0))) (.glb 2) (.call 9 (.cons (.var 0) .nil))))
 .nil)
def n15 : List Str := ["rule"]
def ir15 : S := (.cons (.ift (.not (.call 8 (.cons (.glb 0) (.cons (.var 0) .nil)))) (.cons (.rse 5 .nil)
 .nil) .nil)
 (.cons (.ret (.op2 .add (.op2 .add (.call 14 (.cons (.op2 .ix (.var 0) (.cst (.int 0))) .nil)) (.glb 3)) (.call 9 (.cons (.op2 .ix (.var 0) (.cst (.int 1))) .nil))))
 .nil))
def n16 : List Str := ["word", "sign"]
def ir16 : S := (.cons (.ift (.op2 .eq (.var 0) (.glb 2)) (.cons (.ret (.tup .nil))
 .nil) .nil)
 (.cons (.ift (.or (.op2 .eq (.op1 .len (.var 0)) (.cst (.int 0))) (.not (.op1 .all (.comp [1] (.op2 .isin (.var 1) (.glb 4)) (.one 1) (.cons (.var 0) .nil) .yes)))) (.cons (.ret (.cst .non))
 .nil) .nil)
 (.cons (.ret (.op1 .tuple (.comp [1] (.op1 .int (.var 1)) (.one 1) (.cons (.var 0) .nil) .yes)))
 .nil)))
def n17 : List Str := ["text", "words", "found", "sign"]
def ir17 : S := (.cons (.ift (.not (.isi (.var 0) [.str])) (.cons (.rse 4 (.cons (.cst (.int 0)) .nil))
 .nil) .nil)
 (.cons (.asg 1 (.opm .split (.var 0) (.glb 3)))
 (.cons (.ift (.or (.op2 .ne (.op1 .len (.var 1)) (.cst (.int 2))) (.not (.op1 .all (.comp [3] (.op2 .isin (.var 3) (.cst (.str "01"))) (.one 3) (.cons (.op2 .ix (.var 1) (.cst (.int 1))) .nil) .yes)))) (.cons (.rse 4 (.cons (.cst (.int 1)) .nil))
 .nil) .nil)
 (.cons (.asg 2 (.tup (.cons (.call 16 (.cons (.op2 .ix (.var 1) (.cst (.int 0))) .nil)) (.cons (.call 12 (.cons (.op2 .ix (.var 1) (.cst (.int 1))) .nil)) .nil))))
 (.cons (.ift (.not (.call 8 (.cons (.glb 0) (.cons (.var 2) .nil)))) (.cons (.rse 4 (.cons (.cst (.int 1)) .nil))
 .nil) .nil)
 (.cons (.ret (.var 2))
 .nil))))))
def n18 : List Str := ["state"]
def ir18 : S := (.cons (.expr (.call 7 (.cons (.var 0) .nil)))
 (.cons (.ret (.call 9 (.cons (.var 0) .nil)))
 .nil))
def n19 : List Str := ["text"]
def ir19 : S := (.cons (.ift (.not (.isi (.var 0) [.str])) (.cons (.rse 4 (.cons (.cst (.int 0)) .nil))
 .nil) .nil)
 (.cons (.ift (.or (.not (.chain .le .le (.cst (.int 1)) (.op1 .len (.var 0)) (.glb 0))) (.not (.call 11 (.cons (.var 0) (.cons (.op1 .len (.var 0)) .nil))))) (.cons (.rse 4 (.cons (.cst (.int 1)) .nil))
 .nil) .nil)
 (.cons (.ret (.call 12 (.cons (.var 0) .nil)))
 .nil)))
def n20 : List Str := ["script", "cells", "cell"]
def ir20 : S := (.cons (.asg 1 (.comp [2] (.op1 .abs (.op1 .int (.var 2))) (.one 2) (.cons (.cut (.var 0) .no (.cons (.cst (.int 63)) .nil)) .nil) .yes))
 (.cons (.ret (.lst (.cons (.var 1) (.cons (.cst (.int 0)) (.cons (.cst (.int 0)) (.cons (.op2 .add (.cst (.int 83)) (.op2 .mul (.cst (.int 7)) (.op1 .len (.var 1)))) (.cons (.cst (.int 0)) .nil)))))))
 .nil))
def n21 : List Str := ["hand", "many", "cell", "digit", "number"]
def ir21 : S := (.cons (.ift (.and (.op2 .eq (.op2 .ix (.var 0) (.cst (.int 2))) (.cst (.int 0))) (.op2 .lt (.op2 .ix (.var 0) (.cst (.int 1))) (.op1 .len (.op2 .ix (.var 0) (.cst (.int 0)))))) (.cons (.asg 2 (.op2 .ix (.op2 .ix (.var 0) (.cst (.int 0))) (.op2 .ix (.var 0) (.cst (.int 1)))))
 (.cons (.setx 0 (.cst (.int 1)) (.op2 .add (.op2 .ix (.var 0) (.cst (.int 1))) (.cst (.int 1))))
 (.cons (.setx 0 (.cst (.int 3)) (.op2 .mod (.op1 .int (.op2 .add (.op2 .add (.op2 .mul (.op2 .ix (.var 0) (.cst (.int 3))) (.cst (.int 69621))) (.var 2)) (.cst (.int 29)))) (.cst (.int 2147483629))))
 (.cons (.ift (.op2 .ge (.var 2) (.op2 .pow (.cst (.int 10)) (.cst (.int 18)))) (.cons (.setx 0 (.cst (.int 2)) (.var 2))
 .nil) .nil)
 .nil)))) .nil)
 (.cons (.ift (.op2 .gt (.op2 .ix (.var 0) (.cst (.int 2))) (.cst (.int 0))) (.cons (.asg 3 (.op2 .mod (.op1 .int (.op2 .ix (.var 0) (.cst (.int 2)))) (.var 1)))
 (.cons (.setx 0 (.cst (.int 2)) (.op2 .fdiv (.op2 .ix (.var 0) (.cst (.int 2))) (.var 1)))
 (.cons (.ret (.var 3))
 .nil))) .nil)
 (.cons (.setx 0 (.cst (.int 4)) (.op2 .add (.op2 .ix (.var 0) (.cst (.int 4))) (.cst (.int 1))))
 (.cons (.asg 4 (.op2 .mod (.op1 .int (.op2 .mul (.op1 .int (.op2 .add (.op2 .ix (.var 0) (.cst (.int 3))) (.op2 .mul (.cst (.int 7919)) (.op2 .ix (.var 0) (.cst (.int 4)))))) (.cst (.int 48271)))) (.cst (.int 2147483647))))
 (.cons (.asg 4 (.op2 .mod (.op1 .int (.op2 .mul (.var 4) (.op2 .add (.op2 .fdiv (.var 4) (.cst (.int 1009))) (.cst (.int 69621))))) (.cst (.int 2147483647))))
 (.cons (.asg 4 (.op2 .mod (.op1 .int (.op2 .mul (.var 4) (.op2 .add (.op2 .fdiv (.var 4) (.cst (.int 2003))) (.cst (.int 40692))))) (.cst (.int 2147483399))))
 (.cons (.ret (.op2 .mod (.op1 .int (.op2 .fdiv (.var 4) (.cst (.int 16)))) (.var 1)))
 .nil)))))))
def n22 : List Str := ["hand", "things"]
def ir22 : S := (.cons (.ret (.op2 .ix (.var 1) (.call 21 (.cons (.var 0) (.cons (.op1 .len (.var 1)) .nil)))))
 .nil)
def n23 : List Str := ["got", "due", "one", "other"]
def ir23 : S := (.cons (.ift (.isi (.var 1) [.tuple, .list]) (.cons (.ift (.op2 .ne (.isi (.var 0) [.tuple]) (.isi (.var 1) [.tuple])) (.cons (.ret (.cst (.bl false)))
 .nil) .nil)
 (.cons (.ift (.or (.op2 .ne (.isi (.var 0) [.list]) (.isi (.var 1) [.list])) (.op2 .ne (.op1 .len (.var 0)) (.op1 .len (.var 1)))) (.cons (.ret (.cst (.bl false)))
 .nil) .nil)
 (.cons (.ret (.op1 .all (.comp [2, 3] (.call 23 (.cons (.var 2) (.cons (.var 3) .nil))) (.many [2, 3]) (.zip (.var 0) (.var 1)) .yes)))
 .nil))) .nil)
 (.cons (.ift (.or (.op2 .is (.var 1) (.cst .non)) (.op2 .is (.var 0) (.cst .non))) (.cons (.ret (.and (.op2 .is (.var 1) (.cst .non)) (.op2 .is (.var 0) (.cst .non))))
 .nil) .nil)
 (.cons (.ift (.op2 .ne (.isi (.var 0) [.bool]) (.isi (.var 1) [.bool])) (.cons (.ret (.cst (.bl false)))
 .nil) .nil)
 (.cons (.ret (.and (.op2 .eq (.isi (.var 0) [.str]) (.isi (.var 1) [.str])) (.op2 .eq (.var 0) (.var 1))))
 .nil))))
def n24 : List Str := ["hand", "many", "size", "found", "kind", "lamp", "lot", "told", "bits", "weights", "bound", "sums", "number", "one", "state", "row", "weight", "bit", "total"]
def ir24 : S := (.cons (.parn [2, 3, 4] [false, true, false] (.cons (.op1 .len (.call 25 (.cons (.var 1) .nil))) (.cons (.lst .nil) (.cons (.call 21 (.cons (.var 0) (.cons (.cst (.int 4)) .nil))) .nil))))
 (.cons (.for (.one 5) (.rng (.var 1)) (.cons (.ift (.op2 .eq (.var 4) (.cst (.int 0))) (.cons (.expr (.app 3 (.op1 .tuple (.comp [12] (.call 21 (.cons (.var 0) (.cons (.cst (.int 2)) .nil))) (.one 12) (.rng (.var 2)) .yes))))
 .nil) (.cons (.ift (.op2 .eq (.var 4) (.cst (.int 1))) (.cons (.asg 6 (.cut (.comp [13] (.var 13) (.one 13) (.rng (.var 1)) (.op2 .eq (.call 21 (.cons (.var 0) (.cons (.cst (.int 2)) .nil))) (.cst (.int 0)))) .no (.cons (.cst (.int 2)) .nil)))
 (.cons (.asg 7 (.comp [12] (.call 21 (.cons (.var 0) (.cons (.cst (.int 2)) .nil))) (.one 12) (.rng (.cst (.int 4))) .yes))
 (.cons (.asg 8 (.comp [14] (.op2 .add (.comp [13] (.op2 .ix (.var 14) (.var 13)) (.one 13) (.cons (.var 6) .nil) .yes) (.lst (.cons (.cst (.int 0)) (.cons (.cst (.int 0)) .nil)))) (.one 14) (.cons (.call 25 (.cons (.var 1) .nil)) .nil) .yes))
 (.cons (.expr (.app 3 (.op1 .tuple (.comp [15] (.op2 .ix (.var 7) (.op2 .add (.op2 .ix (.var 15) (.cst (.int 0))) (.op2 .mul (.cst (.int 2)) (.op2 .ix (.var 15) (.cst (.int 1)))))) (.one 15) (.cons (.var 8) .nil) .yes))))
 .nil)))) (.cons (.parn [9, 10] [false, false] (.cons (.comp [13] (.op2 .sub (.call 21 (.cons (.var 0) (.cons (.cst (.int 5)) .nil))) (.cst (.int 2))) (.one 13) (.rng (.var 1)) .yes) (.cons (.op2 .sub (.call 21 (.cons (.var 0) (.cons (.cst (.int 3)) .nil))) (.cst (.int 1))) .nil)))
 (.cons (.asg 11 (.comp [14] (.op1 .sum (.comp [16, 17] (.op2 .mul (.var 16) (.var 17)) (.many [16, 17]) (.zip (.var 9) (.var 14)) .yes)) (.one 14) (.cons (.call 25 (.cons (.var 1) .nil)) .nil) .yes))
 (.cons (.expr (.app 3 (.op1 .tuple (.comp [18] (.ife (.op2 .eq (.var 4) (.cst (.int 2))) (.op1 .int (.op2 .gt (.var 18) (.var 10))) (.op2 .mod (.op1 .int (.op2 .add (.var 18) (.var 10))) (.cst (.int 2)))) (.one 18) (.cons (.var 11) .nil) .yes))))
 .nil))))
 .nil))
 .nil) [])
 (.cons (.ret (.op1 .tuple (.var 3)))
 .nil)))
def n25 : List Str := ["many", "found", "lamp", "state"]
def ir25 : S := (.cons (.asg 1 (.lst (.cons (.tup .nil) .nil)))
 (.cons (.for (.one 2) (.rng (.var 0)) (.cons (.asg 1 (.op2 .add (.comp [3] (.op2 .add (.var 3) (.tup (.cons (.cst (.int 0)) .nil))) (.one 3) (.cons (.var 1) .nil) .yes) (.comp [3] (.op2 .add (.var 3) (.tup (.cons (.cst (.int 1)) .nil))) (.one 3) (.cons (.var 1) .nil) .yes)))
 .nil) [])
 (.cons (.ret (.var 1))
 .nil)))
def n26 : List Str := ["many"]
def ir26 : S := (.cons (.ret (.op1 .len (.call 25 (.cons (.var 0) .nil))))
 .nil)
def n27 : List Str := ["text", "rows", "whole", "at", "row", "sign"]
def ir27 : S := (.cons (.asg 1 (.opm .split (.var 0) (.cst (.str "\n"))))
 (.cons (.asg 2 (.cut (.var 1) .no (.cons (.op1 .neg (.cst (.int 1))) .nil)))
 (.cons (.ift (.or (.op2 .lt (.op1 .len (.var 2)) (.cst (.int 1))) (.op2 .gt (.op1 .len (.var 2)) (.cst (.int 7)))) (.cons (.ret (.tup (.cons (.cst (.str "text")) (.cons (.op1 .len (.var 1)) .nil))))
 .nil) .nil)
 (.cons (.for (.many [3, 4]) (.enum (.var 2)) (.cons (.ift (.or (.op2 .ne (.op1 .len (.var 4)) (.call 26 (.cons (.op1 .len (.var 2)) .nil))) (.not (.op1 .all (.comp [5] (.op2 .isin (.var 5) (.cst (.str "01"))) (.one 5) (.cons (.var 4) .nil) .yes)))) (.cons (.ret (.tup (.cons (.cst (.str "text")) (.cons (.op2 .add (.var 3) (.cst (.int 1))) .nil))))
 .nil) .nil)
 .nil) [])
 (.cons (.ift (.op2 .ne (.op2 .ix (.var 1) (.op1 .neg (.cst (.int 1)))) (.cst (.str ""))) (.cons (.ret (.tup (.cons (.cst (.str "text")) (.cons (.op1 .len (.var 1)) .nil))))
 .nil) .nil)
 (.cons (.ret (.tup (.cons (.cst (.str "told")) (.cons (.op1 .tuple (.comp [4] (.op1 .tuple (.comp [5] (.op1 .int (.var 5)) (.one 5) (.cons (.var 4) .nil) .yes)) (.one 4) (.cons (.var 2) .nil) .yes)) .nil))))
 .nil))))))
def n28 : List Str := ["text", "words", "lot", "sign", "at"]
def ir28 : S := (.cons (.asg 1 (.opm .split (.var 0) (.cst (.str ":"))))
 (.cons (.ift (.or (.op2 .ne (.op1 .len (.var 1)) (.cst (.int 2))) (.not (.op1 .all (.comp [3] (.op2 .isin (.var 3) (.cst (.str "01"))) (.one 3) (.cons (.op2 .ix (.var 1) (.cst (.int 1))) .nil) .yes)))) (.cons (.ret (.tup (.cons (.cst (.str "text")) (.cons (.cst (.int 1)) .nil))))
 .nil) .nil)
 (.cons (.ift (.and (.op2 .ne (.op2 .ix (.var 1) (.cst (.int 0))) (.cst (.str "-"))) (.or (.op2 .eq (.op2 .ix (.var 1) (.cst (.int 0))) (.cst (.str ""))) (.not (.op1 .all (.comp [3] (.op2 .isin (.var 3) (.cst (.str "0123456"))) (.one 3) (.cons (.op2 .ix (.var 1) (.cst (.int 0))) .nil) .yes))))) (.cons (.ret (.tup (.cons (.cst (.str "text")) (.cons (.cst (.int 1)) .nil))))
 .nil) .nil)
 (.cons (.asg 2 (.ife (.op2 .eq (.op2 .ix (.var 1) (.cst (.int 0))) (.cst (.str "-"))) (.tup .nil) (.op1 .tuple (.comp [3] (.op1 .int (.var 3)) (.one 3) (.cons (.op2 .ix (.var 1) (.cst (.int 0))) .nil) .yes))))
 (.cons (.ift (.or (.not (.op1 .all (.comp [4] (.op2 .lt (.op2 .ix (.var 2) (.var 4)) (.op2 .ix (.var 2) (.op2 .add (.var 4) (.cst (.int 1))))) (.one 4) (.rng (.op2 .sub (.op1 .len (.var 2)) (.cst (.int 1)))) .yes))) (.op2 .ne (.op1 .len (.op2 .ix (.var 1) (.cst (.int 1)))) (.call 26 (.cons (.op1 .len (.var 2)) .nil)))) (.cons (.ret (.tup (.cons (.cst (.str "text")) (.cons (.cst (.int 1)) .nil))))
 .nil) .nil)
 (.cons (.ret (.tup (.cons (.cst (.str "told")) (.cons (.tup (.cons (.var 2) (.cons (.op1 .tuple (.comp [3] (.op1 .int (.var 3)) (.one 3) (.cons (.op2 .ix (.var 1) (.cst (.int 1))) .nil) .yes)) .nil))) .nil))))
 .nil))))))
def n29 : List Str := ["text", "sign"]
def ir29 : S := (.cons (.ift (.or (.op2 .lt (.op1 .len (.var 0)) (.cst (.int 1))) (.or (.op2 .gt (.op1 .len (.var 0)) (.cst (.int 7))) (.not (.op1 .all (.comp [1] (.op2 .isin (.var 1) (.cst (.str "01"))) (.one 1) (.cons (.var 0) .nil) .yes))))) (.cons (.ret (.tup (.cons (.cst (.str "text")) (.cons (.cst (.int 1)) .nil))))
 .nil) .nil)
 (.cons (.ret (.tup (.cons (.cst (.str "told")) (.cons (.op1 .tuple (.comp [1] (.op1 .int (.var 1)) (.one 1) (.cons (.var 0) .nil) .yes)) .nil))))
 .nil))
def n30 : List Str := ["call", "found", "error", "flags"]
def ir30 : S := (.cons (.tri (.cons (.asg 1 (.act 0))
 (.cons (.ret (.ife (.isi (.var 1) [(.own 6)]) (.tup (.cons (.cst (.str "told")) (.cons (.fld (.var 1) 2) .nil))) (.tup (.cons (.cst (.str "told")) (.cons (.var 1) .nil)))))
 .nil)) 0 2 (.cons (.new 3 (.lst (.cons (.exisi 2 4) (.cons (.exisi 2 3) (.cons (.exisi 2 5) .nil)))))
 (.cons (.expr (.app 3 (.exisi 2 2)))
 (.cons (.ift (.or (.op2 .ne (.opl .count (.var 3) (.cst (.bl true))) (.cst (.int 1))) (.not (.exve 2))) (.cons (.ret (.tup (.cons (.cst (.str "refused")) (.cons (.cst .non) .nil))))
 .nil) .nil)
 (.cons (.ret (.ife (.op2 .ix (.var 3) (.cst (.int 0))) (.tup (.cons (.cst (.str "text")) (.cons (.exfld 2 1) .nil))) (.tup (.cons (.cst (.str "none")) (.cons (.opl .index (.var 3) (.cst (.bl true))) .nil)))))
 .nil)))))
 .nil)
def n31 : List Str := ["hand", "text", "at", "kind", "rows", "to", "some"]
def ir31 : S := (.cons (.parn [2, 3] [false, false] (.cons (.call 21 (.cons (.var 0) (.cons (.op1 .len (.var 1)) .nil))) (.cons (.call 21 (.cons (.var 0) (.cons (.cst (.int 6)) .nil))) .nil)))
 (.cons (.ift (.op2 .eq (.var 3) (.cst (.int 0))) (.cons (.ret (.op2 .add (.cut (.var 1) .no (.cons (.var 2) .nil)) (.cut (.var 1) (.cons (.op2 .add (.var 2) (.cst (.int 1))) .nil) .no)))
 .nil) .nil)
 (.cons (.ift (.op2 .eq (.var 3) (.cst (.int 1))) (.cons (.ret (.op2 .add (.op2 .add (.cut (.var 1) .no (.cons (.var 2) .nil)) (.call 22 (.cons (.var 0) (.cons (.lst (.cons (.cst (.str " ")) (.cons (.cst (.str "-")) (.cons (.cst (.str "\n")) (.cons (.cst (.str "0")) (.cons (.cst (.str "1")) (.cons (.cst (.str "2")) (.cons (.cst (.str "a")) (.cons (.cst (.str ":")) (.cons (.cst (.str "01")) .nil)))))))))) .nil)))) (.cut (.var 1) (.cons (.var 2) .nil) .no)))
 .nil) .nil)
 (.cons (.ift (.op2 .eq (.var 3) (.cst (.int 2))) (.cons (.ret (.op2 .add (.op2 .add (.cut (.var 1) .no (.cons (.var 2) .nil)) (.cut (.var 1) (.cons (.var 2) .nil) (.cons (.op2 .add (.var 2) (.cst (.int 1))) .nil))) (.cut (.var 1) (.cons (.var 2) .nil) .no)))
 .nil) .nil)
 (.cons (.asg 4 (.opm .split (.var 1) (.cst (.str "\n"))))
 (.cons (.asg 5 (.call 21 (.cons (.var 0) (.cons (.op1 .len (.var 4)) .nil))))
 (.cons (.ift (.op2 .eq (.var 3) (.cst (.int 3))) (.cons (.ret (.opm .join (.cst (.str "\n")) (.op2 .add (.cut (.var 4) .no (.cons (.var 5) .nil)) (.cut (.var 4) (.cons (.op2 .add (.var 5) (.cst (.int 1))) .nil) .no))))
 .nil) .nil)
 (.cons (.ift (.op2 .eq (.var 3) (.cst (.int 4))) (.cons (.ret (.opm .join (.cst (.str "\n")) (.op2 .add (.op2 .add (.cut (.var 4) .no (.cons (.var 5) .nil)) (.cut (.var 4) (.cons (.var 5) .nil) (.cons (.op2 .add (.var 5) (.cst (.int 1))) .nil))) (.cut (.var 4) (.cons (.var 5) .nil) .no))))
 .nil) .nil)
 (.cons (.asg 6 (.lst (.cons (.cst (.str "")) (.cons (.cst (.str "\n")) (.cons (.cst (.str "01")) (.cons (.cst (.str "01\n")) (.cons (.cst (.str "01\n10\n")) (.cons (.cst (.str "0101\n0011\n")) (.cons (.op2 .mul (.cst (.str "\n")) (.cst (.int 8))) (.cons (.cst (.str "-:1")) (.cons (.cst (.str ":1")) (.cons (.cst (.str "0:01")) (.cons (.cst (.str "10:0101")) (.cons (.cst (.str "7:01")) .nil))))))))))))))
 (.cons (.ret (.call 22 (.cons (.var 0) (.cons (.op2 .add (.var 6) (.lst (.cons (.cst (.str "01:0110")) (.cons (.cst (.str "00:0110")) (.cons (.cst (.str "0:011")) (.cons (.cst (.str "-:")) (.cons (.cst (.str "01234560")) (.cons (.cst (.str "0000000")) (.cons (.cst (.str "00000000")) .nil))))))))) .nil))))
 .nil))))))))))
def n32 : List Str := ["hand", "many", "state", "lot", "rule", "turn", "said", "bad", "odd", "some", "tables", "texts", "lamp", "number", "bit", "table", "text"]
def ir32 : S := (.cons (.asg 1 (.op2 .add (.cst (.int 1)) (.call 21 (.cons (.var 0) (.cons (.cst (.int 4)) .nil)))))
 (.cons (.parn [10, 2] [false, false] (.cons (.call 24 (.cons (.var 0) (.cons (.var 1) .nil))) (.cons (.op1 .tuple (.comp [12] (.call 21 (.cons (.var 0) (.cons (.cst (.int 2)) .nil))) (.one 12) (.rng (.op2 .add (.cst (.int 1)) (.call 21 (.cons (.var 0) (.cons (.cst (.int 7)) .nil))))) .yes)) .nil)))
 (.cons (.asg 3 (.cut (.op1 .tuple (.comp [12] (.var 12) (.one 12) (.rng (.cst (.int 7))) (.op2 .eq (.call 21 (.cons (.var 0) (.cons (.cst (.int 3)) .nil))) (.cst (.int 0))))) .no (.cons (.cst (.int 4)) .nil)))
 (.cons (.asg 4 (.tup (.cons (.var 3) (.cons (.op1 .tuple (.comp [13] (.call 21 (.cons (.var 0) (.cons (.cst (.int 2)) .nil))) (.one 13) (.rng (.call 26 (.cons (.op1 .len (.var 3)) .nil))) .yes)) .nil))))
 (.cons (.new 11 (.lst (.cons (.opm .join (.cst (.str "")) (.comp [15] (.op2 .add (.opm .join (.cst (.str "")) (.comp [14] (.op1 .str (.var 14)) (.one 14) (.cons (.var 15) .nil) .yes)) (.cst (.str "\n"))) (.one 15) (.cons (.var 10) .nil) .yes)) .nil)))
 (.cons (.expr (.app 11 (.op2 .add (.ife (.op2 .gt (.op1 .len (.var 3)) (.cst (.int 0))) (.opm .join (.cst (.str "")) (.comp [12] (.op1 .str (.var 12)) (.one 12) (.cons (.var 3) .nil) .yes)) (.cst (.str "-"))) (.cst (.str ":")))))
 (.cons (.setx 11 (.cst (.int 1)) (.op2 .add (.op2 .ix (.var 11) (.cst (.int 1))) (.opm .join (.cst (.str "")) (.comp [14] (.op1 .str (.var 14)) (.one 14) (.cons (.op2 .ix (.var 4) (.cst (.int 1))) .nil) .yes))))
 (.cons (.expr (.app 11 (.opm .join (.cst (.str "")) (.comp [14] (.op1 .str (.var 14)) (.one 14) (.cons (.var 2) .nil) .yes))))
 (.cons (.ift (.not (.call 23 (.cons (.lst (.cons (.call 10 (.cons (.mk 6 (.cons (.var 10) .nil)) .nil)) (.cons (.call 15 (.cons (.var 4) .nil)) (.cons (.call 18 (.cons (.var 2) .nil)) .nil)))) (.cons (.var 11) .nil)))) (.cons (.ret (.cst (.bl false)))
 .nil) .nil)
 (.cons (.ift (.or (.eqo true 6 (.call 13 (.cons (.op2 .ix (.var 11) (.cst (.int 0))) .nil)) (.mk 6 (.cons (.var 10) .nil))) (.not (.call 23 (.cons (.lst (.cons (.call 17 (.cons (.op2 .ix (.var 11) (.cst (.int 1))) .nil)) (.cons (.call 19 (.cons (.op2 .ix (.var 11) (.cst (.int 2))) .nil)) .nil))) (.cons (.lst (.cons (.var 4) (.cons (.var 2) .nil))) .nil))))) (.cons (.ret (.cst (.bl false)))
 .nil) .nil)
 (.cons (.for (.one 5) (.rng (.cst (.int 5))) (.cons (.asg 9 (.comp [16] (.call 31 (.cons (.var 0) (.cons (.var 16) .nil))) (.one 16) (.cons (.var 11) .nil) .yes))
 (.cons (.ift (.not (.call 23 (.cons (.lam 30 (.call 13 (.cons (.op2 .ix (.var 9) (.cst (.int 0))) .nil))) (.cons (.call 27 (.cons (.op2 .ix (.var 9) (.cst (.int 0))) .nil)) .nil)))) (.cons (.ret (.cst (.bl false)))
 .nil) .nil)
 (.cons (.ift (.not (.call 23 (.cons (.lam 30 (.call 17 (.cons (.op2 .ix (.var 9) (.cst (.int 1))) .nil))) (.cons (.call 28 (.cons (.op2 .ix (.var 9) (.cst (.int 1))) .nil)) .nil)))) (.cons (.ret (.cst (.bl false)))
 .nil) .nil)
 (.cons (.ift (.not (.call 23 (.cons (.lam 30 (.call 19 (.cons (.op2 .ix (.var 9) (.cst (.int 2))) .nil))) (.cons (.call 29 (.cons (.op2 .ix (.var 9) (.cst (.int 2))) .nil)) .nil)))) (.cons (.ret (.cst (.bl false)))
 .nil) .nil)
 .nil)))) [])
 (.cons (.asg 8 (.call 22 (.cons (.var 0) (.cons (.lst (.cons (.cst .non) (.cons (.cst (.int 0)) (.cons (.tup .nil) (.cons (.lst (.cons (.op2 .ix (.var 11) (.cst (.int 0))) .nil)) (.cons .dct0 (.cons (.cst (.bl true)) .nil))))))) .nil))))
 (.cons (.new 6 (.lst (.cons (.lam 30 (.call 13 (.cons (.var 8) .nil))) .nil)))
 (.cons (.expr (.app 6 (.lam 30 (.call 17 (.cons (.var 8) .nil)))))
 (.cons (.expr (.app 6 (.lam 30 (.call 19 (.cons (.var 8) .nil)))))
 (.cons (.expr (.app 6 (.lam 30 (.call 10 (.cons (.call 22 (.cons (.var 0) (.cons (.lst (.cons (.var 8) (.cons (.var 10) (.cons (.op2 .ix (.var 11) (.cst (.int 0))) .nil)))) .nil))) .nil)))))
 (.cons (.asg 7 (.call 22 (.cons (.var 0) (.cons (.lst (.cons (.var 8) (.cons (.tup (.cons (.tup (.cons (.cst (.int 0)) (.cons (.cst (.int 0)) .nil))) (.cons (.op2 .mul (.tup (.cons (.cst (.int 1)) .nil)) (.cst (.int 4))) .nil))) (.cons (.tup (.cons (.tup (.cons (.cst (.int 7)) .nil)) (.cons (.tup (.cons (.cst (.int 0)) (.cons (.cst (.int 1)) .nil))) .nil))) (.cons (.tup (.cons (.tup (.cons (.cst (.int 0)) .nil)) (.cons (.tup (.cons (.cst (.int 0)) (.cons (.cst (.int 1)) (.cons (.cst (.int 1)) .nil)))) .nil))) .nil))))) .nil))))
 (.cons (.expr (.app 6 (.lam 30 (.call 15 (.cons (.var 7) .nil)))))
 (.cons (.expr (.app 6 (.lam 30 (.call 18 (.cons (.call 22 (.cons (.var 0) (.cons (.lst (.cons (.var 8) (.cons (.op2 .mul (.tup (.cons (.cst (.int 0)) .nil)) (.cst (.int 8))) (.cons (.tup (.cons (.cst (.int 2)) .nil)) (.cons (.tup (.cons (.cst (.bl true)) .nil)) (.cons (.lst (.cons (.cst (.int 0)) .nil)) (.cons (.cst (.str "0")) .nil))))))) .nil))) .nil)))))
 (.cons (.ret (.op2 .eq (.var 6) (.op2 .add (.op2 .mul (.lst (.cons (.tup (.cons (.cst (.str "text")) (.cons (.cst (.int 0)) .nil))) .nil)) (.cst (.int 3))) (.lst (.cons (.tup (.cons (.cst (.str "none")) (.cons (.cst (.int 1)) .nil))) (.cons (.tup (.cons (.cst (.str "none")) (.cons (.cst (.int 2)) .nil))) (.cons (.tup (.cons (.cst (.str "none")) (.cons (.cst (.int 3)) .nil))) .nil)))))))
 .nil))))))))))))))))))))
def n33 : List Str := ["script", "hand", "known", "turn"]
def ir33 : S := (.cons (.new 1 (.call 20 (.cons (.var 0) .nil)))
 (.cons (.asg 2 (.mk 6 (.cons (.tup (.cons (.tup (.cons (.cst (.int 0)) (.cons (.cst (.int 1)) (.cons (.cst (.int 0)) (.cons (.cst (.int 1)) .nil))))) (.cons (.tup (.cons (.cst (.int 1)) (.cons (.cst (.int 1)) (.cons (.cst (.int 0)) (.cons (.cst (.int 0)) .nil))))) .nil))) .nil)))
 (.cons (.ift (.or (.op2 .ne (.call 10 (.cons (.var 2) .nil)) (.cst (.str "0101\n1100\n"))) (.eqo true 6 (.call 13 (.cons (.cst (.str "0101\n1100\n")) .nil)) (.var 2))) (.cons (.ret (.cst (.bl false)))
 .nil) .nil)
 (.cons (.ret (.op1 .all (.comp [3] (.call 32 (.cons (.var 1) .nil)) (.one 3) (.rng (.cst (.int 4))) .yes)))
 .nil))))
def n34 : List Str := ["self", "part"]
def n35 : List Str := ["self", "line"]
def n36 : List Str := ["self", "tables", "at", "table"]
def ir36 : S := (.cons (.ift (.or (.not (.isi (.var 1) [.tuple])) (.not (.chain .le .le (.cst (.int 1)) (.op1 .len (.var 1)) (.glb 0)))) (.cons (.rse 1 (.cons (.cst (.str "tables")) .nil))
 .nil) .nil)
 (.cons (.for (.many [2, 3]) (.enum (.var 1)) (.cons (.ift (.not (.call 2 (.cons (.op2 .ix (.glb 1) (.op1 .len (.var 1))) (.cons (.var 3) .nil)))) (.cons (.rse 1 (.cons (.var 2) .nil))
 .nil) .nil)
 .nil) [])
 (.cons (.setf 0 6 0 (.var 1))
 (.cons (.setf 0 6 1 (.op1 .len (.var 1)))
 .nil))))
def n37 : List Str := ["self", "other"]
def ir37 : S := (.cons (.ift (.not (.isi (.var 1) [(.own 6)])) (.cons (.ret (.cst (.bl false)))
 .nil) .nil)
 (.cons (.ret (.op2 .eq (.fld (.var 0) 2) (.fld (.var 1) 2)))
 .nil))
def n38 : List Str := ["self", "state"]
def ir38 : S := (.cons (.ift (.not (.call 2 (.cons (.fld (.var 0) 3) (.cons (.var 1) .nil)))) (.cons (.rse 2 .nil)
 .nil) .nil)
 (.cons (.ret (.call 5 (.cons (.var 0) (.cons (.call 4 (.cons (.var 1) .nil)) .nil))))
 .nil))
def sub : Nat → Nat → Bool
  | 0, 0 => true
  | 1, 0 => true
  | 1, 1 => true
  | 2, 0 => true
  | 2, 2 => true
  | 3, 0 => true
  | 3, 3 => true
  | 4, 0 => true
  | 4, 4 => true
  | 5, 0 => true
  | 5, 5 => true
  | 6, 6 => true
  | _, _ => false
def nf : Nat → Nat → Option Nat
  | 6, 2 => some 0
  | 6, 3 => some 1
  | _, _ => none
def xfl : Nat → Option Nat
  | 1 => some 0
  | 4 => some 1
  | _ => none
def glD : Nat → Option D
  | 0 => some (.int 7)
  | 1 => some (.tup [(.int 1), (.int 2), (.int 4), (.int 8), (.int 16), (.int 32), (.int 64), (.int 128)])
  | 2 => some (.str "-")
  | 3 => some (.str ":")
  | 4 => some (.str "0123456")
  | _ => none
def Cb : Cl := { gl := glD, G := fun _ _ _ => none, mkO := fun _ _ _ => none, GT := fun _ _ _ => none, th := fun _ => none, eqo := fun _ _ _ _ => none, sub := sub, nf := nf, kc := fun | 6 => true | _ => false, kf := fun _ => false, km := fun _ => false, xfl := xfl }
def Cs0 : Cl := { Cb with GT := fun i t h => if i = 30 then okOnly (run (Cb.withTh t) n30.length ir30 [.th] h) else none }
def g0 : List W → Hs → R Ev.X := (run Cs0 n0.length ir0)
def Cs1 : Cl := Cs0.add 0 g0
def g1 : List W → Hs → R Ev.X := (run Cs1 n1.length ir1)
def Cs2 : Cl := Cs1.add 1 g1
def g2 : List W → Hs → R Ev.X := (run Cs2 n2.length ir2)
def Cs3 : Cl := Cs2.add 2 g2
def g3 : List W → Hs → R Ev.X := (run Cs3 n3.length ir3)
def Cs4 : Cl := Cs3.add 3 g3
def g4 : List W → Hs → R Ev.X := (run Cs4 n4.length ir4)
def Cs5 : Cl := Cs4.add 4 g4
def g5 : List W → Hs → R Ev.X := (run Cs5 n5.length ir5)
def Cs6 : Cl := Cs5.add 5 g5
def g6 : List W → Hs → R Ev.X := (run Cs6 n6.length ir6)
def Cs7 : Cl := Cs6.add 6 g6
def g7 : List W → Hs → R Ev.X := (run Cs7 n7.length ir7)
def Cs8 : Cl := Cs7.add 7 g7
def g8 : List W → Hs → R Ev.X := (run Cs8 n8.length ir8)
def Cs9 : Cl := Cs8.add 8 g8
def g9 : List W → Hs → R Ev.X := (run Cs9 n9.length ir9)
def Cs10 : Cl := Cs9.add 9 g9
def g10 : List W → Hs → R Ev.X := (run Cs10 n10.length ir10)
def Cs11 : Cl := Cs10.add 10 g10
def g11 : List W → Hs → R Ev.X := (run Cs11 n11.length ir11)
def Cs12 : Cl := Cs11.add 11 g11
def g12 : List W → Hs → R Ev.X := (run Cs12 n12.length ir12)
def Cs13 : Cl := Cs12.add 12 g12
def g14 : List W → Hs → R Ev.X := (run Cs13 n14.length ir14)
def Cs14 : Cl := Cs13.add 14 g14
def g15 : List W → Hs → R Ev.X := (run Cs14 n15.length ir15)
def Cs15 : Cl := Cs14.add 15 g15
def g16 : List W → Hs → R Ev.X := (run Cs15 n16.length ir16)
def Cs16 : Cl := Cs15.add 16 g16
def g17 : List W → Hs → R Ev.X := (run Cs16 n17.length ir17)
def Cs17 : Cl := Cs16.add 17 g17
def g18 : List W → Hs → R Ev.X := (run Cs17 n18.length ir18)
def Cs18 : Cl := Cs17.add 18 g18
def g19 : List W → Hs → R Ev.X := (run Cs18 n19.length ir19)
def Cs19 : Cl := Cs18.add 19 g19
def g20 : List W → Hs → R Ev.X := (run Cs19 n20.length ir20)
def Cs20 : Cl := Cs19.add 20 g20
def g21 : List W → Hs → R Ev.X := (run Cs20 n21.length ir21)
def Cs21 : Cl := Cs20.add 21 g21
def g22 : List W → Hs → R Ev.X := (run Cs21 n22.length ir22)
def Cs22 : Cl := Cs21.add 22 g22
def g23 : List W → Hs → R Ev.X := (fixN Cs22 23 n23.length ir23 8)
def Cs23 : Cl := Cs22.add 23 g23
def g25 : List W → Hs → R Ev.X := (run Cs23 n25.length ir25)
def Cs24 : Cl := Cs23.add 25 g25
def g24 : List W → Hs → R Ev.X := (run Cs24 n24.length ir24)
def Cs25 : Cl := Cs24.add 24 g24
def g26 : List W → Hs → R Ev.X := (run Cs25 n26.length ir26)
def Cs26 : Cl := Cs25.add 26 g26
def g27 : List W → Hs → R Ev.X := (run Cs26 n27.length ir27)
def Cs27 : Cl := Cs26.add 27 g27
def g28 : List W → Hs → R Ev.X := (run Cs27 n28.length ir28)
def Cs28 : Cl := Cs27.add 28 g28
def g29 : List W → Hs → R Ev.X := (run Cs28 n29.length ir29)
def Cs29 : Cl := Cs28.add 29 g29
def g31 : List W → Hs → R Ev.X := (run Cs29 n31.length ir31)
def Cs30 : Cl := Cs29.add 31 g31
def g36 : List W → Hs → R Ev.X := (run Cs30 n36.length ir36)
def Cs31 : Cl := Cs30.addMk 6 g36
def g13 : List W → Hs → R Ev.X := (run Cs31 n13.length ir13)
def Cs32 : Cl := Cs31.add 13 g13
def g37 : List W → Hs → R Ev.X := (run Cs32 n37.length ir37)
def Cs33 : Cl := Cs32.addEq 6 g37
def g32 : List W → Hs → R Ev.X := (run Cs33 n32.length ir32)
def Cs34 : Cl := Cs33.add 32 g32
def g33 : List W → Hs → R Ev.X := (run Cs34 n33.length ir33)
def Cs35 : Cl := Cs34.add 33 g33
theorem R0 (a0 : W) (h : Hs) : g0 [a0] h = endR h.length (ex Cs0 ir0 [some a0] h) := rfl
theorem R1 (a0 a1 a2 : W) (h : Hs) : g1 [a0, a1, a2] h = endR h.length (ex Cs1 ir1 [some a0, some a1, some a2] h) := rfl
theorem R2 (a0 a1 : W) (h : Hs) : g2 [a0, a1] h = endR h.length (ex Cs2 ir2 [some a0, some a1, none] h) := rfl
theorem R3 (a0 a1 : W) (h : Hs) : g3 [a0, a1] h = endR h.length (ex Cs3 ir3 [some a0, some a1, none, none] h) := rfl
theorem R4 (a0 : W) (h : Hs) : g4 [a0] h = endR h.length (ex Cs4 ir4 [some a0, none, none] h) := rfl
theorem R5 (a0 a1 : W) (h : Hs) : g5 [a0, a1] h = endR h.length (ex Cs5 ir5 [some a0, some a1, none] h) := rfl
theorem R6 (a0 : W) (h : Hs) : g6 [a0] h = endR h.length (ex Cs6 ir6 [some a0] h) := rfl
theorem R7 (a0 : W) (h : Hs) : g7 [a0] h = endR h.length (ex Cs7 ir7 [some a0] h) := rfl
theorem R8 (a0 a1 : W) (h : Hs) : g8 [a0, a1] h = endR h.length (ex Cs8 ir8 [some a0, some a1] h) := rfl
theorem R9 (a0 : W) (h : Hs) : g9 [a0] h = endR h.length (ex Cs9 ir9 [some a0, none] h) := rfl
theorem R10 (a0 : W) (h : Hs) : g10 [a0] h = endR h.length (ex Cs10 ir10 [some a0, none] h) := rfl
theorem R11 (a0 a1 : W) (h : Hs) : g11 [a0, a1] h = endR h.length (ex Cs11 ir11 [some a0, some a1, none] h) := rfl
theorem R12 (a0 : W) (h : Hs) : g12 [a0] h = endR h.length (ex Cs12 ir12 [some a0, none] h) := rfl
theorem R14 (a0 : W) (h : Hs) : g14 [a0] h = endR h.length (ex Cs13 ir14 [some a0] h) := rfl
theorem R15 (a0 : W) (h : Hs) : g15 [a0] h = endR h.length (ex Cs14 ir15 [some a0] h) := rfl
theorem R16 (a0 : W) (h : Hs) : g16 [a0] h = endR h.length (ex Cs15 ir16 [some a0, none] h) := rfl
theorem R17 (a0 : W) (h : Hs) : g17 [a0] h = endR h.length (ex Cs16 ir17 [some a0, none, none, none] h) := rfl
theorem R18 (a0 : W) (h : Hs) : g18 [a0] h = endR h.length (ex Cs17 ir18 [some a0] h) := rfl
theorem R19 (a0 : W) (h : Hs) : g19 [a0] h = endR h.length (ex Cs18 ir19 [some a0] h) := rfl
theorem R20 (a0 : W) (h : Hs) : g20 [a0] h = endR h.length (ex Cs19 ir20 [some a0, none, none] h) := rfl
theorem R21 (a0 a1 : W) (h : Hs) : g21 [a0, a1] h = endR h.length (ex Cs20 ir21 [some a0, some a1, none, none, none] h) := rfl
theorem R22 (a0 a1 : W) (h : Hs) : g22 [a0, a1] h = endR h.length (ex Cs21 ir22 [some a0, some a1] h) := rfl
theorem R23 (m : Nat) (a0 a1 : W) (h : Hs) : fixN Cs22 23 n23.length ir23 (m + 1) [a0, a1] h = endR h.length (ex (Cs22.add 23 (fixN Cs22 23 n23.length ir23 m)) ir23 [some a0, some a1, none, none] h) := rfl
theorem R25 (a0 : W) (h : Hs) : g25 [a0] h = endR h.length (ex Cs23 ir25 [some a0, none, none, none] h) := rfl
theorem R24 (a0 a1 : W) (h : Hs) : g24 [a0, a1] h = endR h.length (ex Cs24 ir24 [some a0, some a1, none, none, none, none, none, none, none, none, none, none, none, none, none, none, none, none, none] h) := rfl
theorem R26 (a0 : W) (h : Hs) : g26 [a0] h = endR h.length (ex Cs25 ir26 [some a0] h) := rfl
theorem R27 (a0 : W) (h : Hs) : g27 [a0] h = endR h.length (ex Cs26 ir27 [some a0, none, none, none, none, none] h) := rfl
theorem R28 (a0 : W) (h : Hs) : g28 [a0] h = endR h.length (ex Cs27 ir28 [some a0, none, none, none, none] h) := rfl
theorem R29 (a0 : W) (h : Hs) : g29 [a0] h = endR h.length (ex Cs28 ir29 [some a0, none] h) := rfl
theorem R31 (a0 a1 : W) (h : Hs) : g31 [a0, a1] h = endR h.length (ex Cs29 ir31 [some a0, some a1, none, none, none, none, none] h) := rfl
theorem R36 (a0 a1 : W) (h : Hs) : g36 [a0, a1] h = endR h.length (ex Cs30 ir36 [some a0, some a1, none, none] h) := rfl
theorem R13 (a0 : W) (h : Hs) : g13 [a0] h = endR h.length (ex Cs31 ir13 [some a0, none, none, none, none] h) := rfl
theorem R37 (a0 a1 : W) (h : Hs) : g37 [a0, a1] h = endR h.length (ex Cs32 ir37 [some a0, some a1] h) := rfl
theorem R32 (a0 : W) (h : Hs) : g32 [a0] h = endR h.length (ex Cs33 ir32 [some a0, none, none, none, none, none, none, none, none, none, none, none, none, none, none, none, none] h) := rfl
theorem R33 (a0 : W) (h : Hs) : g33 [a0] h = endR h.length (ex Cs34 ir33 [some a0, none, none, none] h) := rfl
@[simp] theorem Cgl_0 : Cs0.gl = glD := rfl
@[simp] theorem Csub_0 : Cs0.sub = sub := rfl
@[simp] theorem Cnf_0 : Cs0.nf = nf := rfl
@[simp] theorem Cxfl_0 : Cs0.xfl = xfl := rfl
@[simp] theorem Ckc_0 : Cs0.kc = Cb.kc := rfl
@[simp] theorem Cbgl : Cb.gl = glD := rfl
@[simp] theorem Cbsub : Cb.sub = sub := rfl
@[simp] theorem Cbnf : Cb.nf = nf := rfl
@[simp] theorem Cbxfl : Cb.xfl = xfl := rfl
@[simp] theorem T0_30 (t : Hs → R Ev.X) (h : Hs) : Cs0.GT 30 t h = okOnly (run (Cb.withTh t) n30.length ir30 [.th] h) := rfl
@[simp] theorem Cgl_1 : Cs1.gl = glD := (Cl.add_gl _ _ _).trans Cgl_0
@[simp] theorem Csub_1 : Cs1.sub = sub := (Cl.add_sub _ _ _).trans Csub_0
@[simp] theorem Cnf_1 : Cs1.nf = nf := (Cl.add_nf _ _ _).trans Cnf_0
@[simp] theorem Cxfl_1 : Cs1.xfl = xfl := (Cl.add_xfl _ _ _).trans Cxfl_0
@[simp] theorem Ckc_1 : Cs1.kc = Cb.kc := (Cl.add_kc _ _ _).trans Ckc_0
@[simp] theorem G1_0 : Cs1.G 0 = g0 := Cl.add_G_eq _ _ _
@[simp] theorem T1_30 (t : Hs → R Ev.X) (h : Hs) : Cs1.GT 30 t h = okOnly (run (Cb.withTh t) n30.length ir30 [.th] h) := (Cl.add_GT _ _ _ _ _ _).trans (T0_30 t h)
@[simp] theorem Cgl_2 : Cs2.gl = glD := (Cl.add_gl _ _ _).trans Cgl_1
@[simp] theorem Csub_2 : Cs2.sub = sub := (Cl.add_sub _ _ _).trans Csub_1
@[simp] theorem Cnf_2 : Cs2.nf = nf := (Cl.add_nf _ _ _).trans Cnf_1
@[simp] theorem Cxfl_2 : Cs2.xfl = xfl := (Cl.add_xfl _ _ _).trans Cxfl_1
@[simp] theorem Ckc_2 : Cs2.kc = Cb.kc := (Cl.add_kc _ _ _).trans Ckc_1
@[simp] theorem G2_1 : Cs2.G 1 = g1 := Cl.add_G_eq _ _ _
@[simp] theorem T2_30 (t : Hs → R Ev.X) (h : Hs) : Cs2.GT 30 t h = okOnly (run (Cb.withTh t) n30.length ir30 [.th] h) := (Cl.add_GT _ _ _ _ _ _).trans (T1_30 t h)
@[simp] theorem Cgl_3 : Cs3.gl = glD := (Cl.add_gl _ _ _).trans Cgl_2
@[simp] theorem Csub_3 : Cs3.sub = sub := (Cl.add_sub _ _ _).trans Csub_2
@[simp] theorem Cnf_3 : Cs3.nf = nf := (Cl.add_nf _ _ _).trans Cnf_2
@[simp] theorem Cxfl_3 : Cs3.xfl = xfl := (Cl.add_xfl _ _ _).trans Cxfl_2
@[simp] theorem Ckc_3 : Cs3.kc = Cb.kc := (Cl.add_kc _ _ _).trans Ckc_2
@[simp] theorem G3_1 : Cs3.G 1 = g1 := (Cl.add_G_ne _ _ _ _ (by decide)).trans G2_1
@[simp] theorem G3_2 : Cs3.G 2 = g2 := Cl.add_G_eq _ _ _
@[simp] theorem T3_30 (t : Hs → R Ev.X) (h : Hs) : Cs3.GT 30 t h = okOnly (run (Cb.withTh t) n30.length ir30 [.th] h) := (Cl.add_GT _ _ _ _ _ _).trans (T2_30 t h)
@[simp] theorem Cgl_4 : Cs4.gl = glD := (Cl.add_gl _ _ _).trans Cgl_3
@[simp] theorem Csub_4 : Cs4.sub = sub := (Cl.add_sub _ _ _).trans Csub_3
@[simp] theorem Cnf_4 : Cs4.nf = nf := (Cl.add_nf _ _ _).trans Cnf_3
@[simp] theorem Cxfl_4 : Cs4.xfl = xfl := (Cl.add_xfl _ _ _).trans Cxfl_3
@[simp] theorem Ckc_4 : Cs4.kc = Cb.kc := (Cl.add_kc _ _ _).trans Ckc_3
@[simp] theorem G4_2 : Cs4.G 2 = g2 := (Cl.add_G_ne _ _ _ _ (by decide)).trans G3_2
@[simp] theorem G4_3 : Cs4.G 3 = g3 := Cl.add_G_eq _ _ _
@[simp] theorem T4_30 (t : Hs → R Ev.X) (h : Hs) : Cs4.GT 30 t h = okOnly (run (Cb.withTh t) n30.length ir30 [.th] h) := (Cl.add_GT _ _ _ _ _ _).trans (T3_30 t h)
@[simp] theorem Cgl_5 : Cs5.gl = glD := (Cl.add_gl _ _ _).trans Cgl_4
@[simp] theorem Csub_5 : Cs5.sub = sub := (Cl.add_sub _ _ _).trans Csub_4
@[simp] theorem Cnf_5 : Cs5.nf = nf := (Cl.add_nf _ _ _).trans Cnf_4
@[simp] theorem Cxfl_5 : Cs5.xfl = xfl := (Cl.add_xfl _ _ _).trans Cxfl_4
@[simp] theorem Ckc_5 : Cs5.kc = Cb.kc := (Cl.add_kc _ _ _).trans Ckc_4
@[simp] theorem G5_2 : Cs5.G 2 = g2 := (Cl.add_G_ne _ _ _ _ (by decide)).trans G4_2
@[simp] theorem G5_3 : Cs5.G 3 = g3 := (Cl.add_G_ne _ _ _ _ (by decide)).trans G4_3
@[simp] theorem G5_4 : Cs5.G 4 = g4 := Cl.add_G_eq _ _ _
@[simp] theorem T5_30 (t : Hs → R Ev.X) (h : Hs) : Cs5.GT 30 t h = okOnly (run (Cb.withTh t) n30.length ir30 [.th] h) := (Cl.add_GT _ _ _ _ _ _).trans (T4_30 t h)
@[simp] theorem Cgl_6 : Cs6.gl = glD := (Cl.add_gl _ _ _).trans Cgl_5
@[simp] theorem Csub_6 : Cs6.sub = sub := (Cl.add_sub _ _ _).trans Csub_5
@[simp] theorem Cnf_6 : Cs6.nf = nf := (Cl.add_nf _ _ _).trans Cnf_5
@[simp] theorem Cxfl_6 : Cs6.xfl = xfl := (Cl.add_xfl _ _ _).trans Cxfl_5
@[simp] theorem Ckc_6 : Cs6.kc = Cb.kc := (Cl.add_kc _ _ _).trans Ckc_5
@[simp] theorem G6_2 : Cs6.G 2 = g2 := (Cl.add_G_ne _ _ _ _ (by decide)).trans G5_2
@[simp] theorem G6_3 : Cs6.G 3 = g3 := (Cl.add_G_ne _ _ _ _ (by decide)).trans G5_3
@[simp] theorem G6_4 : Cs6.G 4 = g4 := (Cl.add_G_ne _ _ _ _ (by decide)).trans G5_4
@[simp] theorem T6_30 (t : Hs → R Ev.X) (h : Hs) : Cs6.GT 30 t h = okOnly (run (Cb.withTh t) n30.length ir30 [.th] h) := (Cl.add_GT _ _ _ _ _ _).trans (T5_30 t h)
@[simp] theorem Cgl_7 : Cs7.gl = glD := (Cl.add_gl _ _ _).trans Cgl_6
@[simp] theorem Csub_7 : Cs7.sub = sub := (Cl.add_sub _ _ _).trans Csub_6
@[simp] theorem Cnf_7 : Cs7.nf = nf := (Cl.add_nf _ _ _).trans Cnf_6
@[simp] theorem Cxfl_7 : Cs7.xfl = xfl := (Cl.add_xfl _ _ _).trans Cxfl_6
@[simp] theorem Ckc_7 : Cs7.kc = Cb.kc := (Cl.add_kc _ _ _).trans Ckc_6
@[simp] theorem G7_2 : Cs7.G 2 = g2 := (Cl.add_G_ne _ _ _ _ (by decide)).trans G6_2
@[simp] theorem G7_3 : Cs7.G 3 = g3 := (Cl.add_G_ne _ _ _ _ (by decide)).trans G6_3
@[simp] theorem G7_4 : Cs7.G 4 = g4 := (Cl.add_G_ne _ _ _ _ (by decide)).trans G6_4
@[simp] theorem G7_6 : Cs7.G 6 = g6 := Cl.add_G_eq _ _ _
@[simp] theorem T7_30 (t : Hs → R Ev.X) (h : Hs) : Cs7.GT 30 t h = okOnly (run (Cb.withTh t) n30.length ir30 [.th] h) := (Cl.add_GT _ _ _ _ _ _).trans (T6_30 t h)
@[simp] theorem Cgl_8 : Cs8.gl = glD := (Cl.add_gl _ _ _).trans Cgl_7
@[simp] theorem Csub_8 : Cs8.sub = sub := (Cl.add_sub _ _ _).trans Csub_7
@[simp] theorem Cnf_8 : Cs8.nf = nf := (Cl.add_nf _ _ _).trans Cnf_7
@[simp] theorem Cxfl_8 : Cs8.xfl = xfl := (Cl.add_xfl _ _ _).trans Cxfl_7
@[simp] theorem Ckc_8 : Cs8.kc = Cb.kc := (Cl.add_kc _ _ _).trans Ckc_7
@[simp] theorem G8_2 : Cs8.G 2 = g2 := (Cl.add_G_ne _ _ _ _ (by decide)).trans G7_2
@[simp] theorem G8_3 : Cs8.G 3 = g3 := (Cl.add_G_ne _ _ _ _ (by decide)).trans G7_3
@[simp] theorem G8_6 : Cs8.G 6 = g6 := (Cl.add_G_ne _ _ _ _ (by decide)).trans G7_6
@[simp] theorem G8_7 : Cs8.G 7 = g7 := Cl.add_G_eq _ _ _
@[simp] theorem T8_30 (t : Hs → R Ev.X) (h : Hs) : Cs8.GT 30 t h = okOnly (run (Cb.withTh t) n30.length ir30 [.th] h) := (Cl.add_GT _ _ _ _ _ _).trans (T7_30 t h)
@[simp] theorem Cgl_9 : Cs9.gl = glD := (Cl.add_gl _ _ _).trans Cgl_8
@[simp] theorem Csub_9 : Cs9.sub = sub := (Cl.add_sub _ _ _).trans Csub_8
@[simp] theorem Cnf_9 : Cs9.nf = nf := (Cl.add_nf _ _ _).trans Cnf_8
@[simp] theorem Cxfl_9 : Cs9.xfl = xfl := (Cl.add_xfl _ _ _).trans Cxfl_8
@[simp] theorem Ckc_9 : Cs9.kc = Cb.kc := (Cl.add_kc _ _ _).trans Ckc_8
@[simp] theorem G9_2 : Cs9.G 2 = g2 := (Cl.add_G_ne _ _ _ _ (by decide)).trans G8_2
@[simp] theorem G9_6 : Cs9.G 6 = g6 := (Cl.add_G_ne _ _ _ _ (by decide)).trans G8_6
@[simp] theorem G9_7 : Cs9.G 7 = g7 := (Cl.add_G_ne _ _ _ _ (by decide)).trans G8_7
@[simp] theorem G9_8 : Cs9.G 8 = g8 := Cl.add_G_eq _ _ _
@[simp] theorem T9_30 (t : Hs → R Ev.X) (h : Hs) : Cs9.GT 30 t h = okOnly (run (Cb.withTh t) n30.length ir30 [.th] h) := (Cl.add_GT _ _ _ _ _ _).trans (T8_30 t h)
@[simp] theorem Cgl_10 : Cs10.gl = glD := (Cl.add_gl _ _ _).trans Cgl_9
@[simp] theorem Csub_10 : Cs10.sub = sub := (Cl.add_sub _ _ _).trans Csub_9
@[simp] theorem Cnf_10 : Cs10.nf = nf := (Cl.add_nf _ _ _).trans Cnf_9
@[simp] theorem Cxfl_10 : Cs10.xfl = xfl := (Cl.add_xfl _ _ _).trans Cxfl_9
@[simp] theorem Ckc_10 : Cs10.kc = Cb.kc := (Cl.add_kc _ _ _).trans Ckc_9
@[simp] theorem G10_2 : Cs10.G 2 = g2 := (Cl.add_G_ne _ _ _ _ (by decide)).trans G9_2
@[simp] theorem G10_6 : Cs10.G 6 = g6 := (Cl.add_G_ne _ _ _ _ (by decide)).trans G9_6
@[simp] theorem G10_7 : Cs10.G 7 = g7 := (Cl.add_G_ne _ _ _ _ (by decide)).trans G9_7
@[simp] theorem G10_8 : Cs10.G 8 = g8 := (Cl.add_G_ne _ _ _ _ (by decide)).trans G9_8
@[simp] theorem G10_9 : Cs10.G 9 = g9 := Cl.add_G_eq _ _ _
@[simp] theorem T10_30 (t : Hs → R Ev.X) (h : Hs) : Cs10.GT 30 t h = okOnly (run (Cb.withTh t) n30.length ir30 [.th] h) := (Cl.add_GT _ _ _ _ _ _).trans (T9_30 t h)
@[simp] theorem Cgl_11 : Cs11.gl = glD := (Cl.add_gl _ _ _).trans Cgl_10
@[simp] theorem Csub_11 : Cs11.sub = sub := (Cl.add_sub _ _ _).trans Csub_10
@[simp] theorem Cnf_11 : Cs11.nf = nf := (Cl.add_nf _ _ _).trans Cnf_10
@[simp] theorem Cxfl_11 : Cs11.xfl = xfl := (Cl.add_xfl _ _ _).trans Cxfl_10
@[simp] theorem Ckc_11 : Cs11.kc = Cb.kc := (Cl.add_kc _ _ _).trans Ckc_10
@[simp] theorem G11_2 : Cs11.G 2 = g2 := (Cl.add_G_ne _ _ _ _ (by decide)).trans G10_2
@[simp] theorem G11_7 : Cs11.G 7 = g7 := (Cl.add_G_ne _ _ _ _ (by decide)).trans G10_7
@[simp] theorem G11_8 : Cs11.G 8 = g8 := (Cl.add_G_ne _ _ _ _ (by decide)).trans G10_8
@[simp] theorem G11_9 : Cs11.G 9 = g9 := (Cl.add_G_ne _ _ _ _ (by decide)).trans G10_9
@[simp] theorem G11_10 : Cs11.G 10 = g10 := Cl.add_G_eq _ _ _
@[simp] theorem T11_30 (t : Hs → R Ev.X) (h : Hs) : Cs11.GT 30 t h = okOnly (run (Cb.withTh t) n30.length ir30 [.th] h) := (Cl.add_GT _ _ _ _ _ _).trans (T10_30 t h)
@[simp] theorem Cgl_12 : Cs12.gl = glD := (Cl.add_gl _ _ _).trans Cgl_11
@[simp] theorem Csub_12 : Cs12.sub = sub := (Cl.add_sub _ _ _).trans Csub_11
@[simp] theorem Cnf_12 : Cs12.nf = nf := (Cl.add_nf _ _ _).trans Cnf_11
@[simp] theorem Cxfl_12 : Cs12.xfl = xfl := (Cl.add_xfl _ _ _).trans Cxfl_11
@[simp] theorem Ckc_12 : Cs12.kc = Cb.kc := (Cl.add_kc _ _ _).trans Ckc_11
@[simp] theorem G12_2 : Cs12.G 2 = g2 := (Cl.add_G_ne _ _ _ _ (by decide)).trans G11_2
@[simp] theorem G12_7 : Cs12.G 7 = g7 := (Cl.add_G_ne _ _ _ _ (by decide)).trans G11_7
@[simp] theorem G12_8 : Cs12.G 8 = g8 := (Cl.add_G_ne _ _ _ _ (by decide)).trans G11_8
@[simp] theorem G12_9 : Cs12.G 9 = g9 := (Cl.add_G_ne _ _ _ _ (by decide)).trans G11_9
@[simp] theorem G12_10 : Cs12.G 10 = g10 := (Cl.add_G_ne _ _ _ _ (by decide)).trans G11_10
@[simp] theorem G12_11 : Cs12.G 11 = g11 := Cl.add_G_eq _ _ _
@[simp] theorem T12_30 (t : Hs → R Ev.X) (h : Hs) : Cs12.GT 30 t h = okOnly (run (Cb.withTh t) n30.length ir30 [.th] h) := (Cl.add_GT _ _ _ _ _ _).trans (T11_30 t h)
@[simp] theorem Cgl_13 : Cs13.gl = glD := (Cl.add_gl _ _ _).trans Cgl_12
@[simp] theorem Csub_13 : Cs13.sub = sub := (Cl.add_sub _ _ _).trans Csub_12
@[simp] theorem Cnf_13 : Cs13.nf = nf := (Cl.add_nf _ _ _).trans Cnf_12
@[simp] theorem Cxfl_13 : Cs13.xfl = xfl := (Cl.add_xfl _ _ _).trans Cxfl_12
@[simp] theorem Ckc_13 : Cs13.kc = Cb.kc := (Cl.add_kc _ _ _).trans Ckc_12
@[simp] theorem G13_2 : Cs13.G 2 = g2 := (Cl.add_G_ne _ _ _ _ (by decide)).trans G12_2
@[simp] theorem G13_7 : Cs13.G 7 = g7 := (Cl.add_G_ne _ _ _ _ (by decide)).trans G12_7
@[simp] theorem G13_8 : Cs13.G 8 = g8 := (Cl.add_G_ne _ _ _ _ (by decide)).trans G12_8
@[simp] theorem G13_9 : Cs13.G 9 = g9 := (Cl.add_G_ne _ _ _ _ (by decide)).trans G12_9
@[simp] theorem G13_10 : Cs13.G 10 = g10 := (Cl.add_G_ne _ _ _ _ (by decide)).trans G12_10
@[simp] theorem G13_11 : Cs13.G 11 = g11 := (Cl.add_G_ne _ _ _ _ (by decide)).trans G12_11
@[simp] theorem G13_12 : Cs13.G 12 = g12 := Cl.add_G_eq _ _ _
@[simp] theorem T13_30 (t : Hs → R Ev.X) (h : Hs) : Cs13.GT 30 t h = okOnly (run (Cb.withTh t) n30.length ir30 [.th] h) := (Cl.add_GT _ _ _ _ _ _).trans (T12_30 t h)
@[simp] theorem Cgl_14 : Cs14.gl = glD := (Cl.add_gl _ _ _).trans Cgl_13
@[simp] theorem Csub_14 : Cs14.sub = sub := (Cl.add_sub _ _ _).trans Csub_13
@[simp] theorem Cnf_14 : Cs14.nf = nf := (Cl.add_nf _ _ _).trans Cnf_13
@[simp] theorem Cxfl_14 : Cs14.xfl = xfl := (Cl.add_xfl _ _ _).trans Cxfl_13
@[simp] theorem Ckc_14 : Cs14.kc = Cb.kc := (Cl.add_kc _ _ _).trans Ckc_13
@[simp] theorem G14_2 : Cs14.G 2 = g2 := (Cl.add_G_ne _ _ _ _ (by decide)).trans G13_2
@[simp] theorem G14_7 : Cs14.G 7 = g7 := (Cl.add_G_ne _ _ _ _ (by decide)).trans G13_7
@[simp] theorem G14_8 : Cs14.G 8 = g8 := (Cl.add_G_ne _ _ _ _ (by decide)).trans G13_8
@[simp] theorem G14_9 : Cs14.G 9 = g9 := (Cl.add_G_ne _ _ _ _ (by decide)).trans G13_9
@[simp] theorem G14_10 : Cs14.G 10 = g10 := (Cl.add_G_ne _ _ _ _ (by decide)).trans G13_10
@[simp] theorem G14_11 : Cs14.G 11 = g11 := (Cl.add_G_ne _ _ _ _ (by decide)).trans G13_11
@[simp] theorem G14_12 : Cs14.G 12 = g12 := (Cl.add_G_ne _ _ _ _ (by decide)).trans G13_12
@[simp] theorem G14_14 : Cs14.G 14 = g14 := Cl.add_G_eq _ _ _
@[simp] theorem T14_30 (t : Hs → R Ev.X) (h : Hs) : Cs14.GT 30 t h = okOnly (run (Cb.withTh t) n30.length ir30 [.th] h) := (Cl.add_GT _ _ _ _ _ _).trans (T13_30 t h)
@[simp] theorem Cgl_15 : Cs15.gl = glD := (Cl.add_gl _ _ _).trans Cgl_14
@[simp] theorem Csub_15 : Cs15.sub = sub := (Cl.add_sub _ _ _).trans Csub_14
@[simp] theorem Cnf_15 : Cs15.nf = nf := (Cl.add_nf _ _ _).trans Cnf_14
@[simp] theorem Cxfl_15 : Cs15.xfl = xfl := (Cl.add_xfl _ _ _).trans Cxfl_14
@[simp] theorem Ckc_15 : Cs15.kc = Cb.kc := (Cl.add_kc _ _ _).trans Ckc_14
@[simp] theorem G15_2 : Cs15.G 2 = g2 := (Cl.add_G_ne _ _ _ _ (by decide)).trans G14_2
@[simp] theorem G15_7 : Cs15.G 7 = g7 := (Cl.add_G_ne _ _ _ _ (by decide)).trans G14_7
@[simp] theorem G15_8 : Cs15.G 8 = g8 := (Cl.add_G_ne _ _ _ _ (by decide)).trans G14_8
@[simp] theorem G15_9 : Cs15.G 9 = g9 := (Cl.add_G_ne _ _ _ _ (by decide)).trans G14_9
@[simp] theorem G15_10 : Cs15.G 10 = g10 := (Cl.add_G_ne _ _ _ _ (by decide)).trans G14_10
@[simp] theorem G15_11 : Cs15.G 11 = g11 := (Cl.add_G_ne _ _ _ _ (by decide)).trans G14_11
@[simp] theorem G15_12 : Cs15.G 12 = g12 := (Cl.add_G_ne _ _ _ _ (by decide)).trans G14_12
@[simp] theorem G15_15 : Cs15.G 15 = g15 := Cl.add_G_eq _ _ _
@[simp] theorem T15_30 (t : Hs → R Ev.X) (h : Hs) : Cs15.GT 30 t h = okOnly (run (Cb.withTh t) n30.length ir30 [.th] h) := (Cl.add_GT _ _ _ _ _ _).trans (T14_30 t h)
@[simp] theorem Cgl_16 : Cs16.gl = glD := (Cl.add_gl _ _ _).trans Cgl_15
@[simp] theorem Csub_16 : Cs16.sub = sub := (Cl.add_sub _ _ _).trans Csub_15
@[simp] theorem Cnf_16 : Cs16.nf = nf := (Cl.add_nf _ _ _).trans Cnf_15
@[simp] theorem Cxfl_16 : Cs16.xfl = xfl := (Cl.add_xfl _ _ _).trans Cxfl_15
@[simp] theorem Ckc_16 : Cs16.kc = Cb.kc := (Cl.add_kc _ _ _).trans Ckc_15
@[simp] theorem G16_2 : Cs16.G 2 = g2 := (Cl.add_G_ne _ _ _ _ (by decide)).trans G15_2
@[simp] theorem G16_7 : Cs16.G 7 = g7 := (Cl.add_G_ne _ _ _ _ (by decide)).trans G15_7
@[simp] theorem G16_8 : Cs16.G 8 = g8 := (Cl.add_G_ne _ _ _ _ (by decide)).trans G15_8
@[simp] theorem G16_9 : Cs16.G 9 = g9 := (Cl.add_G_ne _ _ _ _ (by decide)).trans G15_9
@[simp] theorem G16_10 : Cs16.G 10 = g10 := (Cl.add_G_ne _ _ _ _ (by decide)).trans G15_10
@[simp] theorem G16_11 : Cs16.G 11 = g11 := (Cl.add_G_ne _ _ _ _ (by decide)).trans G15_11
@[simp] theorem G16_12 : Cs16.G 12 = g12 := (Cl.add_G_ne _ _ _ _ (by decide)).trans G15_12
@[simp] theorem G16_15 : Cs16.G 15 = g15 := (Cl.add_G_ne _ _ _ _ (by decide)).trans G15_15
@[simp] theorem G16_16 : Cs16.G 16 = g16 := Cl.add_G_eq _ _ _
@[simp] theorem T16_30 (t : Hs → R Ev.X) (h : Hs) : Cs16.GT 30 t h = okOnly (run (Cb.withTh t) n30.length ir30 [.th] h) := (Cl.add_GT _ _ _ _ _ _).trans (T15_30 t h)
@[simp] theorem Cgl_17 : Cs17.gl = glD := (Cl.add_gl _ _ _).trans Cgl_16
@[simp] theorem Csub_17 : Cs17.sub = sub := (Cl.add_sub _ _ _).trans Csub_16
@[simp] theorem Cnf_17 : Cs17.nf = nf := (Cl.add_nf _ _ _).trans Cnf_16
@[simp] theorem Cxfl_17 : Cs17.xfl = xfl := (Cl.add_xfl _ _ _).trans Cxfl_16
@[simp] theorem Ckc_17 : Cs17.kc = Cb.kc := (Cl.add_kc _ _ _).trans Ckc_16
@[simp] theorem G17_2 : Cs17.G 2 = g2 := (Cl.add_G_ne _ _ _ _ (by decide)).trans G16_2
@[simp] theorem G17_7 : Cs17.G 7 = g7 := (Cl.add_G_ne _ _ _ _ (by decide)).trans G16_7
@[simp] theorem G17_9 : Cs17.G 9 = g9 := (Cl.add_G_ne _ _ _ _ (by decide)).trans G16_9
@[simp] theorem G17_10 : Cs17.G 10 = g10 := (Cl.add_G_ne _ _ _ _ (by decide)).trans G16_10
@[simp] theorem G17_11 : Cs17.G 11 = g11 := (Cl.add_G_ne _ _ _ _ (by decide)).trans G16_11
@[simp] theorem G17_12 : Cs17.G 12 = g12 := (Cl.add_G_ne _ _ _ _ (by decide)).trans G16_12
@[simp] theorem G17_15 : Cs17.G 15 = g15 := (Cl.add_G_ne _ _ _ _ (by decide)).trans G16_15
@[simp] theorem G17_17 : Cs17.G 17 = g17 := Cl.add_G_eq _ _ _
@[simp] theorem T17_30 (t : Hs → R Ev.X) (h : Hs) : Cs17.GT 30 t h = okOnly (run (Cb.withTh t) n30.length ir30 [.th] h) := (Cl.add_GT _ _ _ _ _ _).trans (T16_30 t h)
@[simp] theorem Cgl_18 : Cs18.gl = glD := (Cl.add_gl _ _ _).trans Cgl_17
@[simp] theorem Csub_18 : Cs18.sub = sub := (Cl.add_sub _ _ _).trans Csub_17
@[simp] theorem Cnf_18 : Cs18.nf = nf := (Cl.add_nf _ _ _).trans Cnf_17
@[simp] theorem Cxfl_18 : Cs18.xfl = xfl := (Cl.add_xfl _ _ _).trans Cxfl_17
@[simp] theorem Ckc_18 : Cs18.kc = Cb.kc := (Cl.add_kc _ _ _).trans Ckc_17
@[simp] theorem G18_2 : Cs18.G 2 = g2 := (Cl.add_G_ne _ _ _ _ (by decide)).trans G17_2
@[simp] theorem G18_10 : Cs18.G 10 = g10 := (Cl.add_G_ne _ _ _ _ (by decide)).trans G17_10
@[simp] theorem G18_11 : Cs18.G 11 = g11 := (Cl.add_G_ne _ _ _ _ (by decide)).trans G17_11
@[simp] theorem G18_12 : Cs18.G 12 = g12 := (Cl.add_G_ne _ _ _ _ (by decide)).trans G17_12
@[simp] theorem G18_15 : Cs18.G 15 = g15 := (Cl.add_G_ne _ _ _ _ (by decide)).trans G17_15
@[simp] theorem G18_17 : Cs18.G 17 = g17 := (Cl.add_G_ne _ _ _ _ (by decide)).trans G17_17
@[simp] theorem G18_18 : Cs18.G 18 = g18 := Cl.add_G_eq _ _ _
@[simp] theorem T18_30 (t : Hs → R Ev.X) (h : Hs) : Cs18.GT 30 t h = okOnly (run (Cb.withTh t) n30.length ir30 [.th] h) := (Cl.add_GT _ _ _ _ _ _).trans (T17_30 t h)
@[simp] theorem Cgl_19 : Cs19.gl = glD := (Cl.add_gl _ _ _).trans Cgl_18
@[simp] theorem Csub_19 : Cs19.sub = sub := (Cl.add_sub _ _ _).trans Csub_18
@[simp] theorem Cnf_19 : Cs19.nf = nf := (Cl.add_nf _ _ _).trans Cnf_18
@[simp] theorem Cxfl_19 : Cs19.xfl = xfl := (Cl.add_xfl _ _ _).trans Cxfl_18
@[simp] theorem Ckc_19 : Cs19.kc = Cb.kc := (Cl.add_kc _ _ _).trans Ckc_18
@[simp] theorem G19_2 : Cs19.G 2 = g2 := (Cl.add_G_ne _ _ _ _ (by decide)).trans G18_2
@[simp] theorem G19_10 : Cs19.G 10 = g10 := (Cl.add_G_ne _ _ _ _ (by decide)).trans G18_10
@[simp] theorem G19_11 : Cs19.G 11 = g11 := (Cl.add_G_ne _ _ _ _ (by decide)).trans G18_11
@[simp] theorem G19_12 : Cs19.G 12 = g12 := (Cl.add_G_ne _ _ _ _ (by decide)).trans G18_12
@[simp] theorem G19_15 : Cs19.G 15 = g15 := (Cl.add_G_ne _ _ _ _ (by decide)).trans G18_15
@[simp] theorem G19_17 : Cs19.G 17 = g17 := (Cl.add_G_ne _ _ _ _ (by decide)).trans G18_17
@[simp] theorem G19_18 : Cs19.G 18 = g18 := (Cl.add_G_ne _ _ _ _ (by decide)).trans G18_18
@[simp] theorem G19_19 : Cs19.G 19 = g19 := Cl.add_G_eq _ _ _
@[simp] theorem T19_30 (t : Hs → R Ev.X) (h : Hs) : Cs19.GT 30 t h = okOnly (run (Cb.withTh t) n30.length ir30 [.th] h) := (Cl.add_GT _ _ _ _ _ _).trans (T18_30 t h)
@[simp] theorem Cgl_20 : Cs20.gl = glD := (Cl.add_gl _ _ _).trans Cgl_19
@[simp] theorem Csub_20 : Cs20.sub = sub := (Cl.add_sub _ _ _).trans Csub_19
@[simp] theorem Cnf_20 : Cs20.nf = nf := (Cl.add_nf _ _ _).trans Cnf_19
@[simp] theorem Cxfl_20 : Cs20.xfl = xfl := (Cl.add_xfl _ _ _).trans Cxfl_19
@[simp] theorem Ckc_20 : Cs20.kc = Cb.kc := (Cl.add_kc _ _ _).trans Ckc_19
@[simp] theorem G20_2 : Cs20.G 2 = g2 := (Cl.add_G_ne _ _ _ _ (by decide)).trans G19_2
@[simp] theorem G20_10 : Cs20.G 10 = g10 := (Cl.add_G_ne _ _ _ _ (by decide)).trans G19_10
@[simp] theorem G20_11 : Cs20.G 11 = g11 := (Cl.add_G_ne _ _ _ _ (by decide)).trans G19_11
@[simp] theorem G20_12 : Cs20.G 12 = g12 := (Cl.add_G_ne _ _ _ _ (by decide)).trans G19_12
@[simp] theorem G20_15 : Cs20.G 15 = g15 := (Cl.add_G_ne _ _ _ _ (by decide)).trans G19_15
@[simp] theorem G20_17 : Cs20.G 17 = g17 := (Cl.add_G_ne _ _ _ _ (by decide)).trans G19_17
@[simp] theorem G20_18 : Cs20.G 18 = g18 := (Cl.add_G_ne _ _ _ _ (by decide)).trans G19_18
@[simp] theorem G20_19 : Cs20.G 19 = g19 := (Cl.add_G_ne _ _ _ _ (by decide)).trans G19_19
@[simp] theorem G20_20 : Cs20.G 20 = g20 := Cl.add_G_eq _ _ _
@[simp] theorem T20_30 (t : Hs → R Ev.X) (h : Hs) : Cs20.GT 30 t h = okOnly (run (Cb.withTh t) n30.length ir30 [.th] h) := (Cl.add_GT _ _ _ _ _ _).trans (T19_30 t h)
@[simp] theorem Cgl_21 : Cs21.gl = glD := (Cl.add_gl _ _ _).trans Cgl_20
@[simp] theorem Csub_21 : Cs21.sub = sub := (Cl.add_sub _ _ _).trans Csub_20
@[simp] theorem Cnf_21 : Cs21.nf = nf := (Cl.add_nf _ _ _).trans Cnf_20
@[simp] theorem Cxfl_21 : Cs21.xfl = xfl := (Cl.add_xfl _ _ _).trans Cxfl_20
@[simp] theorem Ckc_21 : Cs21.kc = Cb.kc := (Cl.add_kc _ _ _).trans Ckc_20
@[simp] theorem G21_2 : Cs21.G 2 = g2 := (Cl.add_G_ne _ _ _ _ (by decide)).trans G20_2
@[simp] theorem G21_10 : Cs21.G 10 = g10 := (Cl.add_G_ne _ _ _ _ (by decide)).trans G20_10
@[simp] theorem G21_11 : Cs21.G 11 = g11 := (Cl.add_G_ne _ _ _ _ (by decide)).trans G20_11
@[simp] theorem G21_12 : Cs21.G 12 = g12 := (Cl.add_G_ne _ _ _ _ (by decide)).trans G20_12
@[simp] theorem G21_15 : Cs21.G 15 = g15 := (Cl.add_G_ne _ _ _ _ (by decide)).trans G20_15
@[simp] theorem G21_17 : Cs21.G 17 = g17 := (Cl.add_G_ne _ _ _ _ (by decide)).trans G20_17
@[simp] theorem G21_18 : Cs21.G 18 = g18 := (Cl.add_G_ne _ _ _ _ (by decide)).trans G20_18
@[simp] theorem G21_19 : Cs21.G 19 = g19 := (Cl.add_G_ne _ _ _ _ (by decide)).trans G20_19
@[simp] theorem G21_20 : Cs21.G 20 = g20 := (Cl.add_G_ne _ _ _ _ (by decide)).trans G20_20
@[simp] theorem G21_21 : Cs21.G 21 = g21 := Cl.add_G_eq _ _ _
@[simp] theorem T21_30 (t : Hs → R Ev.X) (h : Hs) : Cs21.GT 30 t h = okOnly (run (Cb.withTh t) n30.length ir30 [.th] h) := (Cl.add_GT _ _ _ _ _ _).trans (T20_30 t h)
@[simp] theorem Cgl_22 : Cs22.gl = glD := (Cl.add_gl _ _ _).trans Cgl_21
@[simp] theorem Csub_22 : Cs22.sub = sub := (Cl.add_sub _ _ _).trans Csub_21
@[simp] theorem Cnf_22 : Cs22.nf = nf := (Cl.add_nf _ _ _).trans Cnf_21
@[simp] theorem Cxfl_22 : Cs22.xfl = xfl := (Cl.add_xfl _ _ _).trans Cxfl_21
@[simp] theorem Ckc_22 : Cs22.kc = Cb.kc := (Cl.add_kc _ _ _).trans Ckc_21
@[simp] theorem G22_2 : Cs22.G 2 = g2 := (Cl.add_G_ne _ _ _ _ (by decide)).trans G21_2
@[simp] theorem G22_10 : Cs22.G 10 = g10 := (Cl.add_G_ne _ _ _ _ (by decide)).trans G21_10
@[simp] theorem G22_11 : Cs22.G 11 = g11 := (Cl.add_G_ne _ _ _ _ (by decide)).trans G21_11
@[simp] theorem G22_12 : Cs22.G 12 = g12 := (Cl.add_G_ne _ _ _ _ (by decide)).trans G21_12
@[simp] theorem G22_15 : Cs22.G 15 = g15 := (Cl.add_G_ne _ _ _ _ (by decide)).trans G21_15
@[simp] theorem G22_17 : Cs22.G 17 = g17 := (Cl.add_G_ne _ _ _ _ (by decide)).trans G21_17
@[simp] theorem G22_18 : Cs22.G 18 = g18 := (Cl.add_G_ne _ _ _ _ (by decide)).trans G21_18
@[simp] theorem G22_19 : Cs22.G 19 = g19 := (Cl.add_G_ne _ _ _ _ (by decide)).trans G21_19
@[simp] theorem G22_20 : Cs22.G 20 = g20 := (Cl.add_G_ne _ _ _ _ (by decide)).trans G21_20
@[simp] theorem G22_21 : Cs22.G 21 = g21 := (Cl.add_G_ne _ _ _ _ (by decide)).trans G21_21
@[simp] theorem G22_22 : Cs22.G 22 = g22 := Cl.add_G_eq _ _ _
@[simp] theorem T22_30 (t : Hs → R Ev.X) (h : Hs) : Cs22.GT 30 t h = okOnly (run (Cb.withTh t) n30.length ir30 [.th] h) := (Cl.add_GT _ _ _ _ _ _).trans (T21_30 t h)
@[simp] theorem Cgl_23 : Cs23.gl = glD := (Cl.add_gl _ _ _).trans Cgl_22
@[simp] theorem Csub_23 : Cs23.sub = sub := (Cl.add_sub _ _ _).trans Csub_22
@[simp] theorem Cnf_23 : Cs23.nf = nf := (Cl.add_nf _ _ _).trans Cnf_22
@[simp] theorem Cxfl_23 : Cs23.xfl = xfl := (Cl.add_xfl _ _ _).trans Cxfl_22
@[simp] theorem Ckc_23 : Cs23.kc = Cb.kc := (Cl.add_kc _ _ _).trans Ckc_22
@[simp] theorem G23_2 : Cs23.G 2 = g2 := (Cl.add_G_ne _ _ _ _ (by decide)).trans G22_2
@[simp] theorem G23_10 : Cs23.G 10 = g10 := (Cl.add_G_ne _ _ _ _ (by decide)).trans G22_10
@[simp] theorem G23_11 : Cs23.G 11 = g11 := (Cl.add_G_ne _ _ _ _ (by decide)).trans G22_11
@[simp] theorem G23_12 : Cs23.G 12 = g12 := (Cl.add_G_ne _ _ _ _ (by decide)).trans G22_12
@[simp] theorem G23_15 : Cs23.G 15 = g15 := (Cl.add_G_ne _ _ _ _ (by decide)).trans G22_15
@[simp] theorem G23_17 : Cs23.G 17 = g17 := (Cl.add_G_ne _ _ _ _ (by decide)).trans G22_17
@[simp] theorem G23_18 : Cs23.G 18 = g18 := (Cl.add_G_ne _ _ _ _ (by decide)).trans G22_18
@[simp] theorem G23_19 : Cs23.G 19 = g19 := (Cl.add_G_ne _ _ _ _ (by decide)).trans G22_19
@[simp] theorem G23_20 : Cs23.G 20 = g20 := (Cl.add_G_ne _ _ _ _ (by decide)).trans G22_20
@[simp] theorem G23_21 : Cs23.G 21 = g21 := (Cl.add_G_ne _ _ _ _ (by decide)).trans G22_21
@[simp] theorem G23_22 : Cs23.G 22 = g22 := (Cl.add_G_ne _ _ _ _ (by decide)).trans G22_22
@[simp] theorem G23_23 : Cs23.G 23 = g23 := Cl.add_G_eq _ _ _
@[simp] theorem T23_30 (t : Hs → R Ev.X) (h : Hs) : Cs23.GT 30 t h = okOnly (run (Cb.withTh t) n30.length ir30 [.th] h) := (Cl.add_GT _ _ _ _ _ _).trans (T22_30 t h)
@[simp] theorem Cgl_24 : Cs24.gl = glD := (Cl.add_gl _ _ _).trans Cgl_23
@[simp] theorem Csub_24 : Cs24.sub = sub := (Cl.add_sub _ _ _).trans Csub_23
@[simp] theorem Cnf_24 : Cs24.nf = nf := (Cl.add_nf _ _ _).trans Cnf_23
@[simp] theorem Cxfl_24 : Cs24.xfl = xfl := (Cl.add_xfl _ _ _).trans Cxfl_23
@[simp] theorem Ckc_24 : Cs24.kc = Cb.kc := (Cl.add_kc _ _ _).trans Ckc_23
@[simp] theorem G24_2 : Cs24.G 2 = g2 := (Cl.add_G_ne _ _ _ _ (by decide)).trans G23_2
@[simp] theorem G24_10 : Cs24.G 10 = g10 := (Cl.add_G_ne _ _ _ _ (by decide)).trans G23_10
@[simp] theorem G24_11 : Cs24.G 11 = g11 := (Cl.add_G_ne _ _ _ _ (by decide)).trans G23_11
@[simp] theorem G24_12 : Cs24.G 12 = g12 := (Cl.add_G_ne _ _ _ _ (by decide)).trans G23_12
@[simp] theorem G24_15 : Cs24.G 15 = g15 := (Cl.add_G_ne _ _ _ _ (by decide)).trans G23_15
@[simp] theorem G24_17 : Cs24.G 17 = g17 := (Cl.add_G_ne _ _ _ _ (by decide)).trans G23_17
@[simp] theorem G24_18 : Cs24.G 18 = g18 := (Cl.add_G_ne _ _ _ _ (by decide)).trans G23_18
@[simp] theorem G24_19 : Cs24.G 19 = g19 := (Cl.add_G_ne _ _ _ _ (by decide)).trans G23_19
@[simp] theorem G24_20 : Cs24.G 20 = g20 := (Cl.add_G_ne _ _ _ _ (by decide)).trans G23_20
@[simp] theorem G24_21 : Cs24.G 21 = g21 := (Cl.add_G_ne _ _ _ _ (by decide)).trans G23_21
@[simp] theorem G24_22 : Cs24.G 22 = g22 := (Cl.add_G_ne _ _ _ _ (by decide)).trans G23_22
@[simp] theorem G24_23 : Cs24.G 23 = g23 := (Cl.add_G_ne _ _ _ _ (by decide)).trans G23_23
@[simp] theorem G24_25 : Cs24.G 25 = g25 := Cl.add_G_eq _ _ _
@[simp] theorem T24_30 (t : Hs → R Ev.X) (h : Hs) : Cs24.GT 30 t h = okOnly (run (Cb.withTh t) n30.length ir30 [.th] h) := (Cl.add_GT _ _ _ _ _ _).trans (T23_30 t h)
@[simp] theorem Cgl_25 : Cs25.gl = glD := (Cl.add_gl _ _ _).trans Cgl_24
@[simp] theorem Csub_25 : Cs25.sub = sub := (Cl.add_sub _ _ _).trans Csub_24
@[simp] theorem Cnf_25 : Cs25.nf = nf := (Cl.add_nf _ _ _).trans Cnf_24
@[simp] theorem Cxfl_25 : Cs25.xfl = xfl := (Cl.add_xfl _ _ _).trans Cxfl_24
@[simp] theorem Ckc_25 : Cs25.kc = Cb.kc := (Cl.add_kc _ _ _).trans Ckc_24
@[simp] theorem G25_2 : Cs25.G 2 = g2 := (Cl.add_G_ne _ _ _ _ (by decide)).trans G24_2
@[simp] theorem G25_10 : Cs25.G 10 = g10 := (Cl.add_G_ne _ _ _ _ (by decide)).trans G24_10
@[simp] theorem G25_11 : Cs25.G 11 = g11 := (Cl.add_G_ne _ _ _ _ (by decide)).trans G24_11
@[simp] theorem G25_12 : Cs25.G 12 = g12 := (Cl.add_G_ne _ _ _ _ (by decide)).trans G24_12
@[simp] theorem G25_15 : Cs25.G 15 = g15 := (Cl.add_G_ne _ _ _ _ (by decide)).trans G24_15
@[simp] theorem G25_17 : Cs25.G 17 = g17 := (Cl.add_G_ne _ _ _ _ (by decide)).trans G24_17
@[simp] theorem G25_18 : Cs25.G 18 = g18 := (Cl.add_G_ne _ _ _ _ (by decide)).trans G24_18
@[simp] theorem G25_19 : Cs25.G 19 = g19 := (Cl.add_G_ne _ _ _ _ (by decide)).trans G24_19
@[simp] theorem G25_20 : Cs25.G 20 = g20 := (Cl.add_G_ne _ _ _ _ (by decide)).trans G24_20
@[simp] theorem G25_21 : Cs25.G 21 = g21 := (Cl.add_G_ne _ _ _ _ (by decide)).trans G24_21
@[simp] theorem G25_22 : Cs25.G 22 = g22 := (Cl.add_G_ne _ _ _ _ (by decide)).trans G24_22
@[simp] theorem G25_23 : Cs25.G 23 = g23 := (Cl.add_G_ne _ _ _ _ (by decide)).trans G24_23
@[simp] theorem G25_25 : Cs25.G 25 = g25 := (Cl.add_G_ne _ _ _ _ (by decide)).trans G24_25
@[simp] theorem G25_24 : Cs25.G 24 = g24 := Cl.add_G_eq _ _ _
@[simp] theorem T25_30 (t : Hs → R Ev.X) (h : Hs) : Cs25.GT 30 t h = okOnly (run (Cb.withTh t) n30.length ir30 [.th] h) := (Cl.add_GT _ _ _ _ _ _).trans (T24_30 t h)
@[simp] theorem Cgl_26 : Cs26.gl = glD := (Cl.add_gl _ _ _).trans Cgl_25
@[simp] theorem Csub_26 : Cs26.sub = sub := (Cl.add_sub _ _ _).trans Csub_25
@[simp] theorem Cnf_26 : Cs26.nf = nf := (Cl.add_nf _ _ _).trans Cnf_25
@[simp] theorem Cxfl_26 : Cs26.xfl = xfl := (Cl.add_xfl _ _ _).trans Cxfl_25
@[simp] theorem Ckc_26 : Cs26.kc = Cb.kc := (Cl.add_kc _ _ _).trans Ckc_25
@[simp] theorem G26_2 : Cs26.G 2 = g2 := (Cl.add_G_ne _ _ _ _ (by decide)).trans G25_2
@[simp] theorem G26_10 : Cs26.G 10 = g10 := (Cl.add_G_ne _ _ _ _ (by decide)).trans G25_10
@[simp] theorem G26_11 : Cs26.G 11 = g11 := (Cl.add_G_ne _ _ _ _ (by decide)).trans G25_11
@[simp] theorem G26_12 : Cs26.G 12 = g12 := (Cl.add_G_ne _ _ _ _ (by decide)).trans G25_12
@[simp] theorem G26_15 : Cs26.G 15 = g15 := (Cl.add_G_ne _ _ _ _ (by decide)).trans G25_15
@[simp] theorem G26_17 : Cs26.G 17 = g17 := (Cl.add_G_ne _ _ _ _ (by decide)).trans G25_17
@[simp] theorem G26_18 : Cs26.G 18 = g18 := (Cl.add_G_ne _ _ _ _ (by decide)).trans G25_18
@[simp] theorem G26_19 : Cs26.G 19 = g19 := (Cl.add_G_ne _ _ _ _ (by decide)).trans G25_19
@[simp] theorem G26_20 : Cs26.G 20 = g20 := (Cl.add_G_ne _ _ _ _ (by decide)).trans G25_20
@[simp] theorem G26_21 : Cs26.G 21 = g21 := (Cl.add_G_ne _ _ _ _ (by decide)).trans G25_21
@[simp] theorem G26_22 : Cs26.G 22 = g22 := (Cl.add_G_ne _ _ _ _ (by decide)).trans G25_22
@[simp] theorem G26_23 : Cs26.G 23 = g23 := (Cl.add_G_ne _ _ _ _ (by decide)).trans G25_23
@[simp] theorem G26_24 : Cs26.G 24 = g24 := (Cl.add_G_ne _ _ _ _ (by decide)).trans G25_24
@[simp] theorem G26_26 : Cs26.G 26 = g26 := Cl.add_G_eq _ _ _
@[simp] theorem T26_30 (t : Hs → R Ev.X) (h : Hs) : Cs26.GT 30 t h = okOnly (run (Cb.withTh t) n30.length ir30 [.th] h) := (Cl.add_GT _ _ _ _ _ _).trans (T25_30 t h)
@[simp] theorem Cgl_27 : Cs27.gl = glD := (Cl.add_gl _ _ _).trans Cgl_26
@[simp] theorem Csub_27 : Cs27.sub = sub := (Cl.add_sub _ _ _).trans Csub_26
@[simp] theorem Cnf_27 : Cs27.nf = nf := (Cl.add_nf _ _ _).trans Cnf_26
@[simp] theorem Cxfl_27 : Cs27.xfl = xfl := (Cl.add_xfl _ _ _).trans Cxfl_26
@[simp] theorem Ckc_27 : Cs27.kc = Cb.kc := (Cl.add_kc _ _ _).trans Ckc_26
@[simp] theorem G27_2 : Cs27.G 2 = g2 := (Cl.add_G_ne _ _ _ _ (by decide)).trans G26_2
@[simp] theorem G27_10 : Cs27.G 10 = g10 := (Cl.add_G_ne _ _ _ _ (by decide)).trans G26_10
@[simp] theorem G27_11 : Cs27.G 11 = g11 := (Cl.add_G_ne _ _ _ _ (by decide)).trans G26_11
@[simp] theorem G27_12 : Cs27.G 12 = g12 := (Cl.add_G_ne _ _ _ _ (by decide)).trans G26_12
@[simp] theorem G27_15 : Cs27.G 15 = g15 := (Cl.add_G_ne _ _ _ _ (by decide)).trans G26_15
@[simp] theorem G27_17 : Cs27.G 17 = g17 := (Cl.add_G_ne _ _ _ _ (by decide)).trans G26_17
@[simp] theorem G27_18 : Cs27.G 18 = g18 := (Cl.add_G_ne _ _ _ _ (by decide)).trans G26_18
@[simp] theorem G27_19 : Cs27.G 19 = g19 := (Cl.add_G_ne _ _ _ _ (by decide)).trans G26_19
@[simp] theorem G27_20 : Cs27.G 20 = g20 := (Cl.add_G_ne _ _ _ _ (by decide)).trans G26_20
@[simp] theorem G27_21 : Cs27.G 21 = g21 := (Cl.add_G_ne _ _ _ _ (by decide)).trans G26_21
@[simp] theorem G27_22 : Cs27.G 22 = g22 := (Cl.add_G_ne _ _ _ _ (by decide)).trans G26_22
@[simp] theorem G27_23 : Cs27.G 23 = g23 := (Cl.add_G_ne _ _ _ _ (by decide)).trans G26_23
@[simp] theorem G27_24 : Cs27.G 24 = g24 := (Cl.add_G_ne _ _ _ _ (by decide)).trans G26_24
@[simp] theorem G27_26 : Cs27.G 26 = g26 := (Cl.add_G_ne _ _ _ _ (by decide)).trans G26_26
@[simp] theorem G27_27 : Cs27.G 27 = g27 := Cl.add_G_eq _ _ _
@[simp] theorem T27_30 (t : Hs → R Ev.X) (h : Hs) : Cs27.GT 30 t h = okOnly (run (Cb.withTh t) n30.length ir30 [.th] h) := (Cl.add_GT _ _ _ _ _ _).trans (T26_30 t h)
@[simp] theorem Cgl_28 : Cs28.gl = glD := (Cl.add_gl _ _ _).trans Cgl_27
@[simp] theorem Csub_28 : Cs28.sub = sub := (Cl.add_sub _ _ _).trans Csub_27
@[simp] theorem Cnf_28 : Cs28.nf = nf := (Cl.add_nf _ _ _).trans Cnf_27
@[simp] theorem Cxfl_28 : Cs28.xfl = xfl := (Cl.add_xfl _ _ _).trans Cxfl_27
@[simp] theorem Ckc_28 : Cs28.kc = Cb.kc := (Cl.add_kc _ _ _).trans Ckc_27
@[simp] theorem G28_2 : Cs28.G 2 = g2 := (Cl.add_G_ne _ _ _ _ (by decide)).trans G27_2
@[simp] theorem G28_10 : Cs28.G 10 = g10 := (Cl.add_G_ne _ _ _ _ (by decide)).trans G27_10
@[simp] theorem G28_11 : Cs28.G 11 = g11 := (Cl.add_G_ne _ _ _ _ (by decide)).trans G27_11
@[simp] theorem G28_12 : Cs28.G 12 = g12 := (Cl.add_G_ne _ _ _ _ (by decide)).trans G27_12
@[simp] theorem G28_15 : Cs28.G 15 = g15 := (Cl.add_G_ne _ _ _ _ (by decide)).trans G27_15
@[simp] theorem G28_17 : Cs28.G 17 = g17 := (Cl.add_G_ne _ _ _ _ (by decide)).trans G27_17
@[simp] theorem G28_18 : Cs28.G 18 = g18 := (Cl.add_G_ne _ _ _ _ (by decide)).trans G27_18
@[simp] theorem G28_19 : Cs28.G 19 = g19 := (Cl.add_G_ne _ _ _ _ (by decide)).trans G27_19
@[simp] theorem G28_20 : Cs28.G 20 = g20 := (Cl.add_G_ne _ _ _ _ (by decide)).trans G27_20
@[simp] theorem G28_21 : Cs28.G 21 = g21 := (Cl.add_G_ne _ _ _ _ (by decide)).trans G27_21
@[simp] theorem G28_22 : Cs28.G 22 = g22 := (Cl.add_G_ne _ _ _ _ (by decide)).trans G27_22
@[simp] theorem G28_23 : Cs28.G 23 = g23 := (Cl.add_G_ne _ _ _ _ (by decide)).trans G27_23
@[simp] theorem G28_24 : Cs28.G 24 = g24 := (Cl.add_G_ne _ _ _ _ (by decide)).trans G27_24
@[simp] theorem G28_26 : Cs28.G 26 = g26 := (Cl.add_G_ne _ _ _ _ (by decide)).trans G27_26
@[simp] theorem G28_27 : Cs28.G 27 = g27 := (Cl.add_G_ne _ _ _ _ (by decide)).trans G27_27
@[simp] theorem G28_28 : Cs28.G 28 = g28 := Cl.add_G_eq _ _ _
@[simp] theorem T28_30 (t : Hs → R Ev.X) (h : Hs) : Cs28.GT 30 t h = okOnly (run (Cb.withTh t) n30.length ir30 [.th] h) := (Cl.add_GT _ _ _ _ _ _).trans (T27_30 t h)
@[simp] theorem Cgl_29 : Cs29.gl = glD := (Cl.add_gl _ _ _).trans Cgl_28
@[simp] theorem Csub_29 : Cs29.sub = sub := (Cl.add_sub _ _ _).trans Csub_28
@[simp] theorem Cnf_29 : Cs29.nf = nf := (Cl.add_nf _ _ _).trans Cnf_28
@[simp] theorem Cxfl_29 : Cs29.xfl = xfl := (Cl.add_xfl _ _ _).trans Cxfl_28
@[simp] theorem Ckc_29 : Cs29.kc = Cb.kc := (Cl.add_kc _ _ _).trans Ckc_28
@[simp] theorem G29_2 : Cs29.G 2 = g2 := (Cl.add_G_ne _ _ _ _ (by decide)).trans G28_2
@[simp] theorem G29_10 : Cs29.G 10 = g10 := (Cl.add_G_ne _ _ _ _ (by decide)).trans G28_10
@[simp] theorem G29_11 : Cs29.G 11 = g11 := (Cl.add_G_ne _ _ _ _ (by decide)).trans G28_11
@[simp] theorem G29_12 : Cs29.G 12 = g12 := (Cl.add_G_ne _ _ _ _ (by decide)).trans G28_12
@[simp] theorem G29_15 : Cs29.G 15 = g15 := (Cl.add_G_ne _ _ _ _ (by decide)).trans G28_15
@[simp] theorem G29_17 : Cs29.G 17 = g17 := (Cl.add_G_ne _ _ _ _ (by decide)).trans G28_17
@[simp] theorem G29_18 : Cs29.G 18 = g18 := (Cl.add_G_ne _ _ _ _ (by decide)).trans G28_18
@[simp] theorem G29_19 : Cs29.G 19 = g19 := (Cl.add_G_ne _ _ _ _ (by decide)).trans G28_19
@[simp] theorem G29_20 : Cs29.G 20 = g20 := (Cl.add_G_ne _ _ _ _ (by decide)).trans G28_20
@[simp] theorem G29_21 : Cs29.G 21 = g21 := (Cl.add_G_ne _ _ _ _ (by decide)).trans G28_21
@[simp] theorem G29_22 : Cs29.G 22 = g22 := (Cl.add_G_ne _ _ _ _ (by decide)).trans G28_22
@[simp] theorem G29_23 : Cs29.G 23 = g23 := (Cl.add_G_ne _ _ _ _ (by decide)).trans G28_23
@[simp] theorem G29_24 : Cs29.G 24 = g24 := (Cl.add_G_ne _ _ _ _ (by decide)).trans G28_24
@[simp] theorem G29_26 : Cs29.G 26 = g26 := (Cl.add_G_ne _ _ _ _ (by decide)).trans G28_26
@[simp] theorem G29_27 : Cs29.G 27 = g27 := (Cl.add_G_ne _ _ _ _ (by decide)).trans G28_27
@[simp] theorem G29_28 : Cs29.G 28 = g28 := (Cl.add_G_ne _ _ _ _ (by decide)).trans G28_28
@[simp] theorem G29_29 : Cs29.G 29 = g29 := Cl.add_G_eq _ _ _
@[simp] theorem T29_30 (t : Hs → R Ev.X) (h : Hs) : Cs29.GT 30 t h = okOnly (run (Cb.withTh t) n30.length ir30 [.th] h) := (Cl.add_GT _ _ _ _ _ _).trans (T28_30 t h)
@[simp] theorem Cgl_30 : Cs30.gl = glD := (Cl.add_gl _ _ _).trans Cgl_29
@[simp] theorem Csub_30 : Cs30.sub = sub := (Cl.add_sub _ _ _).trans Csub_29
@[simp] theorem Cnf_30 : Cs30.nf = nf := (Cl.add_nf _ _ _).trans Cnf_29
@[simp] theorem Cxfl_30 : Cs30.xfl = xfl := (Cl.add_xfl _ _ _).trans Cxfl_29
@[simp] theorem Ckc_30 : Cs30.kc = Cb.kc := (Cl.add_kc _ _ _).trans Ckc_29
@[simp] theorem G30_2 : Cs30.G 2 = g2 := (Cl.add_G_ne _ _ _ _ (by decide)).trans G29_2
@[simp] theorem G30_10 : Cs30.G 10 = g10 := (Cl.add_G_ne _ _ _ _ (by decide)).trans G29_10
@[simp] theorem G30_11 : Cs30.G 11 = g11 := (Cl.add_G_ne _ _ _ _ (by decide)).trans G29_11
@[simp] theorem G30_12 : Cs30.G 12 = g12 := (Cl.add_G_ne _ _ _ _ (by decide)).trans G29_12
@[simp] theorem G30_15 : Cs30.G 15 = g15 := (Cl.add_G_ne _ _ _ _ (by decide)).trans G29_15
@[simp] theorem G30_17 : Cs30.G 17 = g17 := (Cl.add_G_ne _ _ _ _ (by decide)).trans G29_17
@[simp] theorem G30_18 : Cs30.G 18 = g18 := (Cl.add_G_ne _ _ _ _ (by decide)).trans G29_18
@[simp] theorem G30_19 : Cs30.G 19 = g19 := (Cl.add_G_ne _ _ _ _ (by decide)).trans G29_19
@[simp] theorem G30_20 : Cs30.G 20 = g20 := (Cl.add_G_ne _ _ _ _ (by decide)).trans G29_20
@[simp] theorem G30_21 : Cs30.G 21 = g21 := (Cl.add_G_ne _ _ _ _ (by decide)).trans G29_21
@[simp] theorem G30_22 : Cs30.G 22 = g22 := (Cl.add_G_ne _ _ _ _ (by decide)).trans G29_22
@[simp] theorem G30_23 : Cs30.G 23 = g23 := (Cl.add_G_ne _ _ _ _ (by decide)).trans G29_23
@[simp] theorem G30_24 : Cs30.G 24 = g24 := (Cl.add_G_ne _ _ _ _ (by decide)).trans G29_24
@[simp] theorem G30_26 : Cs30.G 26 = g26 := (Cl.add_G_ne _ _ _ _ (by decide)).trans G29_26
@[simp] theorem G30_27 : Cs30.G 27 = g27 := (Cl.add_G_ne _ _ _ _ (by decide)).trans G29_27
@[simp] theorem G30_28 : Cs30.G 28 = g28 := (Cl.add_G_ne _ _ _ _ (by decide)).trans G29_28
@[simp] theorem G30_29 : Cs30.G 29 = g29 := (Cl.add_G_ne _ _ _ _ (by decide)).trans G29_29
@[simp] theorem G30_31 : Cs30.G 31 = g31 := Cl.add_G_eq _ _ _
@[simp] theorem T30_30 (t : Hs → R Ev.X) (h : Hs) : Cs30.GT 30 t h = okOnly (run (Cb.withTh t) n30.length ir30 [.th] h) := (Cl.add_GT _ _ _ _ _ _).trans (T29_30 t h)
@[simp] theorem Cgl_31 : Cs31.gl = glD := (Cl.addMk_gl _ _ _).trans Cgl_30
@[simp] theorem Csub_31 : Cs31.sub = sub := (Cl.addMk_sub _ _ _).trans Csub_30
@[simp] theorem Cnf_31 : Cs31.nf = nf := (Cl.addMk_nf _ _ _).trans Cnf_30
@[simp] theorem Cxfl_31 : Cs31.xfl = xfl := (Cl.addMk_xfl _ _ _).trans Cxfl_30
@[simp] theorem Ckc_31 : Cs31.kc = Cb.kc := (Cl.addMk_kc _ _ _).trans Ckc_30
@[simp] theorem G31_10 : Cs31.G 10 = g10 := (Cl.addMk_G _ _ _ _).trans G30_10
@[simp] theorem G31_11 : Cs31.G 11 = g11 := (Cl.addMk_G _ _ _ _).trans G30_11
@[simp] theorem G31_12 : Cs31.G 12 = g12 := (Cl.addMk_G _ _ _ _).trans G30_12
@[simp] theorem G31_15 : Cs31.G 15 = g15 := (Cl.addMk_G _ _ _ _).trans G30_15
@[simp] theorem G31_17 : Cs31.G 17 = g17 := (Cl.addMk_G _ _ _ _).trans G30_17
@[simp] theorem G31_18 : Cs31.G 18 = g18 := (Cl.addMk_G _ _ _ _).trans G30_18
@[simp] theorem G31_19 : Cs31.G 19 = g19 := (Cl.addMk_G _ _ _ _).trans G30_19
@[simp] theorem G31_20 : Cs31.G 20 = g20 := (Cl.addMk_G _ _ _ _).trans G30_20
@[simp] theorem G31_21 : Cs31.G 21 = g21 := (Cl.addMk_G _ _ _ _).trans G30_21
@[simp] theorem G31_22 : Cs31.G 22 = g22 := (Cl.addMk_G _ _ _ _).trans G30_22
@[simp] theorem G31_23 : Cs31.G 23 = g23 := (Cl.addMk_G _ _ _ _).trans G30_23
@[simp] theorem G31_24 : Cs31.G 24 = g24 := (Cl.addMk_G _ _ _ _).trans G30_24
@[simp] theorem G31_26 : Cs31.G 26 = g26 := (Cl.addMk_G _ _ _ _).trans G30_26
@[simp] theorem G31_27 : Cs31.G 27 = g27 := (Cl.addMk_G _ _ _ _).trans G30_27
@[simp] theorem G31_28 : Cs31.G 28 = g28 := (Cl.addMk_G _ _ _ _).trans G30_28
@[simp] theorem G31_29 : Cs31.G 29 = g29 := (Cl.addMk_G _ _ _ _).trans G30_29
@[simp] theorem G31_31 : Cs31.G 31 = g31 := (Cl.addMk_G _ _ _ _).trans G30_31
@[simp] theorem T31_30 (t : Hs → R Ev.X) (h : Hs) : Cs31.GT 30 t h = okOnly (run (Cb.withTh t) n30.length ir30 [.th] h) := (Cl.addMk_GT _ _ _ _ _ _).trans (T30_30 t h)
@[simp] theorem M31_6 : Cs31.mkO 6 = mkBy 6 g36 := Cl.addMk_eq _ _ _
@[simp] theorem Cgl_32 : Cs32.gl = glD := (Cl.add_gl _ _ _).trans Cgl_31
@[simp] theorem Csub_32 : Cs32.sub = sub := (Cl.add_sub _ _ _).trans Csub_31
@[simp] theorem Cnf_32 : Cs32.nf = nf := (Cl.add_nf _ _ _).trans Cnf_31
@[simp] theorem Cxfl_32 : Cs32.xfl = xfl := (Cl.add_xfl _ _ _).trans Cxfl_31
@[simp] theorem Ckc_32 : Cs32.kc = Cb.kc := (Cl.add_kc _ _ _).trans Ckc_31
@[simp] theorem G32_10 : Cs32.G 10 = g10 := (Cl.add_G_ne _ _ _ _ (by decide)).trans G31_10
@[simp] theorem G32_15 : Cs32.G 15 = g15 := (Cl.add_G_ne _ _ _ _ (by decide)).trans G31_15
@[simp] theorem G32_17 : Cs32.G 17 = g17 := (Cl.add_G_ne _ _ _ _ (by decide)).trans G31_17
@[simp] theorem G32_18 : Cs32.G 18 = g18 := (Cl.add_G_ne _ _ _ _ (by decide)).trans G31_18
@[simp] theorem G32_19 : Cs32.G 19 = g19 := (Cl.add_G_ne _ _ _ _ (by decide)).trans G31_19
@[simp] theorem G32_20 : Cs32.G 20 = g20 := (Cl.add_G_ne _ _ _ _ (by decide)).trans G31_20
@[simp] theorem G32_21 : Cs32.G 21 = g21 := (Cl.add_G_ne _ _ _ _ (by decide)).trans G31_21
@[simp] theorem G32_22 : Cs32.G 22 = g22 := (Cl.add_G_ne _ _ _ _ (by decide)).trans G31_22
@[simp] theorem G32_23 : Cs32.G 23 = g23 := (Cl.add_G_ne _ _ _ _ (by decide)).trans G31_23
@[simp] theorem G32_24 : Cs32.G 24 = g24 := (Cl.add_G_ne _ _ _ _ (by decide)).trans G31_24
@[simp] theorem G32_26 : Cs32.G 26 = g26 := (Cl.add_G_ne _ _ _ _ (by decide)).trans G31_26
@[simp] theorem G32_27 : Cs32.G 27 = g27 := (Cl.add_G_ne _ _ _ _ (by decide)).trans G31_27
@[simp] theorem G32_28 : Cs32.G 28 = g28 := (Cl.add_G_ne _ _ _ _ (by decide)).trans G31_28
@[simp] theorem G32_29 : Cs32.G 29 = g29 := (Cl.add_G_ne _ _ _ _ (by decide)).trans G31_29
@[simp] theorem G32_31 : Cs32.G 31 = g31 := (Cl.add_G_ne _ _ _ _ (by decide)).trans G31_31
@[simp] theorem G32_13 : Cs32.G 13 = g13 := Cl.add_G_eq _ _ _
@[simp] theorem T32_30 (t : Hs → R Ev.X) (h : Hs) : Cs32.GT 30 t h = okOnly (run (Cb.withTh t) n30.length ir30 [.th] h) := (Cl.add_GT _ _ _ _ _ _).trans (T31_30 t h)
@[simp] theorem M32_6 : Cs32.mkO 6 = mkBy 6 g36 := (Cl.add_mkO _ _ _ _).trans M31_6
@[simp] theorem Cgl_33 : Cs33.gl = glD := (Cl.addEq_gl _ _ _).trans Cgl_32
@[simp] theorem Csub_33 : Cs33.sub = sub := (Cl.addEq_sub _ _ _).trans Csub_32
@[simp] theorem Cnf_33 : Cs33.nf = nf := (Cl.addEq_nf _ _ _).trans Cnf_32
@[simp] theorem Cxfl_33 : Cs33.xfl = xfl := (Cl.addEq_xfl _ _ _).trans Cxfl_32
@[simp] theorem Ckc_33 : Cs33.kc = Cb.kc := (Cl.addEq_kc _ _ _).trans Ckc_32
@[simp] theorem G33_10 : Cs33.G 10 = g10 := (Cl.addEq_G _ _ _ _).trans G32_10
@[simp] theorem G33_13 : Cs33.G 13 = g13 := (Cl.addEq_G _ _ _ _).trans G32_13
@[simp] theorem G33_15 : Cs33.G 15 = g15 := (Cl.addEq_G _ _ _ _).trans G32_15
@[simp] theorem G33_17 : Cs33.G 17 = g17 := (Cl.addEq_G _ _ _ _).trans G32_17
@[simp] theorem G33_18 : Cs33.G 18 = g18 := (Cl.addEq_G _ _ _ _).trans G32_18
@[simp] theorem G33_19 : Cs33.G 19 = g19 := (Cl.addEq_G _ _ _ _).trans G32_19
@[simp] theorem G33_20 : Cs33.G 20 = g20 := (Cl.addEq_G _ _ _ _).trans G32_20
@[simp] theorem G33_21 : Cs33.G 21 = g21 := (Cl.addEq_G _ _ _ _).trans G32_21
@[simp] theorem G33_22 : Cs33.G 22 = g22 := (Cl.addEq_G _ _ _ _).trans G32_22
@[simp] theorem G33_23 : Cs33.G 23 = g23 := (Cl.addEq_G _ _ _ _).trans G32_23
@[simp] theorem G33_24 : Cs33.G 24 = g24 := (Cl.addEq_G _ _ _ _).trans G32_24
@[simp] theorem G33_26 : Cs33.G 26 = g26 := (Cl.addEq_G _ _ _ _).trans G32_26
@[simp] theorem G33_27 : Cs33.G 27 = g27 := (Cl.addEq_G _ _ _ _).trans G32_27
@[simp] theorem G33_28 : Cs33.G 28 = g28 := (Cl.addEq_G _ _ _ _).trans G32_28
@[simp] theorem G33_29 : Cs33.G 29 = g29 := (Cl.addEq_G _ _ _ _).trans G32_29
@[simp] theorem G33_31 : Cs33.G 31 = g31 := (Cl.addEq_G _ _ _ _).trans G32_31
@[simp] theorem T33_30 (t : Hs → R Ev.X) (h : Hs) : Cs33.GT 30 t h = okOnly (run (Cb.withTh t) n30.length ir30 [.th] h) := (Cl.addEq_GT _ _ _ _ _ _).trans (T32_30 t h)
@[simp] theorem M33_6 : Cs33.mkO 6 = mkBy 6 g36 := (Cl.addEq_mkO _ _ _ _).trans M32_6
@[simp] theorem Q33_6 (d e : D) (h : Hs) : Cs33.eqo 6 d e h = okOnly (g37 [.d d, .d e] h) := Cl.addEq_eq _ _ _ _ _ _
@[simp] theorem Cgl_34 : Cs34.gl = glD := (Cl.add_gl _ _ _).trans Cgl_33
@[simp] theorem Csub_34 : Cs34.sub = sub := (Cl.add_sub _ _ _).trans Csub_33
@[simp] theorem Cnf_34 : Cs34.nf = nf := (Cl.add_nf _ _ _).trans Cnf_33
@[simp] theorem Cxfl_34 : Cs34.xfl = xfl := (Cl.add_xfl _ _ _).trans Cxfl_33
@[simp] theorem Ckc_34 : Cs34.kc = Cb.kc := (Cl.add_kc _ _ _).trans Ckc_33
@[simp] theorem G34_10 : Cs34.G 10 = g10 := (Cl.add_G_ne _ _ _ _ (by decide)).trans G33_10
@[simp] theorem G34_13 : Cs34.G 13 = g13 := (Cl.add_G_ne _ _ _ _ (by decide)).trans G33_13
@[simp] theorem G34_20 : Cs34.G 20 = g20 := (Cl.add_G_ne _ _ _ _ (by decide)).trans G33_20
@[simp] theorem G34_32 : Cs34.G 32 = g32 := Cl.add_G_eq _ _ _
@[simp] theorem M34_6 : Cs34.mkO 6 = mkBy 6 g36 := (Cl.add_mkO _ _ _ _).trans M33_6
@[simp] theorem Q34_6 (d e : D) (h : Hs) : Cs34.eqo 6 d e h = okOnly (g37 [.d d, .d e] h) := (Cl.add_eqo _ _ _ _ _ _ _).trans (Q33_6 d e h)
@[simp] theorem Cgl_35 : Cs35.gl = glD := (Cl.add_gl _ _ _).trans Cgl_34
@[simp] theorem Csub_35 : Cs35.sub = sub := (Cl.add_sub _ _ _).trans Csub_34
@[simp] theorem Cnf_35 : Cs35.nf = nf := (Cl.add_nf _ _ _).trans Cnf_34
@[simp] theorem Cxfl_35 : Cs35.xfl = xfl := (Cl.add_xfl _ _ _).trans Cxfl_34
@[simp] theorem Ckc_35 : Cs35.kc = Cb.kc := (Cl.add_kc _ _ _).trans Ckc_34
end Kd
set_option Elab.async false
set_option linter.all false
set_option maxRecDepth 100000
set_option maxHeartbeats 4000000
/-! Own work, printed by gen.py: the defs of law_k74_whole_texts as IR. -/
namespace Kd
open PySem PySem.Spec L2 Ev
def top (i : Nat) : Stmt := PySem.Challenge.pw_lampnets_k74_whole_texts.main.body.getD i (.Pass ⟨0, 0, 0, 0⟩)
def inCls (s : Stmt) (j : Nat) : Stmt := match s with
  | .ClassDef _ _ _ b _ _ _ _ _ _ _ => b.getD j (.Pass ⟨0, 0, 0, 0⟩)
  | _ => .Pass ⟨0, 0, 0, 0⟩
def nm (T : List (Addr × Str)) : Nm where
  fn := fun | 0 => "is_integer" | 1 => "is_between" | 2 => "are_bits" | 3 => "is_lot" | 4 => "number_by" | 5 => "wanted" | 6 => "check_net" | 7 => "number_of" | 8 => "is_rule" | 9 => "bits_text" | 10 => "net_text" | 11 => "are_bit_signs" | 12 => "bits_told" | 13 => "read_net" | 14 => "lamps_text" | 15 => "rule_text" | 16 => "lamps_told" | 17 => "read_rule" | 18 => "state_text" | 19 => "read_state" | 20 => "_law_hand" | 21 => "_law_draw" | 22 => "_law_some" | 23 => "_law_is" | 24 => "_law_tables" | 25 => "_law_states" | 26 => "_law_size" | 27 => "_law_read" | 28 => "_law_rule" | 29 => "_law_state" | 30 => "_law_told" | 31 => "_law_spoiled" | 32 => "_law_is_right" | 33 => "law" | _ => ""
  cl := fun | 0 => "NetError" | 1 => "BadNet" | 2 => "NoState" | 3 => "NoNet" | 4 => "BadText" | 5 => "NoRule" | 6 => "Net" | _ => ""
  fd := fun | 0 => [] | 1 => [] | 2 => [] | 3 => [] | 4 => [] | 5 => [] | 6 => ["tables", "many"] | _ => []
  xf := fun | 0 => none | 1 => some "part" | 2 => none | 3 => none | 4 => some "line" | 5 => none | 6 => none | _ => none
  gl := fun | 0 => "MOST_LAMPS" | 1 => "POWERS" | 2 => "EMPTY" | 3 => "PARTED" | 4 => "FIGURES" | _ => ""
  kc := fun | 0 => false | 1 => false | 2 => false | 3 => false | 4 => false | 5 => false | 6 => true | _ => false
  kt := fun | 0 => true | 1 => true | 2 => true | 3 => true | 4 => true | 5 => true | 6 => true | _ => false
  fl := fun | 0 => "part" | 1 => "line" | 2 => "tables" | 3 => "many" | _ => ""
  ar := fun | 0 => 1 | 1 => 3 | 2 => 2 | 3 => 2 | 4 => 1 | 5 => 2 | 6 => 1 | 7 => 1 | 8 => 2 | 9 => 1 | 10 => 1 | 11 => 2 | 12 => 1 | 13 => 1 | 14 => 1 | 15 => 1 | 16 => 1 | 17 => 1 | 18 => 1 | 19 => 1 | 20 => 1 | 21 => 2 | 22 => 2 | 23 => 2 | 24 => 2 | 25 => 1 | 26 => 1 | 27 => 1 | 28 => 1 | 29 => 1 | 30 => 1 | 31 => 2 | 32 => 1 | 33 => 1 | _ => 0
  am := fun | 0 => 0 | 1 => 1 | 2 => 0 | 3 => 0 | 4 => 1 | 5 => 0 | 6 => 1 | _ => 0
  ke := fun | 0 => true | 1 => true | 2 => true | 3 => true | 4 => true | 5 => true | 6 => false | _ => false
  kx := fun | 0 => true | 1 => true | 2 => true | 3 => true | 4 => true | 5 => true | 6 => false | _ => false
  tabs := T
abbrev cx (P : Program) (w : World) (K : PySem.W.Frag) (mg : Str → Option Value) (base : Heap) (Nn : List Str) (q : Str) (st : Stmt) (fa : Addr) (cdv : Value) (A : Around) (outer : List PySem.Env) (s : Shared) (H : Hp) (E : XK) : Cx :=
  cxOf (L2.CX P w) P w K mg base Nn q (defScope st) fa cdv A outer s H E
abbrev we (E : XK) : WX := fun c d _ H' => E c d H'

abbrev st0 : Stmt := top 10
theorem bd0 {P : Program} {w : World} {K : PySem.W.Frag} {mg : Str → Option Value} {base : Heap} {T : List (Addr × Str)} {C : Cl} {Θ : Pm} {fa : Addr} {cdv : Value} {A : Around} {outer : List PySem.Env} {s : Shared} {H : Hp} {E : XK} 
    (ck : Ck (nm T) C Θ (cx P w K mg base n0 "is_integer" st0 fa cdv A outer s H E) (we E) false) (hpo : PassesOwn (model P w) (cx P w K mg base n0 "is_integer" st0 fa cdv A outer s H E).A (cx P w K mg base n0 "is_integer" st0 fa cdv A outer s H E).env (cx P w K mg base n0 "is_integer" st0 fa cdv A outer s H E).xe) :
    PSs (cx P w K mg base n0 "is_integer" st0 fa cdv A outer s H E) (defBody st0) (tS (nm T) C Θ (cx P w K mg base n0 "is_integer" st0 fa cdv A outer s H E) (we E) ir0) :=
  (p_cons ck (p_ret ck (s_and ck (s_isi1 ck rfl (ns1 rfl) (s_var ck rfl (.inl rfl) rfl rfl) (.bi .int "int" _ (by decide) rfl (by decide) PyProof.Rows.Boot.«int» (by decide) (by decide))) (pe_one (s_not ck (s_isi1 ck rfl (ns1 rfl) (s_var ck rfl (.inl rfl) rfl rfl) (.bi .bool "bool" _ (by decide) rfl (by decide) PyProof.Rows.Boot.«bool» (by decide) (by decide)))))))
 p_nil)

abbrev st1 : Stmt := top 11
theorem bd1 {P : Program} {w : World} {K : PySem.W.Frag} {mg : Str → Option Value} {base : Heap} {T : List (Addr × Str)} {C : Cl} {Θ : Pm} {fa : Addr} {cdv : Value} {A : Around} {outer : List PySem.Env} {s : Shared} {H : Hp} {E : XK} (kf0 : C.kf 0 = true)
    (ck : Ck (nm T) C Θ (cx P w K mg base n1 "is_between" st1 fa cdv A outer s H E) (we E) false) (hpo : PassesOwn (model P w) (cx P w K mg base n1 "is_between" st1 fa cdv A outer s H E).A (cx P w K mg base n1 "is_between" st1 fa cdv A outer s H E).env (cx P w K mg base n1 "is_between" st1 fa cdv A outer s H E).xe) :
    PSs (cx P w K mg base n1 "is_between" st1 fa cdv A outer s H E) (defBody st1) (tS (nm T) C Θ (cx P w K mg base n1 "is_between" st1 fa cdv A outer s H E) (we E) ir1) :=
  (p_cons ck (p_ret ck (s_and ck (s_call (f := 0) ck kf0 rfl rfl rfl (nsA rfl) (a_cons ck (ns1 rfl) (s_var ck rfl (.inl rfl) rfl rfl) a_nil)) (pe_one (g_chain ck (k_le ck) (k_le ck) (by first | rfl | exact nobehind _ (by decide) (by decide)) (s_var ck rfl (.inl rfl) rfl rfl) (s_var ck rfl (.inl rfl) rfl rfl) (s_var ck rfl (.inl rfl) rfl rfl)))))
 p_nil)

abbrev st2 : Stmt := top 12
theorem bd2 {P : Program} {w : World} {K : PySem.W.Frag} {mg : Str → Option Value} {base : Heap} {T : List (Addr × Str)} {C : Cl} {Θ : Pm} {fa : Addr} {cdv : Value} {A : Around} {outer : List PySem.Env} {s : Shared} {H : Hp} {E : XK} (kf1 : C.kf 1 = true)
    (ck : Ck (nm T) C Θ (cx P w K mg base n2 "are_bits" st2 fa cdv A outer s H E) (we E) false) (hpo : PassesOwn (model P w) (cx P w K mg base n2 "are_bits" st2 fa cdv A outer s H E).A (cx P w K mg base n2 "are_bits" st2 fa cdv A outer s H E).env (cx P w K mg base n2 "are_bits" st2 fa cdv A outer s H E).xe) :
    PSs (cx P w K mg base n2 "are_bits" st2 fa cdv A outer s H E) (defBody st2) (tS (nm T) C Θ (cx P w K mg base n2 "are_bits" st2 fa cdv A outer s H E) (we E) ir2) :=
  (p_cons ck (p_ret ck (s_and ck (s_isi1 ck rfl (ns1 rfl) (s_var ck rfl (.inl rfl) rfl rfl) (.bi .tuple "tuple" _ (by decide) rfl (by decide) PyProof.Rows.Boot.«tuple» (by decide) (by decide))) (s_and ck (g_cmp ck (k_eq ck) (by first | rfl | exact nobehind _ (by decide) (by decide)) (g_len ck rfl rfl (s_var ck rfl (.inl rfl) rfl rfl)) (s_var ck rfl (.inl rfl) rfl rfl)) (pe_one (g_all ck rfl rfl (s_comp ck (own := [("one", 2)]) (s_seq ck (s_var ck rfl (.inl rfl) rfl rfl)) (blkOk_by rfl) (by decide) (fun s1 H1 Ca1 cl1 fp1 => (pg_name (i := 2) (ck.blk s1 H1 _ _ fp1).nd rfl (.inl rfl) (.inr rfl))) (fun s1 H1 Ca1 cl1 fp1 => (pts_nil.imp fun _ _ _ h => tT_yes h)) (fun s1 H1 Ca1 cl1 fp1 => (s_call (f := 1) (ck.blk s1 H1 _ _ fp1) kf1 rfl rfl rfl (nsA rfl) (a_cons (ck.blk s1 H1 _ _ fp1) (ns1 rfl) (s_var (ck.blk s1 H1 _ _ fp1) rfl (.inl rfl) rfl rfl) (a_cons (ck.blk s1 H1 _ _ fp1) (ns1 rfl) g_int (a_cons (ck.blk s1 H1 _ _ fp1) (ns1 rfl) g_int a_nil))))) (fun _ => rfl)))))))
 p_nil)

abbrev st3 : Stmt := top 13
theorem bd3 {P : Program} {w : World} {K : PySem.W.Frag} {mg : Str → Option Value} {base : Heap} {T : List (Addr × Str)} {C : Cl} {Θ : Pm} {fa : Addr} {cdv : Value} {A : Around} {outer : List PySem.Env} {s : Shared} {H : Hp} {E : XK} (kf1 : C.kf 1 = true)
    (ck : Ck (nm T) C Θ (cx P w K mg base n3 "is_lot" st3 fa cdv A outer s H E) (we E) false) (hpo : PassesOwn (model P w) (cx P w K mg base n3 "is_lot" st3 fa cdv A outer s H E).A (cx P w K mg base n3 "is_lot" st3 fa cdv A outer s H E).env (cx P w K mg base n3 "is_lot" st3 fa cdv A outer s H E).xe) :
    PSs (cx P w K mg base n3 "is_lot" st3 fa cdv A outer s H E) (defBody st3) (tS (nm T) C Θ (cx P w K mg base n3 "is_lot" st3 fa cdv A outer s H E) (we E) ir3) :=
  (p_cons ck (p_if ck (PW.pt (w_or ck (t_not ck (t_val ck (s_isi1 ck rfl (ns1 rfl) (s_var ck rfl (.inr (.inl rfl)) rfl rfl) (.bi .tuple "tuple" _ (by decide) rfl (by decide) PyProof.Rows.Boot.«tuple» (by decide) (by decide))) (fun _ => rfl))) (pw_or1 (t_not ck (t_val ck (g_all ck rfl rfl (s_comp ck (own := [("one", 2)]) (s_seq ck (s_var ck rfl (.inr (.inl rfl)) rfl rfl)) (blkOk_by rfl) (by decide) (fun s1 H1 Ca1 cl1 fp1 => (pg_name (i := 2) (ck.blk s1 H1 _ _ fp1).nd rfl (.inl rfl) (.inr rfl))) (fun s1 H1 Ca1 cl1 fp1 => (pts_nil.imp fun _ _ _ h => tT_yes h)) (fun s1 H1 Ca1 cl1 fp1 => (s_call (f := 1) (ck.blk s1 H1 _ _ fp1) kf1 rfl rfl rfl (nsA rfl) (a_cons (ck.blk s1 H1 _ _ fp1) (ns1 rfl) (s_var (ck.blk s1 H1 _ _ fp1) rfl (.inl rfl) rfl rfl) (a_cons (ck.blk s1 H1 _ _ fp1) (ns1 rfl) g_int (a_cons (ck.blk s1 H1 _ _ fp1) (ns1 rfl) (g_sub (ck.blk s1 H1 _ _ fp1) (s_var (ck.blk s1 H1 _ _ fp1) rfl (.inr (.inl rfl)) rfl rfl) g_int) a_nil))))) (fun _ => rfl))) (fun _ => rfl)))))) (p_cons ck (p_ret ck g_bl)
 p_nil) p_nil)
 (p_cons ck (p_ret ck (g_all ck rfl rfl (s_comp ck (own := [("at", 3)]) (s_rng ck rfl (ns1 rfl) (g_sub ck (g_len ck rfl rfl (s_var ck rfl (.inr (.inl rfl)) rfl rfl)) g_int)) (blkOk_by rfl) (by decide) (fun s2 H2 Ca2 cl2 fp2 => (pg_name (i := 3) (ck.blk s2 H2 _ _ fp2).nd rfl (.inl rfl) (.inr rfl))) (fun s2 H2 Ca2 cl2 fp2 => (pts_nil.imp fun _ _ _ h => tT_yes h)) (fun s2 H2 Ca2 cl2 fp2 => (g_cmp (ck.blk s2 H2 _ _ fp2) (k_lt (ck.blk s2 H2 _ _ fp2)) (by first | rfl | exact nobehind _ (by decide) (by decide)) (g_ix (ck.blk s2 H2 _ _ fp2) (fun _ _ => rfl) (s_var (ck.blk s2 H2 _ _ fp2) rfl (.inr (.inl rfl)) rfl rfl) (s_var (ck.blk s2 H2 _ _ fp2) rfl (.inl rfl) rfl rfl)) (g_ix (ck.blk s2 H2 _ _ fp2) (fun _ _ => rfl) (s_var (ck.blk s2 H2 _ _ fp2) rfl (.inr (.inl rfl)) rfl rfl) (g_add (ck.blk s2 H2 _ _ fp2) (s_var (ck.blk s2 H2 _ _ fp2) rfl (.inl rfl) rfl rfl) g_int)))) (fun _ => rfl))))
 p_nil))

abbrev st4 : Stmt := top 14
theorem bd4 {P : Program} {w : World} {K : PySem.W.Frag} {mg : Str → Option Value} {base : Heap} {T : List (Addr × Str)} {C : Cl} {Θ : Pm} {fa : Addr} {cdv : Value} {A : Around} {outer : List PySem.Env} {s : Shared} {H : Hp} {E : XK} 
    (ck : Ck (nm T) C Θ (cx P w K mg base n4 "number_by" st4 fa cdv A outer s H E) (we E) false) (hpo : PassesOwn (model P w) (cx P w K mg base n4 "number_by" st4 fa cdv A outer s H E).A (cx P w K mg base n4 "number_by" st4 fa cdv A outer s H E).env (cx P w K mg base n4 "number_by" st4 fa cdv A outer s H E).xe) :
    PSs (cx P w K mg base n4 "number_by" st4 fa cdv A outer s H E) (defBody st4) (tS (nm T) C Θ (cx P w K mg base n4 "number_by" st4 fa cdv A outer s H E) (we E) ir4) :=
  (p_cons ck (p_ret ck (g_sum ck rfl rfl (s_comp ck (own := [("lamp", 1), ("bit", 2)]) (s_enum ck rfl (ns1 rfl) (s_var ck rfl (.inl rfl) rfl rfl)) (blkOk_by rfl) (by decide) (fun s1 H1 Ca1 cl1 fp1 => (pg_tup ((ck.blk s1 H1 _ _ fp1).calm rfl) (pgs_cons (pg_name (i := 1) (ck.blk s1 H1 _ _ fp1).nd rfl (.inl rfl) (.inr rfl)) (pgs_cons (pg_name (i := 2) (ck.blk s1 H1 _ _ fp1).nd rfl (.inl rfl) (.inr rfl)) pgs_nil)))) (fun s1 H1 Ca1 cl1 fp1 => (pts_one (gt_cmp (ck.blk s1 H1 _ _ fp1) (k_eq (ck.blk s1 H1 _ _ fp1)) (by first | rfl | exact nobehind _ (by decide) (by decide)) (s_var (ck.blk s1 H1 _ _ fp1) rfl (.inl rfl) rfl rfl) g_int))) (fun s1 H1 Ca1 cl1 fp1 => (g_ix (ck.blk s1 H1 _ _ fp1) (fun _ _ => rfl) (s_glb (g := 1) (ck.blk s1 H1 _ _ fp1) rfl rfl) (s_var (ck.blk s1 H1 _ _ fp1) rfl (.inl rfl) rfl rfl))) (fun _ => rfl))))
 p_nil)

abbrev st5 : Stmt := top 16
theorem bd5 {P : Program} {w : World} {K : PySem.W.Frag} {mg : Str → Option Value} {base : Heap} {T : List (Addr × Str)} {C : Cl} {Θ : Pm} {fa : Addr} {cdv : Value} {A : Around} {outer : List PySem.Env} {s : Shared} {H : Hp} {E : XK} 
    (ck : Ck (nm T) C Θ (cx P w K mg base n5 "wanted" st5 fa cdv A outer s H E) (we E) false) (hpo : PassesOwn (model P w) (cx P w K mg base n5 "wanted" st5 fa cdv A outer s H E).A (cx P w K mg base n5 "wanted" st5 fa cdv A outer s H E).env (cx P w K mg base n5 "wanted" st5 fa cdv A outer s H E).xe) :
    PSs (cx P w K mg base n5 "wanted" st5 fa cdv A outer s H E) (defBody st5) (tS (nm T) C Θ (cx P w K mg base n5 "wanted" st5 fa cdv A outer s H E) (we E) ir5) :=
  (p_cons ck (p_ret ck (g_tuple ck rfl rfl (s_comp ck (own := [("table", 2)]) (s_seq ck (s_fld (f := 2) ck (nc0 rfl) (s_var ck rfl (.inl rfl) rfl rfl))) (blkOk_by rfl) (by decide) (fun s1 H1 Ca1 cl1 fp1 => (pg_name (i := 2) (ck.blk s1 H1 _ _ fp1).nd rfl (.inl rfl) (.inr rfl))) (fun s1 H1 Ca1 cl1 fp1 => (pts_nil.imp fun _ _ _ h => tT_yes h)) (fun s1 H1 Ca1 cl1 fp1 => (g_ix (ck.blk s1 H1 _ _ fp1) (fun _ _ => rfl) (s_var (ck.blk s1 H1 _ _ fp1) rfl (.inl rfl) rfl rfl) (s_var (ck.blk s1 H1 _ _ fp1) rfl (.inr (.inl rfl)) rfl rfl))) (fun _ => rfl))))
 p_nil)

abbrev st6 : Stmt := top 17
theorem bd6 {P : Program} {w : World} {K : PySem.W.Frag} {mg : Str → Option Value} {base : Heap} {T : List (Addr × Str)} {C : Cl} {Θ : Pm} {fa : Addr} {cdv : Value} {A : Around} {outer : List PySem.Env} {s : Shared} {H : Hp} {E : XK} 
    (ck : Ck (nm T) C Θ (cx P w K mg base n6 "check_net" st6 fa cdv A outer s H E) (we E) false) (hpo : PassesOwn (model P w) (cx P w K mg base n6 "check_net" st6 fa cdv A outer s H E).A (cx P w K mg base n6 "check_net" st6 fa cdv A outer s H E).env (cx P w K mg base n6 "check_net" st6 fa cdv A outer s H E).xe) :
    PSs (cx P w K mg base n6 "check_net" st6 fa cdv A outer s H E) (defBody st6) (tS (nm T) C Θ (cx P w K mg base n6 "check_net" st6 fa cdv A outer s H E) (we E) ir6) :=
  (p_cons ck (p_if ck (t_not ck (t_val ck (s_isi1 ck rfl (ns1 rfl) (s_var ck rfl (.inl rfl) rfl rfl) (.own 6 _ rfl rfl rfl)) (fun _ => rfl))) (p_cons ck (p_rse0 (c := 3) ck rfl rfl rfl rfl)
 p_nil) p_nil)
 p_nil)

abbrev st7 : Stmt := top 18
theorem bd7 {P : Program} {w : World} {K : PySem.W.Frag} {mg : Str → Option Value} {base : Heap} {T : List (Addr × Str)} {C : Cl} {Θ : Pm} {fa : Addr} {cdv : Value} {A : Around} {outer : List PySem.Env} {s : Shared} {H : Hp} {E : XK} (kf2 : C.kf 2 = true) (kf4 : C.kf 4 = true)
    (ck : Ck (nm T) C Θ (cx P w K mg base n7 "number_of" st7 fa cdv A outer s H E) (we E) false) (hpo : PassesOwn (model P w) (cx P w K mg base n7 "number_of" st7 fa cdv A outer s H E).A (cx P w K mg base n7 "number_of" st7 fa cdv A outer s H E).env (cx P w K mg base n7 "number_of" st7 fa cdv A outer s H E).xe) :
    PSs (cx P w K mg base n7 "number_of" st7 fa cdv A outer s H E) (defBody st7) (tS (nm T) C Θ (cx P w K mg base n7 "number_of" st7 fa cdv A outer s H E) (we E) ir7) :=
  (p_cons ck (p_if ck (PW.pt (w_or ck (t_not ck (t_val ck (s_isi1 ck rfl (ns1 rfl) (s_var ck rfl (.inl rfl) rfl rfl) (.bi .tuple "tuple" _ (by decide) rfl (by decide) PyProof.Rows.Boot.«tuple» (by decide) (by decide))) (fun _ => rfl))) (w_or ck (t_not ck (gt_chain ck (k_le ck) (k_le ck) (by first | rfl | exact nobehind _ (by decide) (by decide)) g_int (g_len ck rfl rfl (s_var ck rfl (.inl rfl) rfl rfl)) (s_glb (g := 0) ck rfl rfl))) (pw_or1 (t_not ck (t_val ck (s_call (f := 2) ck kf2 rfl rfl rfl (nsA rfl) (a_cons ck (ns1 rfl) (g_len ck rfl rfl (s_var ck rfl (.inl rfl) rfl rfl)) (a_cons ck (ns1 rfl) (s_var ck rfl (.inl rfl) rfl rfl) a_nil))) (fun _ => rfl))))))) (p_cons ck (p_rse0 (c := 2) ck rfl rfl rfl rfl)
 p_nil) p_nil)
 (p_cons ck (p_ret ck (s_call (f := 4) ck kf4 rfl rfl rfl (nsA rfl) (a_cons ck (ns1 rfl) (s_var ck rfl (.inl rfl) rfl rfl) a_nil)))
 p_nil))

abbrev st8 : Stmt := top 19
theorem bd8 {P : Program} {w : World} {K : PySem.W.Frag} {mg : Str → Option Value} {base : Heap} {T : List (Addr × Str)} {C : Cl} {Θ : Pm} {fa : Addr} {cdv : Value} {A : Around} {outer : List PySem.Env} {s : Shared} {H : Hp} {E : XK} (kf2 : C.kf 2 = true) (kf3 : C.kf 3 = true)
    (ck : Ck (nm T) C Θ (cx P w K mg base n8 "is_rule" st8 fa cdv A outer s H E) (we E) false) (hpo : PassesOwn (model P w) (cx P w K mg base n8 "is_rule" st8 fa cdv A outer s H E).A (cx P w K mg base n8 "is_rule" st8 fa cdv A outer s H E).env (cx P w K mg base n8 "is_rule" st8 fa cdv A outer s H E).xe) :
    PSs (cx P w K mg base n8 "is_rule" st8 fa cdv A outer s H E) (defBody st8) (tS (nm T) C Θ (cx P w K mg base n8 "is_rule" st8 fa cdv A outer s H E) (we E) ir8) :=
  (p_cons ck (p_if ck (PW.pt (w_or ck (t_not ck (t_val ck (s_isi1 ck rfl (ns1 rfl) (s_var ck rfl (.inl rfl) rfl rfl) (.bi .tuple "tuple" _ (by decide) rfl (by decide) PyProof.Rows.Boot.«tuple» (by decide) (by decide))) (fun _ => rfl))) (w_or ck (gt_cmp ck (k_ne ck) (by first | rfl | exact nobehind _ (by decide) (by decide)) (g_len ck rfl rfl (s_var ck rfl (.inl rfl) rfl rfl)) g_int) (pw_or1 (t_not ck (t_val ck (s_call (f := 3) ck kf3 rfl rfl rfl (nsA rfl) (a_cons ck (ns1 rfl) (s_var ck rfl (.inl rfl) rfl rfl) (a_cons ck (ns1 rfl) (g_ix ck (fun _ _ => rfl) (s_var ck rfl (.inl rfl) rfl rfl) g_int) a_nil))) (fun _ => rfl))))))) (p_cons ck (p_ret ck g_bl)
 p_nil) p_nil)
 (p_cons ck (p_ret ck (s_call (f := 2) ck kf2 rfl rfl rfl (nsA rfl) (a_cons ck (ns1 rfl) (g_ix ck (fun _ _ => rfl) (s_glb (g := 1) ck rfl rfl) (g_len ck rfl rfl (g_ix ck (fun _ _ => rfl) (s_var ck rfl (.inl rfl) rfl rfl) g_int))) (a_cons ck (ns1 rfl) (g_ix ck (fun _ _ => rfl) (s_var ck rfl (.inl rfl) rfl rfl) g_int) a_nil))))
 p_nil))

abbrev st9 : Stmt := top 24
theorem bd9 {P : Program} {w : World} {K : PySem.W.Frag} {mg : Str → Option Value} {base : Heap} {T : List (Addr × Str)} {C : Cl} {Θ : Pm} {fa : Addr} {cdv : Value} {A : Around} {outer : List PySem.Env} {s : Shared} {H : Hp} {E : XK} 
    (ck : Ck (nm T) C Θ (cx P w K mg base n9 "bits_text" st9 fa cdv A outer s H E) (we E) false) (hpo : PassesOwn (model P w) (cx P w K mg base n9 "bits_text" st9 fa cdv A outer s H E).A (cx P w K mg base n9 "bits_text" st9 fa cdv A outer s H E).env (cx P w K mg base n9 "bits_text" st9 fa cdv A outer s H E).xe) :
    PSs (cx P w K mg base n9 "bits_text" st9 fa cdv A outer s H E) (defBody st9) (tS (nm T) C Θ (cx P w K mg base n9 "bits_text" st9 fa cdv A outer s H E) (we E) ir9) :=
  (p_cons ck (p_ret ck (g_join ck rfl rfl rfl g_str (s_comp ck (own := [("bit", 1)]) (s_seq ck (s_var ck rfl (.inl rfl) rfl rfl)) (blkOk_by rfl) (by decide) (fun s1 H1 Ca1 cl1 fp1 => (pg_name (i := 1) (ck.blk s1 H1 _ _ fp1).nd rfl (.inl rfl) (.inr rfl))) (fun s1 H1 Ca1 cl1 fp1 => (pts_nil.imp fun _ _ _ h => tT_yes h)) (fun s1 H1 Ca1 cl1 fp1 => (g_strc (ck.blk s1 H1 _ _ fp1) rfl rfl (s_var (ck.blk s1 H1 _ _ fp1) rfl (.inl rfl) rfl rfl))) (fun _ => rfl))))
 p_nil)

abbrev st10 : Stmt := top 25
theorem bd10 {P : Program} {w : World} {K : PySem.W.Frag} {mg : Str → Option Value} {base : Heap} {T : List (Addr × Str)} {C : Cl} {Θ : Pm} {fa : Addr} {cdv : Value} {A : Around} {outer : List PySem.Env} {s : Shared} {H : Hp} {E : XK} (kf6 : C.kf 6 = true) (kf9 : C.kf 9 = true)
    (ck : Ck (nm T) C Θ (cx P w K mg base n10 "net_text" st10 fa cdv A outer s H E) (we E) false) (hpo : PassesOwn (model P w) (cx P w K mg base n10 "net_text" st10 fa cdv A outer s H E).A (cx P w K mg base n10 "net_text" st10 fa cdv A outer s H E).env (cx P w K mg base n10 "net_text" st10 fa cdv A outer s H E).xe) :
    PSs (cx P w K mg base n10 "net_text" st10 fa cdv A outer s H E) (defBody st10) (tS (nm T) C Θ (cx P w K mg base n10 "net_text" st10 fa cdv A outer s H E) (we E) ir10) :=
  (p_cons ck (p_expr ck (s_call (f := 6) ck kf6 rfl rfl rfl (nsA rfl) (a_cons ck (ns1 rfl) (s_var ck rfl (.inl rfl) rfl rfl) a_nil)) (by rfl))
 (p_cons ck (p_ret ck (g_join ck rfl rfl rfl g_str (s_comp ck (own := [("table", 1)]) (s_seq ck (s_fld (f := 2) ck (nc0 rfl) (s_var ck rfl (.inl rfl) rfl rfl))) (blkOk_by rfl) (by decide) (fun s1 H1 Ca1 cl1 fp1 => (pg_name (i := 1) (ck.blk s1 H1 _ _ fp1).nd rfl (.inl rfl) (.inr rfl))) (fun s1 H1 Ca1 cl1 fp1 => (pts_nil.imp fun _ _ _ h => tT_yes h)) (fun s1 H1 Ca1 cl1 fp1 => (g_add (ck.blk s1 H1 _ _ fp1) (s_call (f := 9) (ck.blk s1 H1 _ _ fp1) kf9 rfl rfl rfl (nsA rfl) (a_cons (ck.blk s1 H1 _ _ fp1) (ns1 rfl) (s_var (ck.blk s1 H1 _ _ fp1) rfl (.inl rfl) rfl rfl) a_nil)) g_str)) (fun _ => rfl))))
 p_nil))

abbrev st11 : Stmt := top 26
theorem bd11 {P : Program} {w : World} {K : PySem.W.Frag} {mg : Str → Option Value} {base : Heap} {T : List (Addr × Str)} {C : Cl} {Θ : Pm} {fa : Addr} {cdv : Value} {A : Around} {outer : List PySem.Env} {s : Shared} {H : Hp} {E : XK} 
    (ck : Ck (nm T) C Θ (cx P w K mg base n11 "are_bit_signs" st11 fa cdv A outer s H E) (we E) false) (hpo : PassesOwn (model P w) (cx P w K mg base n11 "are_bit_signs" st11 fa cdv A outer s H E).A (cx P w K mg base n11 "are_bit_signs" st11 fa cdv A outer s H E).env (cx P w K mg base n11 "are_bit_signs" st11 fa cdv A outer s H E).xe) :
    PSs (cx P w K mg base n11 "are_bit_signs" st11 fa cdv A outer s H E) (defBody st11) (tS (nm T) C Θ (cx P w K mg base n11 "are_bit_signs" st11 fa cdv A outer s H E) (we E) ir11) :=
  (p_cons ck (p_ret ck (s_and ck (g_cmp ck (k_eq ck) (by first | rfl | exact nobehind _ (by decide) (by decide)) (g_len ck rfl rfl (s_var ck rfl (.inl rfl) rfl rfl)) (s_var ck rfl (.inl rfl) rfl rfl)) (pe_one (g_all ck rfl rfl (s_comp ck (own := [("sign", 2)]) (s_seq ck (s_var ck rfl (.inl rfl) rfl rfl)) (blkOk_by rfl) (by decide) (fun s1 H1 Ca1 cl1 fp1 => (pg_name (i := 2) (ck.blk s1 H1 _ _ fp1).nd rfl (.inl rfl) (.inr rfl))) (fun s1 H1 Ca1 cl1 fp1 => (pts_nil.imp fun _ _ _ h => tT_yes h)) (fun s1 H1 Ca1 cl1 fp1 => (g_cmp (ck.blk s1 H1 _ _ fp1) (k_in (ck.blk s1 H1 _ _ fp1)) (by first | rfl | exact nobehind _ (by decide) (by decide)) (s_var (ck.blk s1 H1 _ _ fp1) rfl (.inl rfl) rfl rfl) g_str)) (fun _ => rfl))))))
 p_nil)

abbrev st12 : Stmt := top 27
theorem bd12 {P : Program} {w : World} {K : PySem.W.Frag} {mg : Str → Option Value} {base : Heap} {T : List (Addr × Str)} {C : Cl} {Θ : Pm} {fa : Addr} {cdv : Value} {A : Around} {outer : List PySem.Env} {s : Shared} {H : Hp} {E : XK} 
    (ck : Ck (nm T) C Θ (cx P w K mg base n12 "bits_told" st12 fa cdv A outer s H E) (we E) false) (hpo : PassesOwn (model P w) (cx P w K mg base n12 "bits_told" st12 fa cdv A outer s H E).A (cx P w K mg base n12 "bits_told" st12 fa cdv A outer s H E).env (cx P w K mg base n12 "bits_told" st12 fa cdv A outer s H E).xe) :
    PSs (cx P w K mg base n12 "bits_told" st12 fa cdv A outer s H E) (defBody st12) (tS (nm T) C Θ (cx P w K mg base n12 "bits_told" st12 fa cdv A outer s H E) (we E) ir12) :=
  (p_cons ck (p_ret ck (g_tuple ck rfl rfl (s_comp ck (own := [("sign", 1)]) (s_seq ck (s_var ck rfl (.inl rfl) rfl rfl)) (blkOk_by rfl) (by decide) (fun s1 H1 Ca1 cl1 fp1 => (pg_name (i := 1) (ck.blk s1 H1 _ _ fp1).nd rfl (.inl rfl) (.inr rfl))) (fun s1 H1 Ca1 cl1 fp1 => (pts_nil.imp fun _ _ _ h => tT_yes h)) (fun s1 H1 Ca1 cl1 fp1 => (g_intc (ck.blk s1 H1 _ _ fp1) rfl rfl (s_var (ck.blk s1 H1 _ _ fp1) rfl (.inl rfl) rfl rfl))) (fun _ => rfl))))
 p_nil)

abbrev st13 : Stmt := top 28
theorem bd13 {P : Program} {w : World} {K : PySem.W.Frag} {mg : Str → Option Value} {base : Heap} {T : List (Addr × Str)} {C : Cl} {Θ : Pm} {fa : Addr} {cdv : Value} {A : Around} {outer : List PySem.Env} {s : Shared} {H : Hp} {E : XK} (kf11 : C.kf 11 = true) (kf12 : C.kf 12 = true) (km6 : C.km 6 = true)
    (ck : Ck (nm T) C Θ (cx P w K mg base n13 "read_net" st13 fa cdv A outer s H E) (we E) false) (hpo : PassesOwn (model P w) (cx P w K mg base n13 "read_net" st13 fa cdv A outer s H E).A (cx P w K mg base n13 "read_net" st13 fa cdv A outer s H E).env (cx P w K mg base n13 "read_net" st13 fa cdv A outer s H E).xe) :
    PSs (cx P w K mg base n13 "read_net" st13 fa cdv A outer s H E) (defBody st13) (tS (nm T) C Θ (cx P w K mg base n13 "read_net" st13 fa cdv A outer s H E) (we E) ir13) :=
  (p_cons ck (p_if ck (t_not ck (t_val ck (s_isi1 ck rfl (ns1 rfl) (s_var ck rfl (.inl rfl) rfl rfl) (.bi .str "str" _ (by decide) rfl (by decide) PyProof.Rows.Boot.«str» (by decide) (by decide))) (fun _ => rfl))) (p_cons ck (p_rse1 (c := 4) ck rfl rfl rfl rfl (ns1 rfl) g_int)
 p_nil) p_nil)
 (p_cons ck (p_asg ck (s_set ck (i := 1) rfl (.inl rfl) (.inr rfl) (by rfl) (g_split ck rfl rfl rfl (s_var ck rfl (.inl rfl) rfl rfl) g_str)))
 (p_cons ck (p_asg ck (s_set ck (i := 2) rfl (.inl rfl) (.inr rfl) (by rfl) (s_cut ck (s_var ck rfl (.inl rfl) rfl rfl) o_none (o_some ck (s_neg ck g_int)))))
 (p_cons ck (p_if ck (t_not ck (gt_chain ck (k_le ck) (k_le ck) (by first | rfl | exact nobehind _ (by decide) (by decide)) g_int (g_len ck rfl rfl (s_var ck rfl (.inl rfl) rfl rfl)) (s_glb (g := 0) ck rfl rfl))) (p_cons ck (p_rse1 (c := 4) ck rfl rfl rfl rfl (ns1 rfl) (g_len ck rfl rfl (s_var ck rfl (.inl rfl) rfl rfl)))
 p_nil) p_nil)
 (p_cons ck (p_for ck hpo (s_enum ck rfl (ns1 rfl) (s_var ck rfl (.inl rfl) rfl rfl)) (pg_tup (ck.calm rfl) (pgs_cons (pg_name (i := 3) ck.nd rfl (.inl rfl) (.inr rfl)) (pgs_cons (pg_name (i := 4) ck.nd rfl (.inl rfl) (.inr rfl)) pgs_nil))) (p_cons ck (p_if ck (t_not ck (t_val ck (s_call (f := 11) ck kf11 rfl rfl rfl (nsA rfl) (a_cons ck (ns1 rfl) (s_var ck rfl (.inl rfl) rfl rfl) (a_cons ck (ns1 rfl) (g_ix ck (fun _ _ => rfl) (s_glb (g := 1) ck rfl rfl) (g_len ck rfl rfl (s_var ck rfl (.inl rfl) rfl rfl))) a_nil))) (fun _ => rfl))) (p_cons ck (p_rse1 (c := 4) ck rfl rfl rfl rfl (ns1 rfl) (g_add ck (s_var ck rfl (.inl rfl) rfl rfl) g_int))
 p_nil) p_nil)
 p_nil) (fun _ => rfl))
 (p_cons ck (p_if ck (gt_cmp ck (k_ne ck) (by first | rfl | exact nobehind _ (by decide) (by decide)) (g_ix ck (fun _ _ => rfl) (s_var ck rfl (.inl rfl) rfl rfl) (s_neg ck g_int)) g_str) (p_cons ck (p_rse1 (c := 4) ck rfl rfl rfl rfl (ns1 rfl) (g_len ck rfl rfl (s_var ck rfl (.inl rfl) rfl rfl)))
 p_nil) p_nil)
 (p_cons ck (p_ret ck (s_mk (c := 6) ck km6 rfl rfl rfl (nsA rfl) (a_cons ck (ns1 rfl) (g_tuple ck rfl rfl (s_comp ck (own := [("row", 4)]) (s_seq ck (s_var ck rfl (.inl rfl) rfl rfl)) (blkOk_by rfl) (by decide) (fun s1 H1 Ca1 cl1 fp1 => (pg_name (i := 4) (ck.blk s1 H1 _ _ fp1).nd rfl (.inl rfl) (.inr rfl))) (fun s1 H1 Ca1 cl1 fp1 => (pts_nil.imp fun _ _ _ h => tT_yes h)) (fun s1 H1 Ca1 cl1 fp1 => (s_call (f := 12) (ck.blk s1 H1 _ _ fp1) kf12 rfl rfl rfl (nsA rfl) (a_cons (ck.blk s1 H1 _ _ fp1) (ns1 rfl) (s_var (ck.blk s1 H1 _ _ fp1) rfl (.inl rfl) rfl rfl) a_nil))) (fun _ => rfl))) a_nil)))
 p_nil)))))))

abbrev st14 : Stmt := top 29
theorem bd14 {P : Program} {w : World} {K : PySem.W.Frag} {mg : Str → Option Value} {base : Heap} {T : List (Addr × Str)} {C : Cl} {Θ : Pm} {fa : Addr} {cdv : Value} {A : Around} {outer : List PySem.Env} {s : Shared} {H : Hp} {E : XK} (kf9 : C.kf 9 = true)
    (ck : Ck (nm T) C Θ (cx P w K mg base n14 "lamps_text" st14 fa cdv A outer s H E) (we E) false) (hpo : PassesOwn (model P w) (cx P w K mg base n14 "lamps_text" st14 fa cdv A outer s H E).A (cx P w K mg base n14 "lamps_text" st14 fa cdv A outer s H E).env (cx P w K mg base n14 "lamps_text" st14 fa cdv A outer s H E).xe) :
    PSs (cx P w K mg base n14 "lamps_text" st14 fa cdv A outer s H E) (defBody st14) (tS (nm T) C Θ (cx P w K mg base n14 "lamps_text" st14 fa cdv A outer s H E) (we E) ir14) :=
  (p_cons ck (p_ret ck (s_ife ck (gt_cmp ck (k_eq ck) (by first | rfl | exact nobehind _ (by decide) (by decide)) (g_len ck rfl rfl (s_var ck rfl (.inl rfl) rfl rfl)) g_int) (s_glb (g := 2) ck rfl rfl) (s_call (f := 9) ck kf9 rfl rfl rfl (nsA rfl) (a_cons ck (ns1 rfl) (s_var ck rfl (.inl rfl) rfl rfl) a_nil))))
 p_nil)

abbrev st15 : Stmt := top 30
theorem bd15 {P : Program} {w : World} {K : PySem.W.Frag} {mg : Str → Option Value} {base : Heap} {T : List (Addr × Str)} {C : Cl} {Θ : Pm} {fa : Addr} {cdv : Value} {A : Around} {outer : List PySem.Env} {s : Shared} {H : Hp} {E : XK} (kf14 : C.kf 14 = true) (kf8 : C.kf 8 = true) (kf9 : C.kf 9 = true)
    (ck : Ck (nm T) C Θ (cx P w K mg base n15 "rule_text" st15 fa cdv A outer s H E) (we E) false) (hpo : PassesOwn (model P w) (cx P w K mg base n15 "rule_text" st15 fa cdv A outer s H E).A (cx P w K mg base n15 "rule_text" st15 fa cdv A outer s H E).env (cx P w K mg base n15 "rule_text" st15 fa cdv A outer s H E).xe) :
    PSs (cx P w K mg base n15 "rule_text" st15 fa cdv A outer s H E) (defBody st15) (tS (nm T) C Θ (cx P w K mg base n15 "rule_text" st15 fa cdv A outer s H E) (we E) ir15) :=
  (p_cons ck (p_if ck (t_not ck (t_val ck (s_call (f := 8) ck kf8 rfl rfl rfl (nsA rfl) (a_cons ck (ns1 rfl) (s_glb (g := 0) ck rfl rfl) (a_cons ck (ns1 rfl) (s_var ck rfl (.inl rfl) rfl rfl) a_nil))) (fun _ => rfl))) (p_cons ck (p_rse0 (c := 5) ck rfl rfl rfl rfl)
 p_nil) p_nil)
 (p_cons ck (p_ret ck (g_add ck (g_add ck (s_call (f := 14) ck kf14 rfl rfl rfl (nsA rfl) (a_cons ck (ns1 rfl) (g_ix ck (fun _ _ => rfl) (s_var ck rfl (.inl rfl) rfl rfl) g_int) a_nil)) (s_glb (g := 3) ck rfl rfl)) (s_call (f := 9) ck kf9 rfl rfl rfl (nsA rfl) (a_cons ck (ns1 rfl) (g_ix ck (fun _ _ => rfl) (s_var ck rfl (.inl rfl) rfl rfl) g_int) a_nil))))
 p_nil))

abbrev st16 : Stmt := top 31
theorem bd16 {P : Program} {w : World} {K : PySem.W.Frag} {mg : Str → Option Value} {base : Heap} {T : List (Addr × Str)} {C : Cl} {Θ : Pm} {fa : Addr} {cdv : Value} {A : Around} {outer : List PySem.Env} {s : Shared} {H : Hp} {E : XK} 
    (ck : Ck (nm T) C Θ (cx P w K mg base n16 "lamps_told" st16 fa cdv A outer s H E) (we E) false) (hpo : PassesOwn (model P w) (cx P w K mg base n16 "lamps_told" st16 fa cdv A outer s H E).A (cx P w K mg base n16 "lamps_told" st16 fa cdv A outer s H E).env (cx P w K mg base n16 "lamps_told" st16 fa cdv A outer s H E).xe) :
    PSs (cx P w K mg base n16 "lamps_told" st16 fa cdv A outer s H E) (defBody st16) (tS (nm T) C Θ (cx P w K mg base n16 "lamps_told" st16 fa cdv A outer s H E) (we E) ir16) :=
  (p_cons ck (p_if ck (gt_cmp ck (k_eq ck) (by first | rfl | exact nobehind _ (by decide) (by decide)) (s_var ck rfl (.inl rfl) rfl rfl) (s_glb (g := 2) ck rfl rfl)) (p_cons ck (p_ret ck (s_tup ck (by decide) a_nil))
 p_nil) p_nil)
 (p_cons ck (p_if ck (PW.pt (w_or ck (gt_cmp ck (k_eq ck) (by first | rfl | exact nobehind _ (by decide) (by decide)) (g_len ck rfl rfl (s_var ck rfl (.inl rfl) rfl rfl)) g_int) (pw_or1 (t_not ck (t_val ck (g_all ck rfl rfl (s_comp ck (own := [("sign", 1)]) (s_seq ck (s_var ck rfl (.inl rfl) rfl rfl)) (blkOk_by rfl) (by decide) (fun s1 H1 Ca1 cl1 fp1 => (pg_name (i := 1) (ck.blk s1 H1 _ _ fp1).nd rfl (.inl rfl) (.inr rfl))) (fun s1 H1 Ca1 cl1 fp1 => (pts_nil.imp fun _ _ _ h => tT_yes h)) (fun s1 H1 Ca1 cl1 fp1 => (g_cmp (ck.blk s1 H1 _ _ fp1) (k_in (ck.blk s1 H1 _ _ fp1)) (by first | rfl | exact nobehind _ (by decide) (by decide)) (s_var (ck.blk s1 H1 _ _ fp1) rfl (.inl rfl) rfl rfl) (s_glb (g := 4) (ck.blk s1 H1 _ _ fp1) rfl rfl))) (fun _ => rfl))) (fun _ => rfl)))))) (p_cons ck (p_ret ck g_non)
 p_nil) p_nil)
 (p_cons ck (p_ret ck (g_tuple ck rfl rfl (s_comp ck (own := [("sign", 1)]) (s_seq ck (s_var ck rfl (.inl rfl) rfl rfl)) (blkOk_by rfl) (by decide) (fun s2 H2 Ca2 cl2 fp2 => (pg_name (i := 1) (ck.blk s2 H2 _ _ fp2).nd rfl (.inl rfl) (.inr rfl))) (fun s2 H2 Ca2 cl2 fp2 => (pts_nil.imp fun _ _ _ h => tT_yes h)) (fun s2 H2 Ca2 cl2 fp2 => (g_intc (ck.blk s2 H2 _ _ fp2) rfl rfl (s_var (ck.blk s2 H2 _ _ fp2) rfl (.inl rfl) rfl rfl))) (fun _ => rfl))))
 p_nil)))

abbrev st17 : Stmt := top 32
theorem bd17 {P : Program} {w : World} {K : PySem.W.Frag} {mg : Str → Option Value} {base : Heap} {T : List (Addr × Str)} {C : Cl} {Θ : Pm} {fa : Addr} {cdv : Value} {A : Around} {outer : List PySem.Env} {s : Shared} {H : Hp} {E : XK} (kf12 : C.kf 12 = true) (kf16 : C.kf 16 = true) (kf8 : C.kf 8 = true)
    (ck : Ck (nm T) C Θ (cx P w K mg base n17 "read_rule" st17 fa cdv A outer s H E) (we E) false) (hpo : PassesOwn (model P w) (cx P w K mg base n17 "read_rule" st17 fa cdv A outer s H E).A (cx P w K mg base n17 "read_rule" st17 fa cdv A outer s H E).env (cx P w K mg base n17 "read_rule" st17 fa cdv A outer s H E).xe) :
    PSs (cx P w K mg base n17 "read_rule" st17 fa cdv A outer s H E) (defBody st17) (tS (nm T) C Θ (cx P w K mg base n17 "read_rule" st17 fa cdv A outer s H E) (we E) ir17) :=
  (p_cons ck (p_if ck (t_not ck (t_val ck (s_isi1 ck rfl (ns1 rfl) (s_var ck rfl (.inl rfl) rfl rfl) (.bi .str "str" _ (by decide) rfl (by decide) PyProof.Rows.Boot.«str» (by decide) (by decide))) (fun _ => rfl))) (p_cons ck (p_rse1 (c := 4) ck rfl rfl rfl rfl (ns1 rfl) g_int)
 p_nil) p_nil)
 (p_cons ck (p_asg ck (s_set ck (i := 1) rfl (.inl rfl) (.inr rfl) (by rfl) (g_split ck rfl rfl rfl (s_var ck rfl (.inl rfl) rfl rfl) (s_glb (g := 3) ck rfl rfl))))
 (p_cons ck (p_if ck (PW.pt (w_or ck (gt_cmp ck (k_ne ck) (by first | rfl | exact nobehind _ (by decide) (by decide)) (g_len ck rfl rfl (s_var ck rfl (.inl rfl) rfl rfl)) g_int) (pw_or1 (t_not ck (t_val ck (g_all ck rfl rfl (s_comp ck (own := [("sign", 3)]) (s_seq ck (g_ix ck (fun _ _ => rfl) (s_var ck rfl (.inl rfl) rfl rfl) g_int)) (blkOk_by rfl) (by decide) (fun s1 H1 Ca1 cl1 fp1 => (pg_name (i := 3) (ck.blk s1 H1 _ _ fp1).nd rfl (.inl rfl) (.inr rfl))) (fun s1 H1 Ca1 cl1 fp1 => (pts_nil.imp fun _ _ _ h => tT_yes h)) (fun s1 H1 Ca1 cl1 fp1 => (g_cmp (ck.blk s1 H1 _ _ fp1) (k_in (ck.blk s1 H1 _ _ fp1)) (by first | rfl | exact nobehind _ (by decide) (by decide)) (s_var (ck.blk s1 H1 _ _ fp1) rfl (.inl rfl) rfl rfl) g_str)) (fun _ => rfl))) (fun _ => rfl)))))) (p_cons ck (p_rse1 (c := 4) ck rfl rfl rfl rfl (ns1 rfl) g_int)
 p_nil) p_nil)
 (p_cons ck (p_asg ck (s_set ck (i := 2) rfl (.inl rfl) (.inr rfl) (by rfl) (s_tup ck (by decide) (a_cons ck (ns1 rfl) (s_call (f := 16) ck kf16 rfl rfl rfl (nsA rfl) (a_cons ck (ns1 rfl) (g_ix ck (fun _ _ => rfl) (s_var ck rfl (.inl rfl) rfl rfl) g_int) a_nil)) (a_cons ck (ns1 rfl) (s_call (f := 12) ck kf12 rfl rfl rfl (nsA rfl) (a_cons ck (ns1 rfl) (g_ix ck (fun _ _ => rfl) (s_var ck rfl (.inl rfl) rfl rfl) g_int) a_nil)) a_nil)))))
 (p_cons ck (p_if ck (t_not ck (t_val ck (s_call (f := 8) ck kf8 rfl rfl rfl (nsA rfl) (a_cons ck (ns1 rfl) (s_glb (g := 0) ck rfl rfl) (a_cons ck (ns1 rfl) (s_var ck rfl (.inl rfl) rfl rfl) a_nil))) (fun _ => rfl))) (p_cons ck (p_rse1 (c := 4) ck rfl rfl rfl rfl (ns1 rfl) g_int)
 p_nil) p_nil)
 (p_cons ck (p_ret ck (s_var ck rfl (.inl rfl) rfl rfl))
 p_nil))))))

abbrev st18 : Stmt := top 33
theorem bd18 {P : Program} {w : World} {K : PySem.W.Frag} {mg : Str → Option Value} {base : Heap} {T : List (Addr × Str)} {C : Cl} {Θ : Pm} {fa : Addr} {cdv : Value} {A : Around} {outer : List PySem.Env} {s : Shared} {H : Hp} {E : XK} (kf7 : C.kf 7 = true) (kf9 : C.kf 9 = true)
    (ck : Ck (nm T) C Θ (cx P w K mg base n18 "state_text" st18 fa cdv A outer s H E) (we E) false) (hpo : PassesOwn (model P w) (cx P w K mg base n18 "state_text" st18 fa cdv A outer s H E).A (cx P w K mg base n18 "state_text" st18 fa cdv A outer s H E).env (cx P w K mg base n18 "state_text" st18 fa cdv A outer s H E).xe) :
    PSs (cx P w K mg base n18 "state_text" st18 fa cdv A outer s H E) (defBody st18) (tS (nm T) C Θ (cx P w K mg base n18 "state_text" st18 fa cdv A outer s H E) (we E) ir18) :=
  (p_cons ck (p_expr ck (s_call (f := 7) ck kf7 rfl rfl rfl (nsA rfl) (a_cons ck (ns1 rfl) (s_var ck rfl (.inl rfl) rfl rfl) a_nil)) (by rfl))
 (p_cons ck (p_ret ck (s_call (f := 9) ck kf9 rfl rfl rfl (nsA rfl) (a_cons ck (ns1 rfl) (s_var ck rfl (.inl rfl) rfl rfl) a_nil)))
 p_nil))

abbrev st19 : Stmt := top 34
theorem bd19 {P : Program} {w : World} {K : PySem.W.Frag} {mg : Str → Option Value} {base : Heap} {T : List (Addr × Str)} {C : Cl} {Θ : Pm} {fa : Addr} {cdv : Value} {A : Around} {outer : List PySem.Env} {s : Shared} {H : Hp} {E : XK} (kf11 : C.kf 11 = true) (kf12 : C.kf 12 = true)
    (ck : Ck (nm T) C Θ (cx P w K mg base n19 "read_state" st19 fa cdv A outer s H E) (we E) false) (hpo : PassesOwn (model P w) (cx P w K mg base n19 "read_state" st19 fa cdv A outer s H E).A (cx P w K mg base n19 "read_state" st19 fa cdv A outer s H E).env (cx P w K mg base n19 "read_state" st19 fa cdv A outer s H E).xe) :
    PSs (cx P w K mg base n19 "read_state" st19 fa cdv A outer s H E) (defBody st19) (tS (nm T) C Θ (cx P w K mg base n19 "read_state" st19 fa cdv A outer s H E) (we E) ir19) :=
  (p_cons ck (p_if ck (t_not ck (t_val ck (s_isi1 ck rfl (ns1 rfl) (s_var ck rfl (.inl rfl) rfl rfl) (.bi .str "str" _ (by decide) rfl (by decide) PyProof.Rows.Boot.«str» (by decide) (by decide))) (fun _ => rfl))) (p_cons ck (p_rse1 (c := 4) ck rfl rfl rfl rfl (ns1 rfl) g_int)
 p_nil) p_nil)
 (p_cons ck (p_if ck (PW.pt (w_or ck (t_not ck (gt_chain ck (k_le ck) (k_le ck) (by first | rfl | exact nobehind _ (by decide) (by decide)) g_int (g_len ck rfl rfl (s_var ck rfl (.inl rfl) rfl rfl)) (s_glb (g := 0) ck rfl rfl))) (pw_or1 (t_not ck (t_val ck (s_call (f := 11) ck kf11 rfl rfl rfl (nsA rfl) (a_cons ck (ns1 rfl) (s_var ck rfl (.inl rfl) rfl rfl) (a_cons ck (ns1 rfl) (g_len ck rfl rfl (s_var ck rfl (.inl rfl) rfl rfl)) a_nil))) (fun _ => rfl)))))) (p_cons ck (p_rse1 (c := 4) ck rfl rfl rfl rfl (ns1 rfl) g_int)
 p_nil) p_nil)
 (p_cons ck (p_ret ck (s_call (f := 12) ck kf12 rfl rfl rfl (nsA rfl) (a_cons ck (ns1 rfl) (s_var ck rfl (.inl rfl) rfl rfl) a_nil)))
 p_nil)))

abbrev st20 : Stmt := top 36
theorem bd20 {P : Program} {w : World} {K : PySem.W.Frag} {mg : Str → Option Value} {base : Heap} {T : List (Addr × Str)} {C : Cl} {Θ : Pm} {fa : Addr} {cdv : Value} {A : Around} {outer : List PySem.Env} {s : Shared} {H : Hp} {E : XK} 
    (ck : Ck (nm T) C Θ (cx P w K mg base n20 "_law_hand" st20 fa cdv A outer s H E) (we E) false) (hpo : PassesOwn (model P w) (cx P w K mg base n20 "_law_hand" st20 fa cdv A outer s H E).A (cx P w K mg base n20 "_law_hand" st20 fa cdv A outer s H E).env (cx P w K mg base n20 "_law_hand" st20 fa cdv A outer s H E).xe) :
    PSs (cx P w K mg base n20 "_law_hand" st20 fa cdv A outer s H E) (defBody st20) (tS (nm T) C Θ (cx P w K mg base n20 "_law_hand" st20 fa cdv A outer s H E) (we E) ir20) :=
  (p_cons ck (p_asg ck (s_setLc ck (i := 1) (own := [("cell", 2)]) rfl rfl (by rfl) (s_seq ck (s_cut ck (s_var ck rfl (.inl rfl) rfl rfl) o_none (o_some ck g_int))) (blkOk_by rfl) (by decide) (fun s1 H1 Ca1 cl1 fp1 => (pg_name (i := 2) (ck.blk s1 H1 _ _ fp1).nd rfl (.inl rfl) (.inr rfl))) (fun s1 H1 Ca1 cl1 fp1 => (pts_nil.imp fun _ _ _ h => tT_yes h)) (fun s1 H1 Ca1 cl1 fp1 => (g_abs (ck.blk s1 H1 _ _ fp1) rfl rfl (g_intc (ck.blk s1 H1 _ _ fp1) rfl rfl (s_var (ck.blk s1 H1 _ _ fp1) rfl (.inl rfl) rfl rfl)))) (fun _ => rfl)))
 (p_cons ck (p_ret ck (s_lst ck (by decide) (a_cons ck (ns1 rfl) (s_var ck rfl (.inl rfl) rfl rfl) (a_cons ck (ns1 rfl) g_int (a_cons ck (ns1 rfl) g_int (a_cons ck (ns1 rfl) (g_add ck g_int (g_mul ck g_int (g_len ck rfl rfl (s_var ck rfl (.inl rfl) rfl rfl)))) (a_cons ck (ns1 rfl) g_int a_nil)))))))
 p_nil))

abbrev st21 : Stmt := top 37
theorem bd21 {P : Program} {w : World} {K : PySem.W.Frag} {mg : Str → Option Value} {base : Heap} {T : List (Addr × Str)} {C : Cl} {Θ : Pm} {fa : Addr} {cdv : Value} {A : Around} {outer : List PySem.Env} {s : Shared} {H : Hp} {E : XK} 
    (ck : Ck (nm T) C Θ (cx P w K mg base n21 "_law_draw" st21 fa cdv A outer s H E) (we E) false) (hpo : PassesOwn (model P w) (cx P w K mg base n21 "_law_draw" st21 fa cdv A outer s H E).A (cx P w K mg base n21 "_law_draw" st21 fa cdv A outer s H E).env (cx P w K mg base n21 "_law_draw" st21 fa cdv A outer s H E).xe) :
    PSs (cx P w K mg base n21 "_law_draw" st21 fa cdv A outer s H E) (defBody st21) (tS (nm T) C Θ (cx P w K mg base n21 "_law_draw" st21 fa cdv A outer s H E) (we E) ir21) :=
  (p_cons ck (p_if ck (PW.pt (w_and ck (gt_cmp ck (k_eq ck) (by first | rfl | exact nobehind _ (by decide) (by decide)) (g_ix ck (fun _ _ => rfl) (s_var ck rfl (.inl rfl) rfl rfl) g_int) g_int) (pw_and1 (gt_cmp ck (k_lt ck) (by first | rfl | exact nobehind _ (by decide) (by decide)) (g_ix ck (fun _ _ => rfl) (s_var ck rfl (.inl rfl) rfl rfl) g_int) (g_len ck rfl rfl (g_ix ck (fun _ _ => rfl) (s_var ck rfl (.inl rfl) rfl rfl) g_int)))))) (p_cons ck (p_asg ck (s_set ck (i := 2) rfl (.inl rfl) (.inr rfl) (by rfl) (g_ix ck (fun _ _ => rfl) (g_ix ck (fun _ _ => rfl) (s_var ck rfl (.inl rfl) rfl rfl) g_int) (g_ix ck (fun _ _ => rfl) (s_var ck rfl (.inl rfl) rfl rfl) g_int))))
 (p_cons ck (p_setx ck rfl (.inl rfl) rfl rfl g_int (g_add ck (g_ix ck (fun _ _ => rfl) (s_var ck rfl (.inl rfl) rfl rfl) g_int) g_int) (by rfl) (by rfl) (fun _ => rfl) (by rfl))
 (p_cons ck (p_setx ck rfl (.inl rfl) rfl rfl g_int (g_mod ck (g_intc ck rfl rfl (g_add ck (g_add ck (g_mul ck (g_ix ck (fun _ _ => rfl) (s_var ck rfl (.inl rfl) rfl rfl) g_int) g_int) (s_var ck rfl (.inl rfl) rfl rfl)) g_int)) g_int) (by rfl) (by rfl) (fun _ => rfl) (by rfl))
 (p_cons ck (p_if ck (gt_cmp ck (k_ge ck) (by first | rfl | exact nobehind _ (by decide) (by decide)) (s_var ck rfl (.inl rfl) rfl rfl) (g_pow ck g_int g_int)) (p_cons ck (p_setx ck rfl (.inl rfl) rfl rfl g_int (s_var ck rfl (.inl rfl) rfl rfl) (by rfl) (by rfl) (fun _ => rfl) (by rfl))
 p_nil) p_nil)
 p_nil)))) p_nil)
 (p_cons ck (p_if ck (gt_cmp ck (k_gt ck) (by first | rfl | exact nobehind _ (by decide) (by decide)) (g_ix ck (fun _ _ => rfl) (s_var ck rfl (.inl rfl) rfl rfl) g_int) g_int) (p_cons ck (p_asg ck (s_set ck (i := 3) rfl (.inl rfl) (.inr rfl) (by rfl) (g_mod ck (g_intc ck rfl rfl (g_ix ck (fun _ _ => rfl) (s_var ck rfl (.inl rfl) rfl rfl) g_int)) (s_var ck rfl (.inl rfl) rfl rfl))))
 (p_cons ck (p_setx ck rfl (.inl rfl) rfl rfl g_int (g_fdiv ck (g_ix ck (fun _ _ => rfl) (s_var ck rfl (.inl rfl) rfl rfl) g_int) (s_var ck rfl (.inl rfl) rfl rfl)) (by rfl) (by rfl) (fun _ => rfl) (by rfl))
 (p_cons ck (p_ret ck (s_var ck rfl (.inl rfl) rfl rfl))
 p_nil))) p_nil)
 (p_cons ck (p_setx ck rfl (.inl rfl) rfl rfl g_int (g_add ck (g_ix ck (fun _ _ => rfl) (s_var ck rfl (.inl rfl) rfl rfl) g_int) g_int) (by rfl) (by rfl) (fun _ => rfl) (by rfl))
 (p_cons ck (p_asg ck (s_set ck (i := 4) rfl (.inl rfl) (.inr rfl) (by rfl) (g_mod ck (g_intc ck rfl rfl (g_mul ck (g_intc ck rfl rfl (g_add ck (g_ix ck (fun _ _ => rfl) (s_var ck rfl (.inl rfl) rfl rfl) g_int) (g_mul ck g_int (g_ix ck (fun _ _ => rfl) (s_var ck rfl (.inl rfl) rfl rfl) g_int)))) g_int)) g_int)))
 (p_cons ck (p_asg ck (s_set ck (i := 4) rfl (.inl rfl) (.inr rfl) (by rfl) (g_mod ck (g_intc ck rfl rfl (g_mul ck (s_var ck rfl (.inl rfl) rfl rfl) (g_add ck (g_fdiv ck (s_var ck rfl (.inl rfl) rfl rfl) g_int) g_int))) g_int)))
 (p_cons ck (p_asg ck (s_set ck (i := 4) rfl (.inl rfl) (.inr rfl) (by rfl) (g_mod ck (g_intc ck rfl rfl (g_mul ck (s_var ck rfl (.inl rfl) rfl rfl) (g_add ck (g_fdiv ck (s_var ck rfl (.inl rfl) rfl rfl) g_int) g_int))) g_int)))
 (p_cons ck (p_ret ck (g_mod ck (g_intc ck rfl rfl (g_fdiv ck (s_var ck rfl (.inl rfl) rfl rfl) g_int)) (s_var ck rfl (.inl rfl) rfl rfl)))
 p_nil)))))))

abbrev st22 : Stmt := top 38
theorem bd22 {P : Program} {w : World} {K : PySem.W.Frag} {mg : Str → Option Value} {base : Heap} {T : List (Addr × Str)} {C : Cl} {Θ : Pm} {fa : Addr} {cdv : Value} {A : Around} {outer : List PySem.Env} {s : Shared} {H : Hp} {E : XK} (kf21 : C.kf 21 = true)
    (ck : Ck (nm T) C Θ (cx P w K mg base n22 "_law_some" st22 fa cdv A outer s H E) (we E) false) (hpo : PassesOwn (model P w) (cx P w K mg base n22 "_law_some" st22 fa cdv A outer s H E).A (cx P w K mg base n22 "_law_some" st22 fa cdv A outer s H E).env (cx P w K mg base n22 "_law_some" st22 fa cdv A outer s H E).xe) :
    PSs (cx P w K mg base n22 "_law_some" st22 fa cdv A outer s H E) (defBody st22) (tS (nm T) C Θ (cx P w K mg base n22 "_law_some" st22 fa cdv A outer s H E) (we E) ir22) :=
  (p_cons ck (p_ret ck (g_ix ck (fun _ _ => rfl) (s_var ck rfl (.inl rfl) rfl rfl) (s_call (f := 21) ck kf21 rfl rfl rfl (nsA rfl) (a_cons ck (ns1 rfl) (s_var ck rfl (.inl rfl) rfl rfl) (a_cons ck (ns1 rfl) (g_len ck rfl rfl (s_var ck rfl (.inl rfl) rfl rfl)) a_nil)))))
 p_nil)

abbrev st23 : Stmt := top 39
theorem bd23 {P : Program} {w : World} {K : PySem.W.Frag} {mg : Str → Option Value} {base : Heap} {T : List (Addr × Str)} {C : Cl} {Θ : Pm} {fa : Addr} {cdv : Value} {A : Around} {outer : List PySem.Env} {s : Shared} {H : Hp} {E : XK} (kf23 : C.kf 23 = true)
    (ck : Ck (nm T) C Θ (cx P w K mg base n23 "_law_is" st23 fa cdv A outer s H E) (we E) false) (hpo : PassesOwn (model P w) (cx P w K mg base n23 "_law_is" st23 fa cdv A outer s H E).A (cx P w K mg base n23 "_law_is" st23 fa cdv A outer s H E).env (cx P w K mg base n23 "_law_is" st23 fa cdv A outer s H E).xe) :
    PSs (cx P w K mg base n23 "_law_is" st23 fa cdv A outer s H E) (defBody st23) (tS (nm T) C Θ (cx P w K mg base n23 "_law_is" st23 fa cdv A outer s H E) (we E) ir23) :=
  (p_cons ck (p_if ck (t_val ck (s_isiN ck rfl (ns1 rfl) (by decide) (by decide) (s_var ck rfl (.inl rfl) rfl rfl) (.cons (.bi .tuple "tuple" _ (by decide) rfl (by decide) PyProof.Rows.Boot.«tuple» (by decide) (by decide)) (.cons (.bi .list "list" _ (by decide) rfl (by decide) PyProof.Rows.Boot.«list» (by decide) (by decide)) .nil))) (fun _ => rfl)) (p_cons ck (p_if ck (gt_cmp ck (k_ne ck) (by first | rfl | exact nobehind _ (by decide) (by decide)) (s_isi1 ck rfl (ns1 rfl) (s_var ck rfl (.inl rfl) rfl rfl) (.bi .tuple "tuple" _ (by decide) rfl (by decide) PyProof.Rows.Boot.«tuple» (by decide) (by decide))) (s_isi1 ck rfl (ns1 rfl) (s_var ck rfl (.inl rfl) rfl rfl) (.bi .tuple "tuple" _ (by decide) rfl (by decide) PyProof.Rows.Boot.«tuple» (by decide) (by decide)))) (p_cons ck (p_ret ck g_bl)
 p_nil) p_nil)
 (p_cons ck (p_if ck (PW.pt (w_or ck (gt_cmp ck (k_ne ck) (by first | rfl | exact nobehind _ (by decide) (by decide)) (s_isi1 ck rfl (ns1 rfl) (s_var ck rfl (.inl rfl) rfl rfl) (.bi .list "list" _ (by decide) rfl (by decide) PyProof.Rows.Boot.«list» (by decide) (by decide))) (s_isi1 ck rfl (ns1 rfl) (s_var ck rfl (.inl rfl) rfl rfl) (.bi .list "list" _ (by decide) rfl (by decide) PyProof.Rows.Boot.«list» (by decide) (by decide)))) (pw_or1 (gt_cmp ck (k_ne ck) (by first | rfl | exact nobehind _ (by decide) (by decide)) (g_len ck rfl rfl (s_var ck rfl (.inl rfl) rfl rfl)) (g_len ck rfl rfl (s_var ck rfl (.inl rfl) rfl rfl)))))) (p_cons ck (p_ret ck g_bl)
 p_nil) p_nil)
 (p_cons ck (p_ret ck (g_all ck rfl rfl (s_comp ck (own := [("one", 2), ("other", 3)]) (s_zip ck rfl (ns1 rfl) (ns1 rfl) (s_var ck rfl (.inl rfl) rfl rfl) (s_var ck rfl (.inl rfl) rfl rfl)) (blkOk_by rfl) (by decide) (fun s1 H1 Ca1 cl1 fp1 => (pg_tup ((ck.blk s1 H1 _ _ fp1).calm rfl) (pgs_cons (pg_name (i := 2) (ck.blk s1 H1 _ _ fp1).nd rfl (.inl rfl) (.inr rfl)) (pgs_cons (pg_name (i := 3) (ck.blk s1 H1 _ _ fp1).nd rfl (.inl rfl) (.inr rfl)) pgs_nil)))) (fun s1 H1 Ca1 cl1 fp1 => (pts_nil.imp fun _ _ _ h => tT_yes h)) (fun s1 H1 Ca1 cl1 fp1 => (s_call (f := 23) (ck.blk s1 H1 _ _ fp1) kf23 rfl rfl rfl (nsA rfl) (a_cons (ck.blk s1 H1 _ _ fp1) (ns1 rfl) (s_var (ck.blk s1 H1 _ _ fp1) rfl (.inl rfl) rfl rfl) (a_cons (ck.blk s1 H1 _ _ fp1) (ns1 rfl) (s_var (ck.blk s1 H1 _ _ fp1) rfl (.inl rfl) rfl rfl) a_nil)))) (fun _ => rfl))))
 p_nil))) p_nil)
 (p_cons ck (p_if ck (PW.pt (w_or ck (gt_cmp ck (k_is ck) (by first | rfl | exact nobehind _ (by decide) (by decide)) (s_var ck rfl (.inl rfl) rfl rfl) g_non) (pw_or1 (gt_cmp ck (k_is ck) (by first | rfl | exact nobehind _ (by decide) (by decide)) (s_var ck rfl (.inl rfl) rfl rfl) g_non)))) (p_cons ck (p_ret ck (s_and ck (g_cmp ck (k_is ck) (by first | rfl | exact nobehind _ (by decide) (by decide)) (s_var ck rfl (.inl rfl) rfl rfl) g_non) (pe_one (g_cmp ck (k_is ck) (by first | rfl | exact nobehind _ (by decide) (by decide)) (s_var ck rfl (.inl rfl) rfl rfl) g_non))))
 p_nil) p_nil)
 (p_cons ck (p_if ck (gt_cmp ck (k_ne ck) (by first | rfl | exact nobehind _ (by decide) (by decide)) (s_isi1 ck rfl (ns1 rfl) (s_var ck rfl (.inl rfl) rfl rfl) (.bi .bool "bool" _ (by decide) rfl (by decide) PyProof.Rows.Boot.«bool» (by decide) (by decide))) (s_isi1 ck rfl (ns1 rfl) (s_var ck rfl (.inl rfl) rfl rfl) (.bi .bool "bool" _ (by decide) rfl (by decide) PyProof.Rows.Boot.«bool» (by decide) (by decide)))) (p_cons ck (p_ret ck g_bl)
 p_nil) p_nil)
 (p_cons ck (p_ret ck (s_and ck (g_cmp ck (k_eq ck) (by first | rfl | exact nobehind _ (by decide) (by decide)) (s_isi1 ck rfl (ns1 rfl) (s_var ck rfl (.inl rfl) rfl rfl) (.bi .str "str" _ (by decide) rfl (by decide) PyProof.Rows.Boot.«str» (by decide) (by decide))) (s_isi1 ck rfl (ns1 rfl) (s_var ck rfl (.inl rfl) rfl rfl) (.bi .str "str" _ (by decide) rfl (by decide) PyProof.Rows.Boot.«str» (by decide) (by decide)))) (pe_one (g_cmp ck (k_eq ck) (by first | rfl | exact nobehind _ (by decide) (by decide)) (s_var ck rfl (.inl rfl) rfl rfl) (s_var ck rfl (.inl rfl) rfl rfl)))))
 p_nil))))

abbrev st24 : Stmt := top 40
theorem bd24 {P : Program} {w : World} {K : PySem.W.Frag} {mg : Str → Option Value} {base : Heap} {T : List (Addr × Str)} {C : Cl} {Θ : Pm} {fa : Addr} {cdv : Value} {A : Around} {outer : List PySem.Env} {s : Shared} {H : Hp} {E : XK} (kf21 : C.kf 21 = true) (kf25 : C.kf 25 = true)
    (ck : Ck (nm T) C Θ (cx P w K mg base n24 "_law_tables" st24 fa cdv A outer s H E) (we E) false) (hpo : PassesOwn (model P w) (cx P w K mg base n24 "_law_tables" st24 fa cdv A outer s H E).A (cx P w K mg base n24 "_law_tables" st24 fa cdv A outer s H E).env (cx P w K mg base n24 "_law_tables" st24 fa cdv A outer s H E).xe) :
    PSs (cx P w K mg base n24 "_law_tables" st24 fa cdv A outer s H E) (defBody st24) (tS (nm T) C Θ (cx P w K mg base n24 "_law_tables" st24 fa cdv A outer s H E) (we E) ir24) :=
  (p_cons ck (p_parnT ck (by decide) (b_cons ck (ns1 rfl) (g_len ck rfl rfl (s_call (f := 25) ck kf25 rfl rfl rfl (nsA rfl) (a_cons ck (ns1 rfl) (s_var ck rfl (.inl rfl) rfl rfl) a_nil))) (b_cons ck (ns1 rfl) (s_lst ck (by decide) a_nil) (b_cons ck (ns1 rfl) (s_call (f := 21) ck kf21 rfl rfl rfl (nsA rfl) (a_cons ck (ns1 rfl) (s_var ck rfl (.inr (.inl rfl)) rfl rfl) (a_cons ck (ns1 rfl) g_int a_nil))) b_nil))) (pg_tup (ck.calm rfl) (pgs_cons (pg_name (i := 2) ck.nd rfl (.inl rfl) (.inr rfl)) (pgs_cons (pg_name (i := 3) ck.nd rfl (.inl rfl) (.inr rfl)) (pgs_cons (pg_name (i := 4) ck.nd rfl (.inr rfl) (.inl rfl)) pgs_nil)))) (by rfl) (by rfl) (by rfl))
 (p_cons ck (p_for ck hpo (s_rng ck rfl (ns1 rfl) (s_var ck rfl (.inl rfl) rfl rfl)) (pg_name (i := 5) ck.nd rfl (.inl rfl) (.inr rfl)) (p_cons ck (p_if ck (gt_cmp ck (k_eq ck) (by first | rfl | exact nobehind _ (by decide) (by decide)) (s_var ck rfl (.inr (.inl rfl)) rfl rfl) g_int) (p_cons ck (p_expr ck (s_app ck rfl (.inl rfl) rfl rfl (ns1 rfl) rfl rfl (g_tuple ck rfl rfl (s_comp ck (own := [("number", 12)]) (s_rng ck rfl (ns1 rfl) (s_var ck rfl (.inl rfl) rfl rfl)) (blkOk_by rfl) (by decide) (fun s1 H1 Ca1 cl1 fp1 => (pg_name (i := 12) (ck.blk s1 H1 _ _ fp1).nd rfl (.inl rfl) (.inr rfl))) (fun s1 H1 Ca1 cl1 fp1 => (pts_nil.imp fun _ _ _ h => tT_yes h)) (fun s1 H1 Ca1 cl1 fp1 => (s_call (f := 21) (ck.blk s1 H1 _ _ fp1) kf21 rfl rfl rfl (nsA rfl) (a_cons (ck.blk s1 H1 _ _ fp1) (ns1 rfl) (s_var (ck.blk s1 H1 _ _ fp1) rfl (.inr (.inl rfl)) rfl rfl) (a_cons (ck.blk s1 H1 _ _ fp1) (ns1 rfl) g_int a_nil)))) (fun _ => rfl)))) (by rfl))
 p_nil) (p_cons ck (p_if ck (gt_cmp ck (k_eq ck) (by first | rfl | exact nobehind _ (by decide) (by decide)) (s_var ck rfl (.inr (.inl rfl)) rfl rfl) g_int) (p_cons ck (p_asg ck (s_set ck (i := 6) rfl (.inr rfl) (.inl rfl) (by rfl) (s_cut ck (s_comp ck (own := [("one", 13)]) (s_rng ck rfl (ns1 rfl) (s_var ck rfl (.inl rfl) rfl rfl)) (blkOk_by rfl) (by decide) (fun s2 H2 Ca2 cl2 fp2 => (pg_name (i := 13) (ck.blk s2 H2 _ _ fp2).nd rfl (.inl rfl) (.inr rfl))) (fun s2 H2 Ca2 cl2 fp2 => (pts_one (gt_cmp (ck.blk s2 H2 _ _ fp2) (k_eq (ck.blk s2 H2 _ _ fp2)) (by first | rfl | exact nobehind _ (by decide) (by decide)) (s_call (f := 21) (ck.blk s2 H2 _ _ fp2) kf21 rfl rfl rfl (nsA rfl) (a_cons (ck.blk s2 H2 _ _ fp2) (ns1 rfl) (s_var (ck.blk s2 H2 _ _ fp2) rfl (.inr (.inl rfl)) rfl rfl) (a_cons (ck.blk s2 H2 _ _ fp2) (ns1 rfl) g_int a_nil))) g_int))) (fun s2 H2 Ca2 cl2 fp2 => (s_var (ck.blk s2 H2 _ _ fp2) rfl (.inl rfl) rfl rfl)) (fun _ => rfl)) o_none (o_some ck g_int))))
 (p_cons ck (p_asg ck (s_set ck (i := 7) rfl (.inr rfl) (.inl rfl) (by rfl) (s_comp ck (own := [("number", 12)]) (s_rng ck rfl (ns1 rfl) g_int) (blkOk_by rfl) (by decide) (fun s3 H3 Ca3 cl3 fp3 => (pg_name (i := 12) (ck.blk s3 H3 _ _ fp3).nd rfl (.inl rfl) (.inr rfl))) (fun s3 H3 Ca3 cl3 fp3 => (pts_nil.imp fun _ _ _ h => tT_yes h)) (fun s3 H3 Ca3 cl3 fp3 => (s_call (f := 21) (ck.blk s3 H3 _ _ fp3) kf21 rfl rfl rfl (nsA rfl) (a_cons (ck.blk s3 H3 _ _ fp3) (ns1 rfl) (s_var (ck.blk s3 H3 _ _ fp3) rfl (.inr (.inl rfl)) rfl rfl) (a_cons (ck.blk s3 H3 _ _ fp3) (ns1 rfl) g_int a_nil)))) (fun _ => rfl))))
 (p_cons ck (p_asg ck (s_setLc ck (i := 8) (own := [("state", 14)]) rfl rfl (by rfl) (s_seq ck (s_call (f := 25) ck kf25 rfl rfl rfl (nsA rfl) (a_cons ck (ns1 rfl) (s_var ck rfl (.inl rfl) rfl rfl) a_nil))) (blkOk_by rfl) (by decide) (fun s4 H4 Ca4 cl4 fp4 => (pg_name (i := 14) (ck.blk s4 H4 _ _ fp4).nd rfl (.inr rfl) (.inl rfl))) (fun s4 H4 Ca4 cl4 fp4 => (pts_nil.imp fun _ _ _ h => tT_yes h)) (fun s4 H4 Ca4 cl4 fp4 => (g_add (ck.blk s4 H4 _ _ fp4) (s_comp (ck.blk s4 H4 _ _ fp4) (own := [("one", 13)]) (s_seq (ck.blk s4 H4 _ _ fp4) (s_var (ck.blk s4 H4 _ _ fp4) rfl (.inr (.inl rfl)) rfl rfl)) (blkOk_by rfl) (by decide) (fun s5 H5 Ca5 cl5 fp5 => (pg_name (i := 13) ((ck.blk s4 H4 _ _ fp4).blk s5 H5 _ _ fp5).nd rfl (.inl rfl) (.inr rfl))) (fun s5 H5 Ca5 cl5 fp5 => (pts_nil.imp fun _ _ _ h => tT_yes h)) (fun s5 H5 Ca5 cl5 fp5 => (g_ix ((ck.blk s4 H4 _ _ fp4).blk s5 H5 _ _ fp5) (fun _ _ => rfl) (s_var ((ck.blk s4 H4 _ _ fp4).blk s5 H5 _ _ fp5) rfl (.inr (.inl rfl)) rfl rfl) (s_var ((ck.blk s4 H4 _ _ fp4).blk s5 H5 _ _ fp5) rfl (.inl rfl) rfl rfl))) (fun _ => rfl)) (s_lst (ck.blk s4 H4 _ _ fp4) (by decide) (a_cons (ck.blk s4 H4 _ _ fp4) (ns1 rfl) g_int (a_cons (ck.blk s4 H4 _ _ fp4) (ns1 rfl) g_int a_nil))))) (fun _ => rfl)))
 (p_cons ck (p_expr ck (s_app ck rfl (.inl rfl) rfl rfl (ns1 rfl) rfl rfl (g_tuple ck rfl rfl (s_comp ck (own := [("row", 15)]) (s_seq ck (s_var ck rfl (.inl rfl) rfl rfl)) (blkOk_by rfl) (by decide) (fun s6 H6 Ca6 cl6 fp6 => (pg_name (i := 15) (ck.blk s6 H6 _ _ fp6).nd rfl (.inl rfl) (.inr rfl))) (fun s6 H6 Ca6 cl6 fp6 => (pts_nil.imp fun _ _ _ h => tT_yes h)) (fun s6 H6 Ca6 cl6 fp6 => (g_ix (ck.blk s6 H6 _ _ fp6) (fun _ _ => rfl) (s_var (ck.blk s6 H6 _ _ fp6) rfl (.inr (.inl rfl)) rfl rfl) (g_add (ck.blk s6 H6 _ _ fp6) (g_ix (ck.blk s6 H6 _ _ fp6) (fun _ _ => rfl) (s_var (ck.blk s6 H6 _ _ fp6) rfl (.inl rfl) rfl rfl) g_int) (g_mul (ck.blk s6 H6 _ _ fp6) g_int (g_ix (ck.blk s6 H6 _ _ fp6) (fun _ _ => rfl) (s_var (ck.blk s6 H6 _ _ fp6) rfl (.inl rfl) rfl rfl) g_int))))) (fun _ => rfl)))) (by rfl))
 p_nil)))) (p_cons ck (p_parnT ck (by decide) (b_cons ck (ns1 rfl) (s_comp ck (own := [("one", 13)]) (s_rng ck rfl (ns1 rfl) (s_var ck rfl (.inl rfl) rfl rfl)) (blkOk_by rfl) (by decide) (fun s7 H7 Ca7 cl7 fp7 => (pg_name (i := 13) (ck.blk s7 H7 _ _ fp7).nd rfl (.inl rfl) (.inr rfl))) (fun s7 H7 Ca7 cl7 fp7 => (pts_nil.imp fun _ _ _ h => tT_yes h)) (fun s7 H7 Ca7 cl7 fp7 => (g_sub (ck.blk s7 H7 _ _ fp7) (s_call (f := 21) (ck.blk s7 H7 _ _ fp7) kf21 rfl rfl rfl (nsA rfl) (a_cons (ck.blk s7 H7 _ _ fp7) (ns1 rfl) (s_var (ck.blk s7 H7 _ _ fp7) rfl (.inr (.inl rfl)) rfl rfl) (a_cons (ck.blk s7 H7 _ _ fp7) (ns1 rfl) g_int a_nil))) g_int)) (fun _ => rfl)) (b_cons ck (ns1 rfl) (g_sub ck (s_call (f := 21) ck kf21 rfl rfl rfl (nsA rfl) (a_cons ck (ns1 rfl) (s_var ck rfl (.inr (.inl rfl)) rfl rfl) (a_cons ck (ns1 rfl) g_int a_nil))) g_int) b_nil)) (pg_tup (ck.calm rfl) (pgs_cons (pg_name (i := 9) ck.nd rfl (.inr rfl) (.inl rfl)) (pgs_cons (pg_name (i := 10) ck.nd rfl (.inr rfl) (.inl rfl)) pgs_nil))) (by rfl) (by rfl) (by rfl))
 (p_cons ck (p_asg ck (s_setLc ck (i := 11) (own := [("state", 14)]) rfl rfl (by rfl) (s_seq ck (s_call (f := 25) ck kf25 rfl rfl rfl (nsA rfl) (a_cons ck (ns1 rfl) (s_var ck rfl (.inl rfl) rfl rfl) a_nil))) (blkOk_by rfl) (by decide) (fun s8 H8 Ca8 cl8 fp8 => (pg_name (i := 14) (ck.blk s8 H8 _ _ fp8).nd rfl (.inl rfl) (.inr rfl))) (fun s8 H8 Ca8 cl8 fp8 => (pts_nil.imp fun _ _ _ h => tT_yes h)) (fun s8 H8 Ca8 cl8 fp8 => (g_sum (ck.blk s8 H8 _ _ fp8) rfl rfl (s_comp (ck.blk s8 H8 _ _ fp8) (own := [("weight", 16), ("bit", 17)]) (s_zip (ck.blk s8 H8 _ _ fp8) rfl (ns1 rfl) (ns1 rfl) (s_var (ck.blk s8 H8 _ _ fp8) rfl (.inr (.inl rfl)) rfl rfl) (s_var (ck.blk s8 H8 _ _ fp8) rfl (.inl rfl) rfl rfl)) (blkOk_by rfl) (by decide) (fun s9 H9 Ca9 cl9 fp9 => (pg_tup (((ck.blk s8 H8 _ _ fp8).blk s9 H9 _ _ fp9).calm rfl) (pgs_cons (pg_name (i := 16) ((ck.blk s8 H8 _ _ fp8).blk s9 H9 _ _ fp9).nd rfl (.inl rfl) (.inr rfl)) (pgs_cons (pg_name (i := 17) ((ck.blk s8 H8 _ _ fp8).blk s9 H9 _ _ fp9).nd rfl (.inl rfl) (.inr rfl)) pgs_nil)))) (fun s9 H9 Ca9 cl9 fp9 => (pts_nil.imp fun _ _ _ h => tT_yes h)) (fun s9 H9 Ca9 cl9 fp9 => (g_mul ((ck.blk s8 H8 _ _ fp8).blk s9 H9 _ _ fp9) (s_var ((ck.blk s8 H8 _ _ fp8).blk s9 H9 _ _ fp9) rfl (.inl rfl) rfl rfl) (s_var ((ck.blk s8 H8 _ _ fp8).blk s9 H9 _ _ fp9) rfl (.inl rfl) rfl rfl))) (fun _ => rfl)))) (fun _ => rfl)))
 (p_cons ck (p_expr ck (s_app ck rfl (.inl rfl) rfl rfl (ns1 rfl) rfl rfl (g_tuple ck rfl rfl (s_comp ck (own := [("total", 18)]) (s_seq ck (s_var ck rfl (.inl rfl) rfl rfl)) (blkOk_by rfl) (by decide) (fun s10 H10 Ca10 cl10 fp10 => (pg_name (i := 18) (ck.blk s10 H10 _ _ fp10).nd rfl (.inl rfl) (.inr rfl))) (fun s10 H10 Ca10 cl10 fp10 => (pts_nil.imp fun _ _ _ h => tT_yes h)) (fun s10 H10 Ca10 cl10 fp10 => (s_ife (ck.blk s10 H10 _ _ fp10) (gt_cmp (ck.blk s10 H10 _ _ fp10) (k_eq (ck.blk s10 H10 _ _ fp10)) (by first | rfl | exact nobehind _ (by decide) (by decide)) (s_var (ck.blk s10 H10 _ _ fp10) rfl (.inr (.inl rfl)) rfl rfl) g_int) (g_intc (ck.blk s10 H10 _ _ fp10) rfl rfl (g_cmp (ck.blk s10 H10 _ _ fp10) (k_gt (ck.blk s10 H10 _ _ fp10)) (by first | rfl | exact nobehind _ (by decide) (by decide)) (s_var (ck.blk s10 H10 _ _ fp10) rfl (.inl rfl) rfl rfl) (s_var (ck.blk s10 H10 _ _ fp10) rfl (.inr (.inl rfl)) rfl rfl))) (g_mod (ck.blk s10 H10 _ _ fp10) (g_intc (ck.blk s10 H10 _ _ fp10) rfl rfl (g_add (ck.blk s10 H10 _ _ fp10) (s_var (ck.blk s10 H10 _ _ fp10) rfl (.inl rfl) rfl rfl) (s_var (ck.blk s10 H10 _ _ fp10) rfl (.inr (.inl rfl)) rfl rfl))) g_int))) (fun _ => rfl)))) (by rfl))
 p_nil))))
 p_nil))
 p_nil) (fun _ => rfl))
 (p_cons ck (p_ret ck (g_tuple ck rfl rfl (s_var ck rfl (.inl rfl) rfl rfl)))
 p_nil)))

abbrev st25 : Stmt := top 41
theorem bd25 {P : Program} {w : World} {K : PySem.W.Frag} {mg : Str → Option Value} {base : Heap} {T : List (Addr × Str)} {C : Cl} {Θ : Pm} {fa : Addr} {cdv : Value} {A : Around} {outer : List PySem.Env} {s : Shared} {H : Hp} {E : XK} 
    (ck : Ck (nm T) C Θ (cx P w K mg base n25 "_law_states" st25 fa cdv A outer s H E) (we E) false) (hpo : PassesOwn (model P w) (cx P w K mg base n25 "_law_states" st25 fa cdv A outer s H E).A (cx P w K mg base n25 "_law_states" st25 fa cdv A outer s H E).env (cx P w K mg base n25 "_law_states" st25 fa cdv A outer s H E).xe) :
    PSs (cx P w K mg base n25 "_law_states" st25 fa cdv A outer s H E) (defBody st25) (tS (nm T) C Θ (cx P w K mg base n25 "_law_states" st25 fa cdv A outer s H E) (we E) ir25) :=
  (p_cons ck (p_asg ck (s_set ck (i := 1) rfl (.inl rfl) (.inr rfl) (by rfl) (s_lst ck (by decide) (a_cons ck (ns1 rfl) (s_tup ck (by decide) a_nil) a_nil))))
 (p_cons ck (p_for ck hpo (s_rng ck rfl (ns1 rfl) (s_var ck rfl (.inl rfl) rfl rfl)) (pg_name (i := 2) ck.nd rfl (.inl rfl) (.inr rfl)) (p_cons ck (p_asg ck (s_set ck (i := 1) rfl (.inl rfl) (.inr rfl) (by rfl) (g_add ck (s_comp ck (own := [("state", 3)]) (s_seq ck (s_var ck rfl (.inl rfl) rfl rfl)) (blkOk_by rfl) (by decide) (fun s1 H1 Ca1 cl1 fp1 => (pg_name (i := 3) (ck.blk s1 H1 _ _ fp1).nd rfl (.inl rfl) (.inr rfl))) (fun s1 H1 Ca1 cl1 fp1 => (pts_nil.imp fun _ _ _ h => tT_yes h)) (fun s1 H1 Ca1 cl1 fp1 => (g_add (ck.blk s1 H1 _ _ fp1) (s_var (ck.blk s1 H1 _ _ fp1) rfl (.inl rfl) rfl rfl) (s_tup (ck.blk s1 H1 _ _ fp1) (by decide) (a_cons (ck.blk s1 H1 _ _ fp1) (ns1 rfl) g_int a_nil)))) (fun _ => rfl)) (s_comp ck (own := [("state", 3)]) (s_seq ck (s_var ck rfl (.inl rfl) rfl rfl)) (blkOk_by rfl) (by decide) (fun s2 H2 Ca2 cl2 fp2 => (pg_name (i := 3) (ck.blk s2 H2 _ _ fp2).nd rfl (.inl rfl) (.inr rfl))) (fun s2 H2 Ca2 cl2 fp2 => (pts_nil.imp fun _ _ _ h => tT_yes h)) (fun s2 H2 Ca2 cl2 fp2 => (g_add (ck.blk s2 H2 _ _ fp2) (s_var (ck.blk s2 H2 _ _ fp2) rfl (.inl rfl) rfl rfl) (s_tup (ck.blk s2 H2 _ _ fp2) (by decide) (a_cons (ck.blk s2 H2 _ _ fp2) (ns1 rfl) g_int a_nil)))) (fun _ => rfl)))))
 p_nil) (fun _ => rfl))
 (p_cons ck (p_ret ck (s_var ck rfl (.inl rfl) rfl rfl))
 p_nil)))

abbrev st26 : Stmt := top 42
theorem bd26 {P : Program} {w : World} {K : PySem.W.Frag} {mg : Str → Option Value} {base : Heap} {T : List (Addr × Str)} {C : Cl} {Θ : Pm} {fa : Addr} {cdv : Value} {A : Around} {outer : List PySem.Env} {s : Shared} {H : Hp} {E : XK} (kf25 : C.kf 25 = true)
    (ck : Ck (nm T) C Θ (cx P w K mg base n26 "_law_size" st26 fa cdv A outer s H E) (we E) false) (hpo : PassesOwn (model P w) (cx P w K mg base n26 "_law_size" st26 fa cdv A outer s H E).A (cx P w K mg base n26 "_law_size" st26 fa cdv A outer s H E).env (cx P w K mg base n26 "_law_size" st26 fa cdv A outer s H E).xe) :
    PSs (cx P w K mg base n26 "_law_size" st26 fa cdv A outer s H E) (defBody st26) (tS (nm T) C Θ (cx P w K mg base n26 "_law_size" st26 fa cdv A outer s H E) (we E) ir26) :=
  (p_cons ck (p_ret ck (g_len ck rfl rfl (s_call (f := 25) ck kf25 rfl rfl rfl (nsA rfl) (a_cons ck (ns1 rfl) (s_var ck rfl (.inl rfl) rfl rfl) a_nil))))
 p_nil)

abbrev st27 : Stmt := top 43
theorem bd27 {P : Program} {w : World} {K : PySem.W.Frag} {mg : Str → Option Value} {base : Heap} {T : List (Addr × Str)} {C : Cl} {Θ : Pm} {fa : Addr} {cdv : Value} {A : Around} {outer : List PySem.Env} {s : Shared} {H : Hp} {E : XK} (kf26 : C.kf 26 = true)
    (ck : Ck (nm T) C Θ (cx P w K mg base n27 "_law_read" st27 fa cdv A outer s H E) (we E) false) (hpo : PassesOwn (model P w) (cx P w K mg base n27 "_law_read" st27 fa cdv A outer s H E).A (cx P w K mg base n27 "_law_read" st27 fa cdv A outer s H E).env (cx P w K mg base n27 "_law_read" st27 fa cdv A outer s H E).xe) :
    PSs (cx P w K mg base n27 "_law_read" st27 fa cdv A outer s H E) (defBody st27) (tS (nm T) C Θ (cx P w K mg base n27 "_law_read" st27 fa cdv A outer s H E) (we E) ir27) :=
  (p_cons ck (p_asg ck (s_set ck (i := 1) rfl (.inl rfl) (.inr rfl) (by rfl) (g_split ck rfl rfl rfl (s_var ck rfl (.inl rfl) rfl rfl) g_str)))
 (p_cons ck (p_asg ck (s_set ck (i := 2) rfl (.inl rfl) (.inr rfl) (by rfl) (s_cut ck (s_var ck rfl (.inl rfl) rfl rfl) o_none (o_some ck (s_neg ck g_int)))))
 (p_cons ck (p_if ck (PW.pt (w_or ck (gt_cmp ck (k_lt ck) (by first | rfl | exact nobehind _ (by decide) (by decide)) (g_len ck rfl rfl (s_var ck rfl (.inl rfl) rfl rfl)) g_int) (pw_or1 (gt_cmp ck (k_gt ck) (by first | rfl | exact nobehind _ (by decide) (by decide)) (g_len ck rfl rfl (s_var ck rfl (.inl rfl) rfl rfl)) g_int)))) (p_cons ck (p_ret ck (s_tup ck (by decide) (a_cons ck (ns1 rfl) g_str (a_cons ck (ns1 rfl) (g_len ck rfl rfl (s_var ck rfl (.inl rfl) rfl rfl)) a_nil))))
 p_nil) p_nil)
 (p_cons ck (p_for ck hpo (s_enum ck rfl (ns1 rfl) (s_var ck rfl (.inl rfl) rfl rfl)) (pg_tup (ck.calm rfl) (pgs_cons (pg_name (i := 3) ck.nd rfl (.inl rfl) (.inr rfl)) (pgs_cons (pg_name (i := 4) ck.nd rfl (.inl rfl) (.inr rfl)) pgs_nil))) (p_cons ck (p_if ck (PW.pt (w_or ck (gt_cmp ck (k_ne ck) (by first | rfl | exact nobehind _ (by decide) (by decide)) (g_len ck rfl rfl (s_var ck rfl (.inl rfl) rfl rfl)) (s_call (f := 26) ck kf26 rfl rfl rfl (nsA rfl) (a_cons ck (ns1 rfl) (g_len ck rfl rfl (s_var ck rfl (.inl rfl) rfl rfl)) a_nil))) (pw_or1 (t_not ck (t_val ck (g_all ck rfl rfl (s_comp ck (own := [("sign", 5)]) (s_seq ck (s_var ck rfl (.inl rfl) rfl rfl)) (blkOk_by rfl) (by decide) (fun s1 H1 Ca1 cl1 fp1 => (pg_name (i := 5) (ck.blk s1 H1 _ _ fp1).nd rfl (.inl rfl) (.inr rfl))) (fun s1 H1 Ca1 cl1 fp1 => (pts_nil.imp fun _ _ _ h => tT_yes h)) (fun s1 H1 Ca1 cl1 fp1 => (g_cmp (ck.blk s1 H1 _ _ fp1) (k_in (ck.blk s1 H1 _ _ fp1)) (by first | rfl | exact nobehind _ (by decide) (by decide)) (s_var (ck.blk s1 H1 _ _ fp1) rfl (.inl rfl) rfl rfl) g_str)) (fun _ => rfl))) (fun _ => rfl)))))) (p_cons ck (p_ret ck (s_tup ck (by decide) (a_cons ck (ns1 rfl) g_str (a_cons ck (ns1 rfl) (g_add ck (s_var ck rfl (.inl rfl) rfl rfl) g_int) a_nil))))
 p_nil) p_nil)
 p_nil) (fun _ => rfl))
 (p_cons ck (p_if ck (gt_cmp ck (k_ne ck) (by first | rfl | exact nobehind _ (by decide) (by decide)) (g_ix ck (fun _ _ => rfl) (s_var ck rfl (.inl rfl) rfl rfl) (s_neg ck g_int)) g_str) (p_cons ck (p_ret ck (s_tup ck (by decide) (a_cons ck (ns1 rfl) g_str (a_cons ck (ns1 rfl) (g_len ck rfl rfl (s_var ck rfl (.inl rfl) rfl rfl)) a_nil))))
 p_nil) p_nil)
 (p_cons ck (p_ret ck (s_tup ck (by decide) (a_cons ck (ns1 rfl) g_str (a_cons ck (ns1 rfl) (g_tuple ck rfl rfl (s_comp ck (own := [("row", 4)]) (s_seq ck (s_var ck rfl (.inl rfl) rfl rfl)) (blkOk_by rfl) (by decide) (fun s2 H2 Ca2 cl2 fp2 => (pg_name (i := 4) (ck.blk s2 H2 _ _ fp2).nd rfl (.inl rfl) (.inr rfl))) (fun s2 H2 Ca2 cl2 fp2 => (pts_nil.imp fun _ _ _ h => tT_yes h)) (fun s2 H2 Ca2 cl2 fp2 => (g_tuple (ck.blk s2 H2 _ _ fp2) rfl rfl (s_comp (ck.blk s2 H2 _ _ fp2) (own := [("sign", 5)]) (s_seq (ck.blk s2 H2 _ _ fp2) (s_var (ck.blk s2 H2 _ _ fp2) rfl (.inl rfl) rfl rfl)) (blkOk_by rfl) (by decide) (fun s3 H3 Ca3 cl3 fp3 => (pg_name (i := 5) ((ck.blk s2 H2 _ _ fp2).blk s3 H3 _ _ fp3).nd rfl (.inl rfl) (.inr rfl))) (fun s3 H3 Ca3 cl3 fp3 => (pts_nil.imp fun _ _ _ h => tT_yes h)) (fun s3 H3 Ca3 cl3 fp3 => (g_intc ((ck.blk s2 H2 _ _ fp2).blk s3 H3 _ _ fp3) rfl rfl (s_var ((ck.blk s2 H2 _ _ fp2).blk s3 H3 _ _ fp3) rfl (.inl rfl) rfl rfl))) (fun _ => rfl)))) (fun _ => rfl))) a_nil))))
 p_nil))))))

abbrev st28 : Stmt := top 44
theorem bd28 {P : Program} {w : World} {K : PySem.W.Frag} {mg : Str → Option Value} {base : Heap} {T : List (Addr × Str)} {C : Cl} {Θ : Pm} {fa : Addr} {cdv : Value} {A : Around} {outer : List PySem.Env} {s : Shared} {H : Hp} {E : XK} (kf26 : C.kf 26 = true)
    (ck : Ck (nm T) C Θ (cx P w K mg base n28 "_law_rule" st28 fa cdv A outer s H E) (we E) false) (hpo : PassesOwn (model P w) (cx P w K mg base n28 "_law_rule" st28 fa cdv A outer s H E).A (cx P w K mg base n28 "_law_rule" st28 fa cdv A outer s H E).env (cx P w K mg base n28 "_law_rule" st28 fa cdv A outer s H E).xe) :
    PSs (cx P w K mg base n28 "_law_rule" st28 fa cdv A outer s H E) (defBody st28) (tS (nm T) C Θ (cx P w K mg base n28 "_law_rule" st28 fa cdv A outer s H E) (we E) ir28) :=
  (p_cons ck (p_asg ck (s_set ck (i := 1) rfl (.inl rfl) (.inr rfl) (by rfl) (g_split ck rfl rfl rfl (s_var ck rfl (.inl rfl) rfl rfl) g_str)))
 (p_cons ck (p_if ck (PW.pt (w_or ck (gt_cmp ck (k_ne ck) (by first | rfl | exact nobehind _ (by decide) (by decide)) (g_len ck rfl rfl (s_var ck rfl (.inl rfl) rfl rfl)) g_int) (pw_or1 (t_not ck (t_val ck (g_all ck rfl rfl (s_comp ck (own := [("sign", 3)]) (s_seq ck (g_ix ck (fun _ _ => rfl) (s_var ck rfl (.inl rfl) rfl rfl) g_int)) (blkOk_by rfl) (by decide) (fun s1 H1 Ca1 cl1 fp1 => (pg_name (i := 3) (ck.blk s1 H1 _ _ fp1).nd rfl (.inl rfl) (.inr rfl))) (fun s1 H1 Ca1 cl1 fp1 => (pts_nil.imp fun _ _ _ h => tT_yes h)) (fun s1 H1 Ca1 cl1 fp1 => (g_cmp (ck.blk s1 H1 _ _ fp1) (k_in (ck.blk s1 H1 _ _ fp1)) (by first | rfl | exact nobehind _ (by decide) (by decide)) (s_var (ck.blk s1 H1 _ _ fp1) rfl (.inl rfl) rfl rfl) g_str)) (fun _ => rfl))) (fun _ => rfl)))))) (p_cons ck (p_ret ck (s_tup ck (by decide) (a_cons ck (ns1 rfl) g_str (a_cons ck (ns1 rfl) g_int a_nil))))
 p_nil) p_nil)
 (p_cons ck (p_if ck (PW.pt (w_and ck (gt_cmp ck (k_ne ck) (by first | rfl | exact nobehind _ (by decide) (by decide)) (g_ix ck (fun _ _ => rfl) (s_var ck rfl (.inl rfl) rfl rfl) g_int) g_str) (pw_and1 (PW.pt (w_or ck (gt_cmp ck (k_eq ck) (by first | rfl | exact nobehind _ (by decide) (by decide)) (g_ix ck (fun _ _ => rfl) (s_var ck rfl (.inl rfl) rfl rfl) g_int) g_str) (pw_or1 (t_not ck (t_val ck (g_all ck rfl rfl (s_comp ck (own := [("sign", 3)]) (s_seq ck (g_ix ck (fun _ _ => rfl) (s_var ck rfl (.inl rfl) rfl rfl) g_int)) (blkOk_by rfl) (by decide) (fun s2 H2 Ca2 cl2 fp2 => (pg_name (i := 3) (ck.blk s2 H2 _ _ fp2).nd rfl (.inl rfl) (.inr rfl))) (fun s2 H2 Ca2 cl2 fp2 => (pts_nil.imp fun _ _ _ h => tT_yes h)) (fun s2 H2 Ca2 cl2 fp2 => (g_cmp (ck.blk s2 H2 _ _ fp2) (k_in (ck.blk s2 H2 _ _ fp2)) (by first | rfl | exact nobehind _ (by decide) (by decide)) (s_var (ck.blk s2 H2 _ _ fp2) rfl (.inl rfl) rfl rfl) g_str)) (fun _ => rfl))) (fun _ => rfl))))))))) (p_cons ck (p_ret ck (s_tup ck (by decide) (a_cons ck (ns1 rfl) g_str (a_cons ck (ns1 rfl) g_int a_nil))))
 p_nil) p_nil)
 (p_cons ck (p_asg ck (s_set ck (i := 2) rfl (.inr rfl) (.inl rfl) (by rfl) (s_ife ck (gt_cmp ck (k_eq ck) (by first | rfl | exact nobehind _ (by decide) (by decide)) (g_ix ck (fun _ _ => rfl) (s_var ck rfl (.inl rfl) rfl rfl) g_int) g_str) (s_tup ck (by decide) a_nil) (g_tuple ck rfl rfl (s_comp ck (own := [("sign", 3)]) (s_seq ck (g_ix ck (fun _ _ => rfl) (s_var ck rfl (.inl rfl) rfl rfl) g_int)) (blkOk_by rfl) (by decide) (fun s3 H3 Ca3 cl3 fp3 => (pg_name (i := 3) (ck.blk s3 H3 _ _ fp3).nd rfl (.inl rfl) (.inr rfl))) (fun s3 H3 Ca3 cl3 fp3 => (pts_nil.imp fun _ _ _ h => tT_yes h)) (fun s3 H3 Ca3 cl3 fp3 => (g_intc (ck.blk s3 H3 _ _ fp3) rfl rfl (s_var (ck.blk s3 H3 _ _ fp3) rfl (.inl rfl) rfl rfl))) (fun _ => rfl))))))
 (p_cons ck (p_if ck (PW.pt (w_or ck (t_not ck (t_val ck (g_all ck rfl rfl (s_comp ck (own := [("at", 4)]) (s_rng ck rfl (ns1 rfl) (g_sub ck (g_len ck rfl rfl (s_var ck rfl (.inr (.inl rfl)) rfl rfl)) g_int)) (blkOk_by rfl) (by decide) (fun s4 H4 Ca4 cl4 fp4 => (pg_name (i := 4) (ck.blk s4 H4 _ _ fp4).nd rfl (.inl rfl) (.inr rfl))) (fun s4 H4 Ca4 cl4 fp4 => (pts_nil.imp fun _ _ _ h => tT_yes h)) (fun s4 H4 Ca4 cl4 fp4 => (g_cmp (ck.blk s4 H4 _ _ fp4) (k_lt (ck.blk s4 H4 _ _ fp4)) (by first | rfl | exact nobehind _ (by decide) (by decide)) (g_ix (ck.blk s4 H4 _ _ fp4) (fun _ _ => rfl) (s_var (ck.blk s4 H4 _ _ fp4) rfl (.inr (.inl rfl)) rfl rfl) (s_var (ck.blk s4 H4 _ _ fp4) rfl (.inl rfl) rfl rfl)) (g_ix (ck.blk s4 H4 _ _ fp4) (fun _ _ => rfl) (s_var (ck.blk s4 H4 _ _ fp4) rfl (.inr (.inl rfl)) rfl rfl) (g_add (ck.blk s4 H4 _ _ fp4) (s_var (ck.blk s4 H4 _ _ fp4) rfl (.inl rfl) rfl rfl) g_int)))) (fun _ => rfl))) (fun _ => rfl))) (pw_or1 (gt_cmp ck (k_ne ck) (by first | rfl | exact nobehind _ (by decide) (by decide)) (g_len ck rfl rfl (g_ix ck (fun _ _ => rfl) (s_var ck rfl (.inl rfl) rfl rfl) g_int)) (s_call (f := 26) ck kf26 rfl rfl rfl (nsA rfl) (a_cons ck (ns1 rfl) (g_len ck rfl rfl (s_var ck rfl (.inr (.inl rfl)) rfl rfl)) a_nil)))))) (p_cons ck (p_ret ck (s_tup ck (by decide) (a_cons ck (ns1 rfl) g_str (a_cons ck (ns1 rfl) g_int a_nil))))
 p_nil) p_nil)
 (p_cons ck (p_ret ck (s_tup ck (by decide) (a_cons ck (ns1 rfl) g_str (a_cons ck (ns1 rfl) (s_tup ck (by decide) (a_cons ck (ns1 rfl) (s_var ck rfl (.inr (.inl rfl)) rfl rfl) (a_cons ck (ns1 rfl) (g_tuple ck rfl rfl (s_comp ck (own := [("sign", 3)]) (s_seq ck (g_ix ck (fun _ _ => rfl) (s_var ck rfl (.inl rfl) rfl rfl) g_int)) (blkOk_by rfl) (by decide) (fun s5 H5 Ca5 cl5 fp5 => (pg_name (i := 3) (ck.blk s5 H5 _ _ fp5).nd rfl (.inl rfl) (.inr rfl))) (fun s5 H5 Ca5 cl5 fp5 => (pts_nil.imp fun _ _ _ h => tT_yes h)) (fun s5 H5 Ca5 cl5 fp5 => (g_intc (ck.blk s5 H5 _ _ fp5) rfl rfl (s_var (ck.blk s5 H5 _ _ fp5) rfl (.inl rfl) rfl rfl))) (fun _ => rfl))) a_nil))) a_nil))))
 p_nil))))))

abbrev st29 : Stmt := top 45
theorem bd29 {P : Program} {w : World} {K : PySem.W.Frag} {mg : Str → Option Value} {base : Heap} {T : List (Addr × Str)} {C : Cl} {Θ : Pm} {fa : Addr} {cdv : Value} {A : Around} {outer : List PySem.Env} {s : Shared} {H : Hp} {E : XK} 
    (ck : Ck (nm T) C Θ (cx P w K mg base n29 "_law_state" st29 fa cdv A outer s H E) (we E) false) (hpo : PassesOwn (model P w) (cx P w K mg base n29 "_law_state" st29 fa cdv A outer s H E).A (cx P w K mg base n29 "_law_state" st29 fa cdv A outer s H E).env (cx P w K mg base n29 "_law_state" st29 fa cdv A outer s H E).xe) :
    PSs (cx P w K mg base n29 "_law_state" st29 fa cdv A outer s H E) (defBody st29) (tS (nm T) C Θ (cx P w K mg base n29 "_law_state" st29 fa cdv A outer s H E) (we E) ir29) :=
  (p_cons ck (p_if ck (PW.pt (w_or ck (gt_cmp ck (k_lt ck) (by first | rfl | exact nobehind _ (by decide) (by decide)) (g_len ck rfl rfl (s_var ck rfl (.inl rfl) rfl rfl)) g_int) (w_or ck (gt_cmp ck (k_gt ck) (by first | rfl | exact nobehind _ (by decide) (by decide)) (g_len ck rfl rfl (s_var ck rfl (.inl rfl) rfl rfl)) g_int) (pw_or1 (t_not ck (t_val ck (g_all ck rfl rfl (s_comp ck (own := [("sign", 1)]) (s_seq ck (s_var ck rfl (.inl rfl) rfl rfl)) (blkOk_by rfl) (by decide) (fun s1 H1 Ca1 cl1 fp1 => (pg_name (i := 1) (ck.blk s1 H1 _ _ fp1).nd rfl (.inl rfl) (.inr rfl))) (fun s1 H1 Ca1 cl1 fp1 => (pts_nil.imp fun _ _ _ h => tT_yes h)) (fun s1 H1 Ca1 cl1 fp1 => (g_cmp (ck.blk s1 H1 _ _ fp1) (k_in (ck.blk s1 H1 _ _ fp1)) (by first | rfl | exact nobehind _ (by decide) (by decide)) (s_var (ck.blk s1 H1 _ _ fp1) rfl (.inl rfl) rfl rfl) g_str)) (fun _ => rfl))) (fun _ => rfl))))))) (p_cons ck (p_ret ck (s_tup ck (by decide) (a_cons ck (ns1 rfl) g_str (a_cons ck (ns1 rfl) g_int a_nil))))
 p_nil) p_nil)
 (p_cons ck (p_ret ck (s_tup ck (by decide) (a_cons ck (ns1 rfl) g_str (a_cons ck (ns1 rfl) (g_tuple ck rfl rfl (s_comp ck (own := [("sign", 1)]) (s_seq ck (s_var ck rfl (.inl rfl) rfl rfl)) (blkOk_by rfl) (by decide) (fun s2 H2 Ca2 cl2 fp2 => (pg_name (i := 1) (ck.blk s2 H2 _ _ fp2).nd rfl (.inl rfl) (.inr rfl))) (fun s2 H2 Ca2 cl2 fp2 => (pts_nil.imp fun _ _ _ h => tT_yes h)) (fun s2 H2 Ca2 cl2 fp2 => (g_intc (ck.blk s2 H2 _ _ fp2) rfl rfl (s_var (ck.blk s2 H2 _ _ fp2) rfl (.inl rfl) rfl rfl))) (fun _ => rfl))) a_nil))))
 p_nil))

abbrev st30 : Stmt := top 46
theorem bd30 {P : Program} {w : World} {K : PySem.W.Frag} {mg : Str → Option Value} {base : Heap} {T : List (Addr × Str)} {C : Cl} {Θ : Pm} {fa : Addr} {cdv : Value} {A : Around} {outer : List PySem.Env} {s : Shared} {H : Hp} {Cc0 : Addr} (hcl0 : mg ((nm T).cl 0) = some (.ref Cc0))
    (hact : ∀ (W : WX) (pn : List (Addr × Obj)) (xe : Value → Shared → Prop) (p1 p2 : Pos), Takes ((cxOf C8.CX0 P w K mg base n30 "_law_told" (defScope st30) fa cdv A outer s H C8.E0).tr pn xe) W → PE ((cxOf C8.CX0 P w K mg base n30 "_law_told" (defScope st30) fa cdv A outer s H C8.E0).tr pn xe) (.Call (.Name "call" p1) [] [] p2) (tE (nm T) C Θ ((cxOf C8.CX0 P w K mg base n30 "_law_told" (defScope st30) fa cdv A outer s H C8.E0).tr pn xe) W (.act 0)))
    (ck : Ck (nm T) C Θ (cxOf C8.CX0 P w K mg base n30 "_law_told" (defScope st30) fa cdv A outer s H C8.E0).nox W0 false) : PSs (cxOf C8.CX0 P w K mg base n30 "_law_told" (defScope st30) fa cdv A outer s H C8.E0).nox (defBody st30) (tS (nm T) C Θ (cxOf C8.CX0 P w K mg base n30 "_law_told" (defScope st30) fa cdv A outer s H C8.E0).nox W0 ir30) :=
  (p_cons ck (p_try (c := 0) ck rfl rfl rfl rfl rfl hcl0 rfl rfl (fun W' pn xe ck1 po1 => (p_cons ck1 (p_asg ck1 (s_set ck1 (i := 1) rfl (.inl rfl) (.inr rfl) (by rfl) (hact _ _ _ _ _ ck1.tk)))
 (p_cons ck1 (p_ret ck1 (s_ife ck1 (t_val ck1 (s_isi1 ck1 rfl (ns1 rfl) (s_var ck1 rfl (.inl rfl) rfl rfl) (.own 6 _ rfl rfl rfl)) (fun _ => rfl)) (s_tup ck1 (by decide) (a_cons ck1 (ns1 rfl) g_str (a_cons ck1 (ns1 rfl) (s_fld (f := 2) ck1 (nc0 rfl) (s_var ck1 rfl (.inl rfl) rfl rfl)) a_nil))) (s_tup ck1 (by decide) (a_cons ck1 (ns1 rfl) g_str (a_cons ck1 (ns1 rfl) (s_var ck1 rfl (.inl rfl) rfl rfl) a_nil)))))
 p_nil))) (fun a oe cls d pn hz hf cs1 => (p_cons cs1 (p_new cs1 (s_set cs1 (i := 3) rfl (.inl rfl) (.inr rfl) (by rfl) (s_lst cs1 (by decide) (a_cons cs1 (ns1 rfl) (s_exisi (c' := 4) cs1 hz hf rfl (.inl rfl) rfl rfl rfl rfl rfl rfl) (a_cons cs1 (ns1 rfl) (s_exisi (c' := 3) cs1 hz hf rfl (.inl rfl) rfl rfl rfl rfl rfl rfl) (a_cons cs1 (ns1 rfl) (s_exisi (c' := 5) cs1 hz hf rfl (.inl rfl) rfl rfl rfl rfl rfl rfl) a_nil))))))
 (p_cons cs1 (p_expr cs1 (s_app cs1 rfl (.inl rfl) rfl rfl (ns1 rfl) rfl rfl (s_exisi (c' := 2) cs1 hz hf rfl (.inl rfl) rfl rfl rfl rfl rfl rfl)) (by rfl))
 (p_cons cs1 (p_if cs1 (PW.pt (w_or cs1 (gt_cmp cs1 (k_ne cs1) (by first | rfl | exact nobehind _ (by decide) (by decide)) (s_opl cs1 (.inl ⟨rfl, rfl⟩) rfl (ns1 rfl) rfl rfl (s_var cs1 rfl (.inl rfl) rfl rfl) g_bl) g_int) (pw_or1 (t_not cs1 (t_val cs1 (s_exve cs1 hz hf rfl (.inl rfl) rfl rfl rfl rfl) (fun _ => rfl)))))) (p_cons cs1 (p_ret cs1 (s_tup cs1 (by decide) (a_cons cs1 (ns1 rfl) g_str (a_cons cs1 (ns1 rfl) g_non a_nil))))
 p_nil) p_nil)
 (p_cons cs1 (p_ret cs1 (s_ife cs1 (t_val cs1 (g_ix cs1 (fun _ _ => rfl) (s_var cs1 rfl (.inl rfl) rfl rfl) g_int) (fun _ => rfl)) (s_tup cs1 (by decide) (a_cons cs1 (ns1 rfl) g_str (a_cons cs1 (ns1 rfl) (s_exfld (f := 1) cs1 hz hf rfl (.inl rfl) rfl rfl) a_nil))) (s_tup cs1 (by decide) (a_cons cs1 (ns1 rfl) g_str (a_cons cs1 (ns1 rfl) (s_opl cs1 (.inr ⟨rfl, rfl⟩) rfl (ns1 rfl) rfl rfl (s_var cs1 rfl (.inl rfl) rfl rfl) g_bl) a_nil)))))
 p_nil))))))
 p_nil)

abbrev st31 : Stmt := top 47
theorem bd31 {P : Program} {w : World} {K : PySem.W.Frag} {mg : Str → Option Value} {base : Heap} {T : List (Addr × Str)} {C : Cl} {Θ : Pm} {fa : Addr} {cdv : Value} {A : Around} {outer : List PySem.Env} {s : Shared} {H : Hp} {E : XK} (kf21 : C.kf 21 = true) (kf22 : C.kf 22 = true)
    (ck : Ck (nm T) C Θ (cx P w K mg base n31 "_law_spoiled" st31 fa cdv A outer s H E) (we E) false) (hpo : PassesOwn (model P w) (cx P w K mg base n31 "_law_spoiled" st31 fa cdv A outer s H E).A (cx P w K mg base n31 "_law_spoiled" st31 fa cdv A outer s H E).env (cx P w K mg base n31 "_law_spoiled" st31 fa cdv A outer s H E).xe) :
    PSs (cx P w K mg base n31 "_law_spoiled" st31 fa cdv A outer s H E) (defBody st31) (tS (nm T) C Θ (cx P w K mg base n31 "_law_spoiled" st31 fa cdv A outer s H E) (we E) ir31) :=
  (p_cons ck (p_parn2 ck (ps_par (ck.calm rfl) ck.nd (i := 2) (j := 3) rfl rfl (by decide) rfl rfl (b_cons ck (ns1 rfl) (s_call (f := 21) ck kf21 rfl rfl rfl (nsA rfl) (a_cons ck (ns1 rfl) (s_var ck rfl (.inl rfl) rfl rfl) (a_cons ck (ns1 rfl) (g_len ck rfl rfl (s_var ck rfl (.inl rfl) rfl rfl)) a_nil))) (b_cons ck (ns1 rfl) (s_call (f := 21) ck kf21 rfl rfl rfl (nsA rfl) (a_cons ck (ns1 rfl) (s_var ck rfl (.inl rfl) rfl rfl) (a_cons ck (ns1 rfl) g_int a_nil))) b_nil)) (by rfl)))
 (p_cons ck (p_if ck (gt_cmp ck (k_eq ck) (by first | rfl | exact nobehind _ (by decide) (by decide)) (s_var ck rfl (.inl rfl) rfl rfl) g_int) (p_cons ck (p_ret ck (g_add ck (s_cut ck (s_var ck rfl (.inl rfl) rfl rfl) o_none (o_some ck (s_var ck rfl (.inl rfl) rfl rfl))) (s_cut ck (s_var ck rfl (.inl rfl) rfl rfl) (o_some ck (g_add ck (s_var ck rfl (.inl rfl) rfl rfl) g_int)) o_none)))
 p_nil) p_nil)
 (p_cons ck (p_if ck (gt_cmp ck (k_eq ck) (by first | rfl | exact nobehind _ (by decide) (by decide)) (s_var ck rfl (.inl rfl) rfl rfl) g_int) (p_cons ck (p_ret ck (g_add ck (g_add ck (s_cut ck (s_var ck rfl (.inl rfl) rfl rfl) o_none (o_some ck (s_var ck rfl (.inl rfl) rfl rfl))) (s_call (f := 22) ck kf22 rfl rfl rfl (nsA rfl) (a_cons ck (ns1 rfl) (s_var ck rfl (.inl rfl) rfl rfl) (a_cons ck (ns1 rfl) (s_lst ck (by decide) (a_cons ck (ns1 rfl) g_str (a_cons ck (ns1 rfl) g_str (a_cons ck (ns1 rfl) g_str (a_cons ck (ns1 rfl) g_str (a_cons ck (ns1 rfl) g_str (a_cons ck (ns1 rfl) g_str (a_cons ck (ns1 rfl) g_str (a_cons ck (ns1 rfl) g_str (a_cons ck (ns1 rfl) g_str a_nil)))))))))) a_nil)))) (s_cut ck (s_var ck rfl (.inl rfl) rfl rfl) (o_some ck (s_var ck rfl (.inl rfl) rfl rfl)) o_none)))
 p_nil) p_nil)
 (p_cons ck (p_if ck (gt_cmp ck (k_eq ck) (by first | rfl | exact nobehind _ (by decide) (by decide)) (s_var ck rfl (.inl rfl) rfl rfl) g_int) (p_cons ck (p_ret ck (g_add ck (g_add ck (s_cut ck (s_var ck rfl (.inl rfl) rfl rfl) o_none (o_some ck (s_var ck rfl (.inl rfl) rfl rfl))) (s_cut ck (s_var ck rfl (.inl rfl) rfl rfl) (o_some ck (s_var ck rfl (.inl rfl) rfl rfl)) (o_some ck (g_add ck (s_var ck rfl (.inl rfl) rfl rfl) g_int)))) (s_cut ck (s_var ck rfl (.inl rfl) rfl rfl) (o_some ck (s_var ck rfl (.inl rfl) rfl rfl)) o_none)))
 p_nil) p_nil)
 (p_cons ck (p_asg ck (s_set ck (i := 4) rfl (.inl rfl) (.inr rfl) (by rfl) (g_split ck rfl rfl rfl (s_var ck rfl (.inl rfl) rfl rfl) g_str)))
 (p_cons ck (p_asg ck (s_set ck (i := 5) rfl (.inl rfl) (.inr rfl) (by rfl) (s_call (f := 21) ck kf21 rfl rfl rfl (nsA rfl) (a_cons ck (ns1 rfl) (s_var ck rfl (.inl rfl) rfl rfl) (a_cons ck (ns1 rfl) (g_len ck rfl rfl (s_var ck rfl (.inl rfl) rfl rfl)) a_nil)))))
 (p_cons ck (p_if ck (gt_cmp ck (k_eq ck) (by first | rfl | exact nobehind _ (by decide) (by decide)) (s_var ck rfl (.inl rfl) rfl rfl) g_int) (p_cons ck (p_ret ck (g_join ck rfl rfl rfl g_str (g_add ck (s_cut ck (s_var ck rfl (.inl rfl) rfl rfl) o_none (o_some ck (s_var ck rfl (.inl rfl) rfl rfl))) (s_cut ck (s_var ck rfl (.inl rfl) rfl rfl) (o_some ck (g_add ck (s_var ck rfl (.inl rfl) rfl rfl) g_int)) o_none))))
 p_nil) p_nil)
 (p_cons ck (p_if ck (gt_cmp ck (k_eq ck) (by first | rfl | exact nobehind _ (by decide) (by decide)) (s_var ck rfl (.inl rfl) rfl rfl) g_int) (p_cons ck (p_ret ck (g_join ck rfl rfl rfl g_str (g_add ck (g_add ck (s_cut ck (s_var ck rfl (.inl rfl) rfl rfl) o_none (o_some ck (s_var ck rfl (.inl rfl) rfl rfl))) (s_cut ck (s_var ck rfl (.inl rfl) rfl rfl) (o_some ck (s_var ck rfl (.inl rfl) rfl rfl)) (o_some ck (g_add ck (s_var ck rfl (.inl rfl) rfl rfl) g_int)))) (s_cut ck (s_var ck rfl (.inl rfl) rfl rfl) (o_some ck (s_var ck rfl (.inl rfl) rfl rfl)) o_none))))
 p_nil) p_nil)
 (p_cons ck (p_asg ck (s_set ck (i := 6) rfl (.inl rfl) (.inr rfl) (by rfl) (s_lst ck (by decide) (a_cons ck (ns1 rfl) g_str (a_cons ck (ns1 rfl) g_str (a_cons ck (ns1 rfl) g_str (a_cons ck (ns1 rfl) g_str (a_cons ck (ns1 rfl) g_str (a_cons ck (ns1 rfl) g_str (a_cons ck (ns1 rfl) (g_mul ck g_str g_int) (a_cons ck (ns1 rfl) g_str (a_cons ck (ns1 rfl) g_str (a_cons ck (ns1 rfl) g_str (a_cons ck (ns1 rfl) g_str (a_cons ck (ns1 rfl) g_str a_nil)))))))))))))))
 (p_cons ck (p_ret ck (s_call (f := 22) ck kf22 rfl rfl rfl (nsA rfl) (a_cons ck (ns1 rfl) (s_var ck rfl (.inl rfl) rfl rfl) (a_cons ck (ns1 rfl) (g_add ck (s_var ck rfl (.inl rfl) rfl rfl) (s_lst ck (by decide) (a_cons ck (ns1 rfl) g_str (a_cons ck (ns1 rfl) g_str (a_cons ck (ns1 rfl) g_str (a_cons ck (ns1 rfl) g_str (a_cons ck (ns1 rfl) g_str (a_cons ck (ns1 rfl) g_str (a_cons ck (ns1 rfl) g_str a_nil))))))))) a_nil))))
 p_nil))))))))))

abbrev st32 : Stmt := top 48
theorem bd32 {P : Program} {w : World} {K : PySem.W.Frag} {mg : Str → Option Value} {base : Heap} {T : List (Addr × Str)} {C : Cl} {Θ : Pm} {fa : Addr} {cdv : Value} {A : Around} {outer : List PySem.Env} {s : Shared} {H : Hp} {E : XK} (kf10 : C.kf 10 = true) (kf13 : C.kf 13 = true) (kf15 : C.kf 15 = true) (kf17 : C.kf 17 = true) (kf18 : C.kf 18 = true) (kf19 : C.kf 19 = true) (kf21 : C.kf 21 = true) (kf22 : C.kf 22 = true) (kf23 : C.kf 23 = true) (kf24 : C.kf 24 = true) (kf26 : C.kf 26 = true) (kf27 : C.kf 27 = true) (kf28 : C.kf 28 = true) (kf29 : C.kf 29 = true) (kf31 : C.kf 31 = true) (km6 : C.km 6 = true) {kl : Nat} {cc PP : Addr} (hG : LamG (nm T) C P w K mg base kl 30) (hroom : Room (kl + 2) (cx P w K mg base n32 "_law_is_right" st32 fa cdv A outer s H E).A) (TB : LamX.TabB base mg cc PP) (hcode : cdv = .ref cc) (hmT : (PP, (cx P w K mg base n32 "_law_is_right" st32 fa cdv A outer s H E).env.qual ++ "<lambda>") ∈ (nm T).tabs) (hu : ∀ p ∈ (nm T).tabs, p.1 = PP → p.2 = (cx P w K mg base n32 "_law_is_right" st32 fa cdv A outer s H E).env.qual ++ "<lambda>")
    (hlk : ∀ (scope : Scope) (A1 : Around) (outer1 : List PySem.Env) (s1 : Shared) (H1 : Hp) (E1 : XK) (f c' : Addr), Room kl (A1.deeper (LamX.lamEnv (cx P w K mg base n32 "_law_is_right" st32 fa cdv A outer s H E) scope s1.heap.objs.size f c')) → Takes (LamX.lamCx (cx P w K mg base n32 "_law_is_right" st32 fa cdv A outer s H E) A1 outer1 s1 H1 E1 scope f c') (we E1) → Ck (nm T) C Θ (LamX.lamCx (cx P w K mg base n32 "_law_is_right" st32 fa cdv A outer s H E) A1 outer1 s1 H1 E1 scope f c') (we E1) false)
    {kq : Nat} (hE : EqG (nm T) C P w K mg base kq 6) (hrq : Room (kq + 1) (cx P w K mg base n32 "_law_is_right" st32 fa cdv A outer s H E).A)
    (ck : Ck (nm T) C Θ (cx P w K mg base n32 "_law_is_right" st32 fa cdv A outer s H E) (we E) false) (hpo : PassesOwn (model P w) (cx P w K mg base n32 "_law_is_right" st32 fa cdv A outer s H E).A (cx P w K mg base n32 "_law_is_right" st32 fa cdv A outer s H E).env (cx P w K mg base n32 "_law_is_right" st32 fa cdv A outer s H E).xe) :
    PSs (cx P w K mg base n32 "_law_is_right" st32 fa cdv A outer s H E) (defBody st32) (tS (nm T) C Θ (cx P w K mg base n32 "_law_is_right" st32 fa cdv A outer s H E) (we E) ir32) :=
  (p_cons ck (p_asg ck (s_set ck (i := 1) rfl (.inl rfl) (.inr rfl) (by rfl) (g_add ck g_int (s_call (f := 21) ck kf21 rfl rfl rfl (nsA rfl) (a_cons ck (ns1 rfl) (s_var ck rfl (.inr (.inl rfl)) rfl rfl) (a_cons ck (ns1 rfl) g_int a_nil))))))
 (p_cons ck (p_parnT ck (by decide) (b_cons ck (ns1 rfl) (s_call (f := 24) ck kf24 rfl rfl rfl (nsA rfl) (a_cons ck (ns1 rfl) (s_var ck rfl (.inr (.inl rfl)) rfl rfl) (a_cons ck (ns1 rfl) (s_var ck rfl (.inl rfl) rfl rfl) a_nil))) (b_cons ck (ns1 rfl) (g_tuple ck rfl rfl (s_comp ck (own := [("lamp", 12)]) (s_rng ck rfl (ns1 rfl) (g_add ck g_int (s_call (f := 21) ck kf21 rfl rfl rfl (nsA rfl) (a_cons ck (ns1 rfl) (s_var ck rfl (.inr (.inl rfl)) rfl rfl) (a_cons ck (ns1 rfl) g_int a_nil))))) (blkOk_by rfl) (by decide) (fun s1 H1 Ca1 cl1 fp1 => (pg_name (i := 12) (ck.blk s1 H1 _ _ fp1).nd rfl (.inl rfl) (.inr rfl))) (fun s1 H1 Ca1 cl1 fp1 => (pts_nil.imp fun _ _ _ h => tT_yes h)) (fun s1 H1 Ca1 cl1 fp1 => (s_call (f := 21) (ck.blk s1 H1 _ _ fp1) kf21 rfl rfl rfl (nsA rfl) (a_cons (ck.blk s1 H1 _ _ fp1) (ns1 rfl) (s_var (ck.blk s1 H1 _ _ fp1) rfl (.inr (.inl rfl)) rfl rfl) (a_cons (ck.blk s1 H1 _ _ fp1) (ns1 rfl) g_int a_nil)))) (fun _ => rfl))) b_nil)) (pg_tup (ck.calm rfl) (pgs_cons (pg_name (i := 10) ck.nd rfl (.inr rfl) (.inl rfl)) (pgs_cons (pg_name (i := 2) ck.nd rfl (.inl rfl) (.inr rfl)) pgs_nil))) (by rfl) (by rfl) (by rfl))
 (p_cons ck (p_asg ck (s_set ck (i := 3) rfl (.inl rfl) (.inr rfl) (by rfl) (s_cut ck (g_tuple ck rfl rfl (s_comp ck (own := [("lamp", 12)]) (s_rng ck rfl (ns1 rfl) g_int) (blkOk_by rfl) (by decide) (fun s2 H2 Ca2 cl2 fp2 => (pg_name (i := 12) (ck.blk s2 H2 _ _ fp2).nd rfl (.inl rfl) (.inr rfl))) (fun s2 H2 Ca2 cl2 fp2 => (pts_one (gt_cmp (ck.blk s2 H2 _ _ fp2) (k_eq (ck.blk s2 H2 _ _ fp2)) (by first | rfl | exact nobehind _ (by decide) (by decide)) (s_call (f := 21) (ck.blk s2 H2 _ _ fp2) kf21 rfl rfl rfl (nsA rfl) (a_cons (ck.blk s2 H2 _ _ fp2) (ns1 rfl) (s_var (ck.blk s2 H2 _ _ fp2) rfl (.inr (.inl rfl)) rfl rfl) (a_cons (ck.blk s2 H2 _ _ fp2) (ns1 rfl) g_int a_nil))) g_int))) (fun s2 H2 Ca2 cl2 fp2 => (s_var (ck.blk s2 H2 _ _ fp2) rfl (.inl rfl) rfl rfl)) (fun _ => rfl))) o_none (o_some ck g_int))))
 (p_cons ck (p_asg ck (s_set ck (i := 4) rfl (.inl rfl) (.inr rfl) (by rfl) (s_tup ck (by decide) (a_cons ck (ns1 rfl) (s_var ck rfl (.inl rfl) rfl rfl) (a_cons ck (ns1 rfl) (g_tuple ck rfl rfl (s_comp ck (own := [("number", 13)]) (s_rng ck rfl (ns1 rfl) (s_call (f := 26) ck kf26 rfl rfl rfl (nsA rfl) (a_cons ck (ns1 rfl) (g_len ck rfl rfl (s_var ck rfl (.inl rfl) rfl rfl)) a_nil))) (blkOk_by rfl) (by decide) (fun s3 H3 Ca3 cl3 fp3 => (pg_name (i := 13) (ck.blk s3 H3 _ _ fp3).nd rfl (.inl rfl) (.inr rfl))) (fun s3 H3 Ca3 cl3 fp3 => (pts_nil.imp fun _ _ _ h => tT_yes h)) (fun s3 H3 Ca3 cl3 fp3 => (s_call (f := 21) (ck.blk s3 H3 _ _ fp3) kf21 rfl rfl rfl (nsA rfl) (a_cons (ck.blk s3 H3 _ _ fp3) (ns1 rfl) (s_var (ck.blk s3 H3 _ _ fp3) rfl (.inr (.inl rfl)) rfl rfl) (a_cons (ck.blk s3 H3 _ _ fp3) (ns1 rfl) g_int a_nil)))) (fun _ => rfl))) a_nil)))))
 (p_cons ck (p_new ck (s_set ck (i := 11) rfl (.inr rfl) (.inl rfl) (by rfl) (s_lst ck (by decide) (a_cons ck (ns1 rfl) (g_join ck rfl rfl rfl g_str (s_comp ck (own := [("table", 15)]) (s_seq ck (s_var ck rfl (.inr (.inl rfl)) rfl rfl)) (blkOk_by rfl) (by decide) (fun s4 H4 Ca4 cl4 fp4 => (pg_name (i := 15) (ck.blk s4 H4 _ _ fp4).nd rfl (.inl rfl) (.inr rfl))) (fun s4 H4 Ca4 cl4 fp4 => (pts_nil.imp fun _ _ _ h => tT_yes h)) (fun s4 H4 Ca4 cl4 fp4 => (g_add (ck.blk s4 H4 _ _ fp4) (g_join (ck.blk s4 H4 _ _ fp4) rfl rfl rfl g_str (s_comp (ck.blk s4 H4 _ _ fp4) (own := [("bit", 14)]) (s_seq (ck.blk s4 H4 _ _ fp4) (s_var (ck.blk s4 H4 _ _ fp4) rfl (.inl rfl) rfl rfl)) (blkOk_by rfl) (by decide) (fun s5 H5 Ca5 cl5 fp5 => (pg_name (i := 14) ((ck.blk s4 H4 _ _ fp4).blk s5 H5 _ _ fp5).nd rfl (.inl rfl) (.inr rfl))) (fun s5 H5 Ca5 cl5 fp5 => (pts_nil.imp fun _ _ _ h => tT_yes h)) (fun s5 H5 Ca5 cl5 fp5 => (g_strc ((ck.blk s4 H4 _ _ fp4).blk s5 H5 _ _ fp5) rfl rfl (s_var ((ck.blk s4 H4 _ _ fp4).blk s5 H5 _ _ fp5) rfl (.inl rfl) rfl rfl))) (fun _ => rfl))) g_str)) (fun _ => rfl))) a_nil))))
 (p_cons ck (p_expr ck (s_app ck rfl (.inr (.inl rfl)) rfl rfl (ns1 rfl) rfl rfl (g_add ck (s_ife ck (gt_cmp ck (k_gt ck) (by first | rfl | exact nobehind _ (by decide) (by decide)) (g_len ck rfl rfl (s_var ck rfl (.inl rfl) rfl rfl)) g_int) (g_join ck rfl rfl rfl g_str (s_comp ck (own := [("lamp", 12)]) (s_seq ck (s_var ck rfl (.inl rfl) rfl rfl)) (blkOk_by rfl) (by decide) (fun s6 H6 Ca6 cl6 fp6 => (pg_name (i := 12) (ck.blk s6 H6 _ _ fp6).nd rfl (.inl rfl) (.inr rfl))) (fun s6 H6 Ca6 cl6 fp6 => (pts_nil.imp fun _ _ _ h => tT_yes h)) (fun s6 H6 Ca6 cl6 fp6 => (g_strc (ck.blk s6 H6 _ _ fp6) rfl rfl (s_var (ck.blk s6 H6 _ _ fp6) rfl (.inl rfl) rfl rfl))) (fun _ => rfl))) g_str) g_str)) (by rfl))
 (p_cons ck (p_setx ck rfl (.inr (.inl rfl)) rfl rfl g_int (g_add ck (g_ix ck (fun _ _ => rfl) (s_var ck rfl (.inr (.inl rfl)) rfl rfl) g_int) (g_join ck rfl rfl rfl g_str (s_comp ck (own := [("bit", 14)]) (s_seq ck (g_ix ck (fun _ _ => rfl) (s_var ck rfl (.inl rfl) rfl rfl) g_int)) (blkOk_by rfl) (by decide) (fun s7 H7 Ca7 cl7 fp7 => (pg_name (i := 14) (ck.blk s7 H7 _ _ fp7).nd rfl (.inl rfl) (.inr rfl))) (fun s7 H7 Ca7 cl7 fp7 => (pts_nil.imp fun _ _ _ h => tT_yes h)) (fun s7 H7 Ca7 cl7 fp7 => (g_strc (ck.blk s7 H7 _ _ fp7) rfl rfl (s_var (ck.blk s7 H7 _ _ fp7) rfl (.inl rfl) rfl rfl))) (fun _ => rfl)))) (by rfl) (by rfl) (fun _ => rfl) (by rfl))
 (p_cons ck (p_expr ck (s_app ck rfl (.inr (.inl rfl)) rfl rfl (ns1 rfl) rfl rfl (g_join ck rfl rfl rfl g_str (s_comp ck (own := [("bit", 14)]) (s_seq ck (s_var ck rfl (.inl rfl) rfl rfl)) (blkOk_by rfl) (by decide) (fun s8 H8 Ca8 cl8 fp8 => (pg_name (i := 14) (ck.blk s8 H8 _ _ fp8).nd rfl (.inl rfl) (.inr rfl))) (fun s8 H8 Ca8 cl8 fp8 => (pts_nil.imp fun _ _ _ h => tT_yes h)) (fun s8 H8 Ca8 cl8 fp8 => (g_strc (ck.blk s8 H8 _ _ fp8) rfl rfl (s_var (ck.blk s8 H8 _ _ fp8) rfl (.inl rfl) rfl rfl))) (fun _ => rfl)))) (by rfl))
 (p_cons ck (p_if ck (t_not ck (t_val ck (s_call (f := 23) ck kf23 rfl rfl rfl (nsA rfl) (a_cons ck (ns1 rfl) (s_lst ck (by decide) (a_cons ck (ns1 rfl) (s_call (f := 10) ck kf10 rfl rfl rfl (nsA rfl) (a_cons ck (ns1 rfl) (s_mk (c := 6) ck km6 rfl rfl rfl (nsA rfl) (a_cons ck (ns1 rfl) (s_var ck rfl (.inr (.inl rfl)) rfl rfl) a_nil)) a_nil)) (a_cons ck (ns1 rfl) (s_call (f := 15) ck kf15 rfl rfl rfl (nsA rfl) (a_cons ck (ns1 rfl) (s_var ck rfl (.inl rfl) rfl rfl) a_nil)) (a_cons ck (ns1 rfl) (s_call (f := 18) ck kf18 rfl rfl rfl (nsA rfl) (a_cons ck (ns1 rfl) (s_var ck rfl (.inl rfl) rfl rfl) a_nil)) a_nil)))) (a_cons ck (ns1 rfl) (s_var ck rfl (.inr (.inl rfl)) rfl rfl) a_nil))) (fun _ => rfl))) (p_cons ck (p_ret ck g_bl)
 p_nil) p_nil)
 (p_cons ck (p_if ck (PW.pt (w_or ck (t_neo ck (hE ) hrq (by first | rfl | exact nobehind _ (by decide) (by decide)) (s_call (f := 13) ck kf13 rfl rfl rfl (nsA rfl) (a_cons ck (ns1 rfl) (g_ix ck (fun _ _ => rfl) (s_var ck rfl (.inr (.inl rfl)) rfl rfl) g_int) a_nil)) (s_mk (c := 6) ck km6 rfl rfl rfl (nsA rfl) (a_cons ck (ns1 rfl) (s_var ck rfl (.inr (.inl rfl)) rfl rfl) a_nil))) (pw_or1 (t_not ck (t_val ck (s_call (f := 23) ck kf23 rfl rfl rfl (nsA rfl) (a_cons ck (ns1 rfl) (s_lst ck (by decide) (a_cons ck (ns1 rfl) (s_call (f := 17) ck kf17 rfl rfl rfl (nsA rfl) (a_cons ck (ns1 rfl) (g_ix ck (fun _ _ => rfl) (s_var ck rfl (.inr (.inl rfl)) rfl rfl) g_int) a_nil)) (a_cons ck (ns1 rfl) (s_call (f := 19) ck kf19 rfl rfl rfl (nsA rfl) (a_cons ck (ns1 rfl) (g_ix ck (fun _ _ => rfl) (s_var ck rfl (.inr (.inl rfl)) rfl rfl) g_int) a_nil)) a_nil))) (a_cons ck (ns1 rfl) (s_lst ck (by decide) (a_cons ck (ns1 rfl) (s_var ck rfl (.inl rfl) rfl rfl) (a_cons ck (ns1 rfl) (s_var ck rfl (.inl rfl) rfl rfl) a_nil))) a_nil))) (fun _ => rfl)))))) (p_cons ck (p_ret ck g_bl)
 p_nil) p_nil)
 (p_cons ck (p_for ck hpo (s_rng ck rfl (ns1 rfl) g_int) (pg_name (i := 5) ck.nd rfl (.inl rfl) (.inr rfl)) (p_cons ck (p_asg ck (s_set ck (i := 9) rfl (.inr rfl) (.inl rfl) (by rfl) (s_comp ck (own := [("text", 16)]) (s_seq ck (s_var ck rfl (.inr (.inl rfl)) rfl rfl)) (blkOk_by rfl) (by decide) (fun s9 H9 Ca9 cl9 fp9 => (pg_name (i := 16) (ck.blk s9 H9 _ _ fp9).nd rfl (.inl rfl) (.inr rfl))) (fun s9 H9 Ca9 cl9 fp9 => (pts_nil.imp fun _ _ _ h => tT_yes h)) (fun s9 H9 Ca9 cl9 fp9 => (s_call (f := 31) (ck.blk s9 H9 _ _ fp9) kf31 rfl rfl rfl (nsA rfl) (a_cons (ck.blk s9 H9 _ _ fp9) (ns1 rfl) (s_var (ck.blk s9 H9 _ _ fp9) rfl (.inr (.inl rfl)) rfl rfl) (a_cons (ck.blk s9 H9 _ _ fp9) (ns1 rfl) (s_var (ck.blk s9 H9 _ _ fp9) rfl (.inl rfl) rfl rfl) a_nil)))) (fun _ => rfl))))
 (p_cons ck (p_if ck (t_not ck (t_val ck (s_call (f := 23) ck kf23 rfl rfl rfl (nsA rfl) (a_cons ck (ns1 rfl) (s_lam (g0 := 30) ck hG hroom rfl rfl TB hcode hmT hu (LamX.lamS_by rfl) rfl (fun _ _ _ _ _ => rfl) (fun A10 o10 s10 H10 E10 f10 g10 hr10 tk10 => have lk10 := hlk _ A10 o10 s10 H10 E10 f10 g10 hr10 tk10; (s_call (f := 13) lk10 kf13 rfl rfl rfl (nsA rfl) (a_cons lk10 (ns1 rfl) (g_ix lk10 (fun _ _ => rfl) (s_var lk10 rfl (.inr (.inr rfl)) rfl rfl) g_int) a_nil)))) (a_cons ck (ns1 rfl) (s_call (f := 27) ck kf27 rfl rfl rfl (nsA rfl) (a_cons ck (ns1 rfl) (g_ix ck (fun _ _ => rfl) (s_var ck rfl (.inr (.inl rfl)) rfl rfl) g_int) a_nil)) a_nil))) (fun _ => rfl))) (p_cons ck (p_ret ck g_bl)
 p_nil) p_nil)
 (p_cons ck (p_if ck (t_not ck (t_val ck (s_call (f := 23) ck kf23 rfl rfl rfl (nsA rfl) (a_cons ck (ns1 rfl) (s_lam (g0 := 30) ck hG hroom rfl rfl TB hcode hmT hu (LamX.lamS_by rfl) rfl (fun _ _ _ _ _ => rfl) (fun A11 o11 s11 H11 E11 f11 g11 hr11 tk11 => have lk11 := hlk _ A11 o11 s11 H11 E11 f11 g11 hr11 tk11; (s_call (f := 17) lk11 kf17 rfl rfl rfl (nsA rfl) (a_cons lk11 (ns1 rfl) (g_ix lk11 (fun _ _ => rfl) (s_var lk11 rfl (.inr (.inr rfl)) rfl rfl) g_int) a_nil)))) (a_cons ck (ns1 rfl) (s_call (f := 28) ck kf28 rfl rfl rfl (nsA rfl) (a_cons ck (ns1 rfl) (g_ix ck (fun _ _ => rfl) (s_var ck rfl (.inr (.inl rfl)) rfl rfl) g_int) a_nil)) a_nil))) (fun _ => rfl))) (p_cons ck (p_ret ck g_bl)
 p_nil) p_nil)
 (p_cons ck (p_if ck (t_not ck (t_val ck (s_call (f := 23) ck kf23 rfl rfl rfl (nsA rfl) (a_cons ck (ns1 rfl) (s_lam (g0 := 30) ck hG hroom rfl rfl TB hcode hmT hu (LamX.lamS_by rfl) rfl (fun _ _ _ _ _ => rfl) (fun A12 o12 s12 H12 E12 f12 g12 hr12 tk12 => have lk12 := hlk _ A12 o12 s12 H12 E12 f12 g12 hr12 tk12; (s_call (f := 19) lk12 kf19 rfl rfl rfl (nsA rfl) (a_cons lk12 (ns1 rfl) (g_ix lk12 (fun _ _ => rfl) (s_var lk12 rfl (.inr (.inr rfl)) rfl rfl) g_int) a_nil)))) (a_cons ck (ns1 rfl) (s_call (f := 29) ck kf29 rfl rfl rfl (nsA rfl) (a_cons ck (ns1 rfl) (g_ix ck (fun _ _ => rfl) (s_var ck rfl (.inr (.inl rfl)) rfl rfl) g_int) a_nil)) a_nil))) (fun _ => rfl))) (p_cons ck (p_ret ck g_bl)
 p_nil) p_nil)
 p_nil)))) (fun _ => rfl))
 (p_cons ck (p_asg ck (s_set ck (i := 8) rfl (.inr rfl) (.inl rfl) (by rfl) (s_call (f := 22) ck kf22 rfl rfl rfl (nsA rfl) (a_cons ck (ns1 rfl) (s_var ck rfl (.inr (.inl rfl)) rfl rfl) (a_cons ck (ns1 rfl) (s_lst ck (by decide) (a_cons ck (ns1 rfl) g_non (a_cons ck (ns1 rfl) g_int (a_cons ck (ns1 rfl) (s_tup ck (by decide) a_nil) (a_cons ck (ns1 rfl) (s_lst ck (by decide) (a_cons ck (ns1 rfl) (g_ix ck (fun _ _ => rfl) (s_var ck rfl (.inr (.inl rfl)) rfl rfl) g_int) a_nil)) (a_cons ck (ns1 rfl) (s_dct0 ck) (a_cons ck (ns1 rfl) g_bl a_nil))))))) a_nil)))))
 (p_cons ck (p_new ck (s_set ck (i := 6) rfl (.inl rfl) (.inr rfl) (by rfl) (s_lst ck (by decide) (a_cons ck (ns1 rfl) (s_lam (g0 := 30) ck hG hroom rfl rfl TB hcode hmT hu (LamX.lamS_by rfl) rfl (fun _ _ _ _ _ => rfl) (fun A13 o13 s13 H13 E13 f13 g13 hr13 tk13 => have lk13 := hlk _ A13 o13 s13 H13 E13 f13 g13 hr13 tk13; (s_call (f := 13) lk13 kf13 rfl rfl rfl (nsA rfl) (a_cons lk13 (ns1 rfl) (s_var lk13 rfl (.inr (.inr rfl)) rfl rfl) a_nil)))) a_nil))))
 (p_cons ck (p_expr ck (s_app ck rfl (.inl rfl) rfl rfl (ns1 rfl) rfl rfl (s_lam (g0 := 30) ck hG hroom rfl rfl TB hcode hmT hu (LamX.lamS_by rfl) rfl (fun _ _ _ _ _ => rfl) (fun A14 o14 s14 H14 E14 f14 g14 hr14 tk14 => have lk14 := hlk _ A14 o14 s14 H14 E14 f14 g14 hr14 tk14; (s_call (f := 17) lk14 kf17 rfl rfl rfl (nsA rfl) (a_cons lk14 (ns1 rfl) (s_var lk14 rfl (.inr (.inr rfl)) rfl rfl) a_nil))))) (by rfl))
 (p_cons ck (p_expr ck (s_app ck rfl (.inl rfl) rfl rfl (ns1 rfl) rfl rfl (s_lam (g0 := 30) ck hG hroom rfl rfl TB hcode hmT hu (LamX.lamS_by rfl) rfl (fun _ _ _ _ _ => rfl) (fun A15 o15 s15 H15 E15 f15 g15 hr15 tk15 => have lk15 := hlk _ A15 o15 s15 H15 E15 f15 g15 hr15 tk15; (s_call (f := 19) lk15 kf19 rfl rfl rfl (nsA rfl) (a_cons lk15 (ns1 rfl) (s_var lk15 rfl (.inr (.inr rfl)) rfl rfl) a_nil))))) (by rfl))
 (p_cons ck (p_expr ck (s_app ck rfl (.inl rfl) rfl rfl (ns1 rfl) rfl rfl (s_lam (g0 := 30) ck hG hroom rfl rfl TB hcode hmT hu (LamX.lamS_by rfl) rfl (fun _ _ _ _ _ => rfl) (fun A16 o16 s16 H16 E16 f16 g16 hr16 tk16 => have lk16 := hlk _ A16 o16 s16 H16 E16 f16 g16 hr16 tk16; (s_call (f := 10) lk16 kf10 rfl rfl rfl (nsA rfl) (a_cons lk16 (ns1 rfl) (s_call (f := 22) lk16 kf22 rfl rfl rfl (nsA rfl) (a_cons lk16 (ns1 rfl) (s_var lk16 rfl (.inr (.inr rfl)) rfl rfl) (a_cons lk16 (ns1 rfl) (s_lst lk16 (by decide) (a_cons lk16 (ns1 rfl) (s_var lk16 rfl (.inr (.inr rfl)) rfl rfl) (a_cons lk16 (ns1 rfl) (s_var lk16 rfl (.inr (.inr rfl)) rfl rfl) (a_cons lk16 (ns1 rfl) (g_ix lk16 (fun _ _ => rfl) (s_var lk16 rfl (.inr (.inr rfl)) rfl rfl) g_int) a_nil)))) a_nil))) a_nil))))) (by rfl))
 (p_cons ck (p_asg ck (s_set ck (i := 7) rfl (.inr rfl) (.inl rfl) (by rfl) (s_call (f := 22) ck kf22 rfl rfl rfl (nsA rfl) (a_cons ck (ns1 rfl) (s_var ck rfl (.inr (.inl rfl)) rfl rfl) (a_cons ck (ns1 rfl) (s_lst ck (by decide) (a_cons ck (ns1 rfl) (s_var ck rfl (.inr (.inl rfl)) rfl rfl) (a_cons ck (ns1 rfl) (s_tup ck (by decide) (a_cons ck (ns1 rfl) (s_tup ck (by decide) (a_cons ck (ns1 rfl) g_int (a_cons ck (ns1 rfl) g_int a_nil))) (a_cons ck (ns1 rfl) (g_mul ck (s_tup ck (by decide) (a_cons ck (ns1 rfl) g_int a_nil)) g_int) a_nil))) (a_cons ck (ns1 rfl) (s_tup ck (by decide) (a_cons ck (ns1 rfl) (s_tup ck (by decide) (a_cons ck (ns1 rfl) g_int a_nil)) (a_cons ck (ns1 rfl) (s_tup ck (by decide) (a_cons ck (ns1 rfl) g_int (a_cons ck (ns1 rfl) g_int a_nil))) a_nil))) (a_cons ck (ns1 rfl) (s_tup ck (by decide) (a_cons ck (ns1 rfl) (s_tup ck (by decide) (a_cons ck (ns1 rfl) g_int a_nil)) (a_cons ck (ns1 rfl) (s_tup ck (by decide) (a_cons ck (ns1 rfl) g_int (a_cons ck (ns1 rfl) g_int (a_cons ck (ns1 rfl) g_int a_nil)))) a_nil))) a_nil))))) a_nil)))))
 (p_cons ck (p_expr ck (s_app ck rfl (.inl rfl) rfl rfl (ns1 rfl) rfl rfl (s_lam (g0 := 30) ck hG hroom rfl rfl TB hcode hmT hu (LamX.lamS_by rfl) rfl (fun _ _ _ _ _ => rfl) (fun A17 o17 s17 H17 E17 f17 g17 hr17 tk17 => have lk17 := hlk _ A17 o17 s17 H17 E17 f17 g17 hr17 tk17; (s_call (f := 15) lk17 kf15 rfl rfl rfl (nsA rfl) (a_cons lk17 (ns1 rfl) (s_var lk17 rfl (.inr (.inr rfl)) rfl rfl) a_nil))))) (by rfl))
 (p_cons ck (p_expr ck (s_app ck rfl (.inl rfl) rfl rfl (ns1 rfl) rfl rfl (s_lam (g0 := 30) ck hG hroom rfl rfl TB hcode hmT hu (LamX.lamS_by rfl) rfl (fun _ _ _ _ _ => rfl) (fun A18 o18 s18 H18 E18 f18 g18 hr18 tk18 => have lk18 := hlk _ A18 o18 s18 H18 E18 f18 g18 hr18 tk18; (s_call (f := 18) lk18 kf18 rfl rfl rfl (nsA rfl) (a_cons lk18 (ns1 rfl) (s_call (f := 22) lk18 kf22 rfl rfl rfl (nsA rfl) (a_cons lk18 (ns1 rfl) (s_var lk18 rfl (.inr (.inr rfl)) rfl rfl) (a_cons lk18 (ns1 rfl) (s_lst lk18 (by decide) (a_cons lk18 (ns1 rfl) (s_var lk18 rfl (.inr (.inr rfl)) rfl rfl) (a_cons lk18 (ns1 rfl) (g_mul lk18 (s_tup lk18 (by decide) (a_cons lk18 (ns1 rfl) g_int a_nil)) g_int) (a_cons lk18 (ns1 rfl) (s_tup lk18 (by decide) (a_cons lk18 (ns1 rfl) g_int a_nil)) (a_cons lk18 (ns1 rfl) (s_tup lk18 (by decide) (a_cons lk18 (ns1 rfl) g_bl a_nil)) (a_cons lk18 (ns1 rfl) (s_lst lk18 (by decide) (a_cons lk18 (ns1 rfl) g_int a_nil)) (a_cons lk18 (ns1 rfl) g_str a_nil))))))) a_nil))) a_nil))))) (by rfl))
 (p_cons ck (p_ret ck (g_cmp ck (k_eq ck) (by first | rfl | exact nobehind _ (by decide) (by decide)) (s_var ck rfl (.inl rfl) rfl rfl) (g_add ck (g_mul ck (s_lst ck (by decide) (a_cons ck (ns1 rfl) (s_tup ck (by decide) (a_cons ck (ns1 rfl) g_str (a_cons ck (ns1 rfl) g_int a_nil))) a_nil)) g_int) (s_lst ck (by decide) (a_cons ck (ns1 rfl) (s_tup ck (by decide) (a_cons ck (ns1 rfl) g_str (a_cons ck (ns1 rfl) g_int a_nil))) (a_cons ck (ns1 rfl) (s_tup ck (by decide) (a_cons ck (ns1 rfl) g_str (a_cons ck (ns1 rfl) g_int a_nil))) (a_cons ck (ns1 rfl) (s_tup ck (by decide) (a_cons ck (ns1 rfl) g_str (a_cons ck (ns1 rfl) g_int a_nil))) a_nil)))))))
 p_nil))))))))))))))))))))

abbrev st33 : Stmt := top 49
theorem bd33 {P : Program} {w : World} {K : PySem.W.Frag} {mg : Str → Option Value} {base : Heap} {T : List (Addr × Str)} {C : Cl} {Θ : Pm} {fa : Addr} {cdv : Value} {A : Around} {outer : List PySem.Env} {s : Shared} {H : Hp} {E : XK} (kf10 : C.kf 10 = true) (kf13 : C.kf 13 = true) (kf20 : C.kf 20 = true) (kf32 : C.kf 32 = true) (km6 : C.km 6 = true)
    {kq : Nat} (hE : EqG (nm T) C P w K mg base kq 6) (hrq : Room (kq + 1) (cx P w K mg base n33 "law" st33 fa cdv A outer s H E).A)
    (ck : Ck (nm T) C Θ (cx P w K mg base n33 "law" st33 fa cdv A outer s H E) (we E) false) (hpo : PassesOwn (model P w) (cx P w K mg base n33 "law" st33 fa cdv A outer s H E).A (cx P w K mg base n33 "law" st33 fa cdv A outer s H E).env (cx P w K mg base n33 "law" st33 fa cdv A outer s H E).xe) :
    PSs (cx P w K mg base n33 "law" st33 fa cdv A outer s H E) (defBody st33) (tS (nm T) C Θ (cx P w K mg base n33 "law" st33 fa cdv A outer s H E) (we E) ir33) :=
  (p_cons ck (p_new ck (s_set ck (i := 1) rfl (.inr rfl) (.inl rfl) (by rfl) (s_call (f := 20) ck kf20 rfl rfl rfl (nsA rfl) (a_cons ck (ns1 rfl) (s_var ck rfl (.inl rfl) rfl rfl) a_nil))))
 (p_cons ck (p_asg ck (s_set ck (i := 2) rfl (.inl rfl) (.inr rfl) (by rfl) (s_mk (c := 6) ck km6 rfl rfl rfl (nsA rfl) (a_cons ck (ns1 rfl) (s_tup ck (by decide) (a_cons ck (ns1 rfl) (s_tup ck (by decide) (a_cons ck (ns1 rfl) g_int (a_cons ck (ns1 rfl) g_int (a_cons ck (ns1 rfl) g_int (a_cons ck (ns1 rfl) g_int a_nil))))) (a_cons ck (ns1 rfl) (s_tup ck (by decide) (a_cons ck (ns1 rfl) g_int (a_cons ck (ns1 rfl) g_int (a_cons ck (ns1 rfl) g_int (a_cons ck (ns1 rfl) g_int a_nil))))) a_nil))) a_nil))))
 (p_cons ck (p_if ck (PW.pt (w_or ck (gt_cmp ck (k_ne ck) (by first | rfl | exact nobehind _ (by decide) (by decide)) (s_call (f := 10) ck kf10 rfl rfl rfl (nsA rfl) (a_cons ck (ns1 rfl) (s_var ck rfl (.inl rfl) rfl rfl) a_nil)) g_str) (pw_or1 (t_neo ck (hE ) hrq (by first | rfl | exact nobehind _ (by decide) (by decide)) (s_call (f := 13) ck kf13 rfl rfl rfl (nsA rfl) (a_cons ck (ns1 rfl) g_str a_nil)) (s_var ck rfl (.inl rfl) rfl rfl))))) (p_cons ck (p_ret ck g_bl)
 p_nil) p_nil)
 (p_cons ck (p_ret ck (g_all ck rfl rfl (s_comp ck (own := [("turn", 3)]) (s_rng ck rfl (ns1 rfl) g_int) (blkOk_by rfl) (by decide) (fun s1 H1 Ca1 cl1 fp1 => (pg_name (i := 3) (ck.blk s1 H1 _ _ fp1).nd rfl (.inl rfl) (.inr rfl))) (fun s1 H1 Ca1 cl1 fp1 => (pts_nil.imp fun _ _ _ h => tT_yes h)) (fun s1 H1 Ca1 cl1 fp1 => (s_call (f := 32) (ck.blk s1 H1 _ _ fp1) kf32 rfl rfl rfl (nsA rfl) (a_cons (ck.blk s1 H1 _ _ fp1) (ns1 rfl) (s_var (ck.blk s1 H1 _ _ fp1) rfl (.inr (.inl rfl)) rfl rfl) a_nil))) (fun _ => rfl))))
 p_nil))))

abbrev st36 : Stmt := inCls (top 15) 0
theorem bd36 {P : Program} {w : World} {K : PySem.W.Frag} {mg : Str → Option Value} {base : Heap} {T : List (Addr × Str)} {C : Cl} {Θ : Pm} {fa : Addr} {cdv : Value} {A : Around} {outer : List PySem.Env} {s : Shared} {H : Hp} {E : XK} (kf2 : C.kf 2 = true)
    (ck : Ck (nm T) C Θ (cx P w K mg base n36 "Net.__init__" st36 fa cdv A outer s H E) (we E) false) (hpo : PassesOwn (model P w) (cx P w K mg base n36 "Net.__init__" st36 fa cdv A outer s H E).A (cx P w K mg base n36 "Net.__init__" st36 fa cdv A outer s H E).env (cx P w K mg base n36 "Net.__init__" st36 fa cdv A outer s H E).xe) :
    PSs (cx P w K mg base n36 "Net.__init__" st36 fa cdv A outer s H E) (defBody st36) (tS (nm T) C Θ (cx P w K mg base n36 "Net.__init__" st36 fa cdv A outer s H E) (we E) ir36) :=
  (p_cons ck (p_if ck (PW.pt (w_or ck (t_not ck (t_val ck (s_isi1 ck rfl (ns1 rfl) (s_var ck rfl (.inl rfl) rfl rfl) (.bi .tuple "tuple" _ (by decide) rfl (by decide) PyProof.Rows.Boot.«tuple» (by decide) (by decide))) (fun _ => rfl))) (pw_or1 (t_not ck (gt_chain ck (k_le ck) (k_le ck) (by first | rfl | exact nobehind _ (by decide) (by decide)) g_int (g_len ck rfl rfl (s_var ck rfl (.inl rfl) rfl rfl)) (s_glb (g := 0) ck rfl rfl)))))) (p_cons ck (p_rse1 (c := 1) ck rfl rfl rfl rfl (ns1 rfl) g_str)
 p_nil) p_nil)
 (p_cons ck (p_for ck hpo (s_enum ck rfl (ns1 rfl) (s_var ck rfl (.inl rfl) rfl rfl)) (pg_tup (ck.calm rfl) (pgs_cons (pg_name (i := 2) ck.nd rfl (.inl rfl) (.inr rfl)) (pgs_cons (pg_name (i := 3) ck.nd rfl (.inl rfl) (.inr rfl)) pgs_nil))) (p_cons ck (p_if ck (t_not ck (t_val ck (s_call (f := 2) ck kf2 rfl rfl rfl (nsA rfl) (a_cons ck (ns1 rfl) (g_ix ck (fun _ _ => rfl) (s_glb (g := 1) ck rfl rfl) (g_len ck rfl rfl (s_var ck rfl (.inl rfl) rfl rfl))) (a_cons ck (ns1 rfl) (s_var ck rfl (.inl rfl) rfl rfl) a_nil))) (fun _ => rfl))) (p_cons ck (p_rse1 (c := 1) ck rfl rfl rfl rfl (ns1 rfl) (s_var ck rfl (.inl rfl) rfl rfl))
 p_nil) p_nil)
 p_nil) (fun _ => rfl))
 (p_cons ck (p_setf ck rfl (.inl rfl) rfl rfl rfl rfl (by show 2 < 1000; decide) (s_var ck rfl (.inl rfl) rfl rfl) (by rfl))
 (p_cons ck (p_setf ck rfl (.inl rfl) rfl rfl rfl rfl (by show 2 < 1000; decide) (g_len ck rfl rfl (s_var ck rfl (.inl rfl) rfl rfl)) (by rfl))
 p_nil))))

abbrev st37 : Stmt := inCls (top 15) 1
theorem bd37 {P : Program} {w : World} {K : PySem.W.Frag} {mg : Str → Option Value} {base : Heap} {T : List (Addr × Str)} {C : Cl} {Θ : Pm} {fa : Addr} {cdv : Value} {A : Around} {outer : List PySem.Env} {s : Shared} {H : Hp} {E : XK} 
    (ck : Ck (nm T) C Θ (cx P w K mg base n37 "Net.__eq__" st37 fa cdv A outer s H E) (we E) false) (hpo : PassesOwn (model P w) (cx P w K mg base n37 "Net.__eq__" st37 fa cdv A outer s H E).A (cx P w K mg base n37 "Net.__eq__" st37 fa cdv A outer s H E).env (cx P w K mg base n37 "Net.__eq__" st37 fa cdv A outer s H E).xe) :
    PSs (cx P w K mg base n37 "Net.__eq__" st37 fa cdv A outer s H E) (defBody st37) (tS (nm T) C Θ (cx P w K mg base n37 "Net.__eq__" st37 fa cdv A outer s H E) (we E) ir37) :=
  (p_cons ck (p_if ck (t_not ck (t_val ck (s_isi1 ck rfl (ns1 rfl) (s_var ck rfl (.inl rfl) rfl rfl) (.own 6 _ rfl rfl rfl)) (fun _ => rfl))) (p_cons ck (p_ret ck g_bl)
 p_nil) p_nil)
 (p_cons ck (p_ret ck (g_cmp ck (k_eq ck) (by first | rfl | exact nobehind _ (by decide) (by decide)) (s_fld (f := 2) ck (nc0 rfl) (s_var ck rfl (.inl rfl) rfl rfl)) (s_fld (f := 2) ck (nc0 rfl) (s_var ck rfl (.inl rfl) rfl rfl))))
 p_nil))

abbrev st38 : Stmt := inCls (top 15) 2
theorem bd38 {P : Program} {w : World} {K : PySem.W.Frag} {mg : Str → Option Value} {base : Heap} {T : List (Addr × Str)} {C : Cl} {Θ : Pm} {fa : Addr} {cdv : Value} {A : Around} {outer : List PySem.Env} {s : Shared} {H : Hp} {E : XK} (kf2 : C.kf 2 = true) (kf4 : C.kf 4 = true) (kf5 : C.kf 5 = true)
    (ck : Ck (nm T) C Θ (cx P w K mg base n38 "Net.__call__" st38 fa cdv A outer s H E) (we E) false) (hpo : PassesOwn (model P w) (cx P w K mg base n38 "Net.__call__" st38 fa cdv A outer s H E).A (cx P w K mg base n38 "Net.__call__" st38 fa cdv A outer s H E).env (cx P w K mg base n38 "Net.__call__" st38 fa cdv A outer s H E).xe) :
    PSs (cx P w K mg base n38 "Net.__call__" st38 fa cdv A outer s H E) (defBody st38) (tS (nm T) C Θ (cx P w K mg base n38 "Net.__call__" st38 fa cdv A outer s H E) (we E) ir38) :=
  (p_cons ck (p_if ck (t_not ck (t_val ck (s_call (f := 2) ck kf2 rfl rfl rfl (nsA rfl) (a_cons ck (ns1 rfl) (s_fld (f := 3) ck (nc0 rfl) (s_var ck rfl (.inl rfl) rfl rfl)) (a_cons ck (ns1 rfl) (s_var ck rfl (.inl rfl) rfl rfl) a_nil))) (fun _ => rfl))) (p_cons ck (p_rse0 (c := 2) ck rfl rfl rfl rfl)
 p_nil) p_nil)
 (p_cons ck (p_ret ck (s_call (f := 5) ck kf5 rfl rfl rfl (nsA rfl) (a_cons ck (ns1 rfl) (s_var ck rfl (.inl rfl) rfl rfl) (a_cons ck (ns1 rfl) (s_call (f := 4) ck kf4 rfl rfl rfl (nsA rfl) (a_cons ck (ns1 rfl) (s_var ck rfl (.inl rfl) rfl rfl) a_nil)) a_nil))))
 p_nil))

end Kd
set_option Elab.async false
set_option linter.all false
set_option maxRecDepth 100000
set_option maxHeartbeats 4000000
/-! Own work, printed by gen2.py: stages. -/
namespace Kd
open PySem PySem.Spec L2 Ev
def d0 : He.DefD := ⟨("is_integer", none), "is_integer", "is_integer", defArgs st0, defBody st0, defScope st0, [], []⟩
def d1 : He.DefD := ⟨("is_between", none), "is_between", "is_between", defArgs st1, defBody st1, defScope st1, [], []⟩
def d2 : He.DefD := ⟨("are_bits", none), "are_bits", "are_bits", defArgs st2, defBody st2, defScope st2, [], []⟩
def d3 : He.DefD := ⟨("is_lot", none), "is_lot", "is_lot", defArgs st3, defBody st3, defScope st3, [], []⟩
def d4 : He.DefD := ⟨("number_by", none), "number_by", "number_by", defArgs st4, defBody st4, defScope st4, [], []⟩
def d5 : He.DefD := ⟨("wanted", none), "wanted", "wanted", defArgs st5, defBody st5, defScope st5, [], []⟩
def d6 : He.DefD := ⟨("check_net", none), "check_net", "check_net", defArgs st6, defBody st6, defScope st6, [], []⟩
def d7 : He.DefD := ⟨("number_of", none), "number_of", "number_of", defArgs st7, defBody st7, defScope st7, [], []⟩
def d8 : He.DefD := ⟨("is_rule", none), "is_rule", "is_rule", defArgs st8, defBody st8, defScope st8, [], []⟩
def d9 : He.DefD := ⟨("bits_text", none), "bits_text", "bits_text", defArgs st9, defBody st9, defScope st9, [], []⟩
def d10 : He.DefD := ⟨("net_text", none), "net_text", "net_text", defArgs st10, defBody st10, defScope st10, [], []⟩
def d11 : He.DefD := ⟨("are_bit_signs", none), "are_bit_signs", "are_bit_signs", defArgs st11, defBody st11, defScope st11, [], []⟩
def d12 : He.DefD := ⟨("bits_told", none), "bits_told", "bits_told", defArgs st12, defBody st12, defScope st12, [], []⟩
def d13 : He.DefD := ⟨("read_net", none), "read_net", "read_net", defArgs st13, defBody st13, defScope st13, [], []⟩
def d14 : He.DefD := ⟨("lamps_text", none), "lamps_text", "lamps_text", defArgs st14, defBody st14, defScope st14, [], []⟩
def d15 : He.DefD := ⟨("rule_text", none), "rule_text", "rule_text", defArgs st15, defBody st15, defScope st15, [], []⟩
def d16 : He.DefD := ⟨("lamps_told", none), "lamps_told", "lamps_told", defArgs st16, defBody st16, defScope st16, [], []⟩
def d17 : He.DefD := ⟨("read_rule", none), "read_rule", "read_rule", defArgs st17, defBody st17, defScope st17, [], []⟩
def d18 : He.DefD := ⟨("state_text", none), "state_text", "state_text", defArgs st18, defBody st18, defScope st18, [], []⟩
def d19 : He.DefD := ⟨("read_state", none), "read_state", "read_state", defArgs st19, defBody st19, defScope st19, [], []⟩
def d20 : He.DefD := ⟨("_law_hand", none), "_law_hand", "_law_hand", defArgs st20, defBody st20, defScope st20, [], []⟩
def d21 : He.DefD := ⟨("_law_draw", none), "_law_draw", "_law_draw", defArgs st21, defBody st21, defScope st21, [], []⟩
def d22 : He.DefD := ⟨("_law_some", none), "_law_some", "_law_some", defArgs st22, defBody st22, defScope st22, [], []⟩
def d23 : He.DefD := ⟨("_law_is", none), "_law_is", "_law_is", defArgs st23, defBody st23, defScope st23, [], []⟩
def d24 : He.DefD := ⟨("_law_tables", none), "_law_tables", "_law_tables", defArgs st24, defBody st24, defScope st24, [], []⟩
def d25 : He.DefD := ⟨("_law_states", none), "_law_states", "_law_states", defArgs st25, defBody st25, defScope st25, [], []⟩
def d26 : He.DefD := ⟨("_law_size", none), "_law_size", "_law_size", defArgs st26, defBody st26, defScope st26, [], []⟩
def d27 : He.DefD := ⟨("_law_read", none), "_law_read", "_law_read", defArgs st27, defBody st27, defScope st27, [], []⟩
def d28 : He.DefD := ⟨("_law_rule", none), "_law_rule", "_law_rule", defArgs st28, defBody st28, defScope st28, [], []⟩
def d29 : He.DefD := ⟨("_law_state", none), "_law_state", "_law_state", defArgs st29, defBody st29, defScope st29, [], []⟩
def d30 : He.DefD := ⟨("_law_told", none), "_law_told", "_law_told", defArgs st30, defBody st30, defScope st30, [], []⟩
def d31 : He.DefD := ⟨("_law_spoiled", none), "_law_spoiled", "_law_spoiled", defArgs st31, defBody st31, defScope st31, [], []⟩
def d32 : He.DefD := ⟨("_law_is_right", none), "_law_is_right", "_law_is_right", defArgs st32, defBody st32, defScope st32, [], []⟩
def d33 : He.DefD := ⟨("law", none), "law", "law", defArgs st33, defBody st33, defScope st33, [], []⟩
abbrev st34 : Stmt := inCls (top 2) 0
def d34 : He.DefD := ⟨("BadNet", some "__init__"), "__init__", "BadNet.__init__", defArgs st34, defBody st34, defScope st34, [], []⟩
abbrev st35 : Stmt := inCls (top 5) 0
def d35 : He.DefD := ⟨("BadText", some "__init__"), "__init__", "BadText.__init__", defArgs st35, defBody st35, defScope st35, [], []⟩
def d36 : He.DefD := ⟨("Net", some "__init__"), "__init__", "Net.__init__", defArgs st36, defBody st36, defScope st36, [], []⟩
def d37 : He.DefD := ⟨("Net", some "__eq__"), "__eq__", "Net.__eq__", defArgs st37, defBody st37, defScope st37, [], []⟩
def d38 : He.DefD := ⟨("Net", some "__call__"), "__call__", "Net.__call__", defArgs st38, defBody st38, defScope st38, [], []⟩
def fnD : List He.DefD := [d0, d1, d2, d3, d4, d5, d6, d7, d8, d9, d10, d11, d12, d13, d14, d15, d16, d17, d18, d19, d20, d21, d22, d23, d24, d25, d26, d27, d28, d29, d30, d31, d32, d33, d34, d35, d36, d37, d38]
def gn0 : List Str := ["is_integer", "is_between", "are_bits", "is_lot", "number_by", "wanted", "check_net", "number_of", "is_rule", "bits_text", "net_text", "are_bit_signs"]
def gn1 : List Str := ["bits_told", "read_net", "lamps_text", "rule_text", "lamps_told", "read_rule", "state_text", "read_state", "_law_hand", "_law_draw", "_law_some", "_law_is"]
def gn2 : List Str := ["_law_tables", "_law_states", "_law_size", "_law_read", "_law_rule", "_law_state", "_law_told", "_law_spoiled", "_law_is_right", "law", "NetError", "BadNet"]
def gn3 : List Str := ["NoState", "NoNet", "BadText", "NoRule", "Net"]
def gloN : List Str := gn0 ++ gn1 ++ gn2 ++ gn3
/-- what the head tells -/
structure Hd (K : PySem.W.Frag) (mg : Str → Option Value) : Prop where
  glo : ∀ x ∈ gloN, mg x = some (.ref (He.ga K x))
  defs : ∀ d ∈ fnD, ∃ fd, FunD K d.name d.qual d.params d.body d.scope (d.dvs K) (d.kws K) (He.fAd K d.at_) fd
  mk6 : Mk K (He.ga K "Net") (He.ma K (He.ga K "Net") "__init__")
  ne : PySem.W.findIn K (.ref (He.ga K "Net")) "__ne__" = some (some (.builtin "object.__ne__"))
  eq : PySem.W.findIn K (.ref (He.ga K "Net")) "__eq__" = some (some (.ref (He.ma K (He.ga K "Net") "__eq__")))
  isf : PySem.W.isFn K (.ref (He.ma K (He.ga K "Net") "__eq__")) = true
  mro : PySem.W.mroIn K (He.ga K "Net") (.type "object") = some true
section
variable {P : Program} {w : World} {K : PySem.W.Frag} {mg : Str → Option Value} {base : Heap} {T : List (Addr × Str)} {k : Nat}
theorem sc0 : FnScope n0 ["thing"] (defScope st0) := ⟨rfl, rfl, rfl, by decide +kernel, rfl, by decide +kernel, by decide +kernel⟩
theorem sg0 (X : Hd K mg) (h : Stg (nm T) Cs0 P w K mg base k) : Stg (nm T) Cs1 P w K mg base (k + 1) := by
  obtain ⟨fd, F⟩ := X.defs d0 (List.mem_of_getElem? (i := 0) rfl)
  have hm : mg ((nm T).fn 0) = some (.ref (He.fAd K d0.at_)) := X.glo "is_integer" (List.mem_of_getElem? (i := 0) rfl)
  exact h.add hm F.kp (F.bindsN (ps := ["thing"]) fun _ _ _ _ _ _ us hl => match us, hl with | [_], _ => rfl) (Stg.fn h F sc0 fun Θ cdv A outer s H E ck po => bd0  ck po)
theorem sc1 : FnScope n1 ["thing", "low", "high"] (defScope st1) := ⟨rfl, rfl, rfl, by decide +kernel, rfl, by decide +kernel, by decide +kernel⟩
theorem sg1 (X : Hd K mg) (h : Stg (nm T) Cs1 P w K mg base k) : Stg (nm T) Cs2 P w K mg base (k + 1) := by
  obtain ⟨fd, F⟩ := X.defs d1 (List.mem_of_getElem? (i := 1) rfl)
  have hm : mg ((nm T).fn 1) = some (.ref (He.fAd K d1.at_)) := X.glo "is_between" (List.mem_of_getElem? (i := 1) rfl)
  exact h.add hm F.kp (F.bindsN (ps := ["thing", "low", "high"]) fun _ _ _ _ _ _ us hl => match us, hl with | [_, _, _], _ => rfl) (Stg.fn h F sc1 fun Θ cdv A outer s H E ck po => bd1 rfl ck po)
theorem sc2 : FnScope n2 ["many", "thing"] (defScope st2) := ⟨rfl, rfl, rfl, by decide +kernel, rfl, by decide +kernel, by decide +kernel⟩
theorem sg2 (X : Hd K mg) (h : Stg (nm T) Cs2 P w K mg base k) : Stg (nm T) Cs3 P w K mg base (k + 1) := by
  obtain ⟨fd, F⟩ := X.defs d2 (List.mem_of_getElem? (i := 2) rfl)
  have hm : mg ((nm T).fn 2) = some (.ref (He.fAd K d2.at_)) := X.glo "are_bits" (List.mem_of_getElem? (i := 2) rfl)
  exact h.add hm F.kp (F.bindsN (ps := ["many", "thing"]) fun _ _ _ _ _ _ us hl => match us, hl with | [_, _], _ => rfl) (Stg.fn h F sc2 fun Θ cdv A outer s H E ck po => bd2 rfl ck po)
theorem sc3 : FnScope n3 ["limit", "thing"] (defScope st3) := ⟨rfl, rfl, rfl, by decide +kernel, rfl, by decide +kernel, by decide +kernel⟩
theorem sg3 (X : Hd K mg) (h : Stg (nm T) Cs3 P w K mg base k) : Stg (nm T) Cs4 P w K mg base (k + 1) := by
  obtain ⟨fd, F⟩ := X.defs d3 (List.mem_of_getElem? (i := 3) rfl)
  have hm : mg ((nm T).fn 3) = some (.ref (He.fAd K d3.at_)) := X.glo "is_lot" (List.mem_of_getElem? (i := 3) rfl)
  exact h.add hm F.kp (F.bindsN (ps := ["limit", "thing"]) fun _ _ _ _ _ _ us hl => match us, hl with | [_, _], _ => rfl) (Stg.fn h F sc3 fun Θ cdv A outer s H E ck po => bd3 rfl ck po)
theorem sc4 : FnScope n4 ["bits"] (defScope st4) := ⟨rfl, rfl, rfl, by decide +kernel, rfl, by decide +kernel, by decide +kernel⟩
theorem sg4 (X : Hd K mg) (h : Stg (nm T) Cs4 P w K mg base k) : Stg (nm T) Cs5 P w K mg base (k + 1) := by
  obtain ⟨fd, F⟩ := X.defs d4 (List.mem_of_getElem? (i := 4) rfl)
  have hm : mg ((nm T).fn 4) = some (.ref (He.fAd K d4.at_)) := X.glo "number_by" (List.mem_of_getElem? (i := 4) rfl)
  exact h.add hm F.kp (F.bindsN (ps := ["bits"]) fun _ _ _ _ _ _ us hl => match us, hl with | [_], _ => rfl) (Stg.fn h F sc4 fun Θ cdv A outer s H E ck po => bd4  ck po)
theorem sc5 : FnScope n5 ["net", "number"] (defScope st5) := ⟨rfl, rfl, rfl, by decide +kernel, rfl, by decide +kernel, by decide +kernel⟩
theorem sg5 (X : Hd K mg) (h : Stg (nm T) Cs5 P w K mg base k) : Stg (nm T) Cs6 P w K mg base (k + 1) := by
  obtain ⟨fd, F⟩ := X.defs d5 (List.mem_of_getElem? (i := 5) rfl)
  have hm : mg ((nm T).fn 5) = some (.ref (He.fAd K d5.at_)) := X.glo "wanted" (List.mem_of_getElem? (i := 5) rfl)
  exact h.add hm F.kp (F.bindsN (ps := ["net", "number"]) fun _ _ _ _ _ _ us hl => match us, hl with | [_, _], _ => rfl) (Stg.fn h F sc5 fun Θ cdv A outer s H E ck po => bd5  ck po)
theorem sc6 : FnScope n6 ["thing"] (defScope st6) := ⟨rfl, rfl, rfl, by decide +kernel, rfl, by decide +kernel, by decide +kernel⟩
theorem sg6 (X : Hd K mg) (h : Stg (nm T) Cs6 P w K mg base k) : Stg (nm T) Cs7 P w K mg base (k + 1) := by
  obtain ⟨fd, F⟩ := X.defs d6 (List.mem_of_getElem? (i := 6) rfl)
  have hm : mg ((nm T).fn 6) = some (.ref (He.fAd K d6.at_)) := X.glo "check_net" (List.mem_of_getElem? (i := 6) rfl)
  exact h.add hm F.kp (F.bindsN (ps := ["thing"]) fun _ _ _ _ _ _ us hl => match us, hl with | [_], _ => rfl) (Stg.fn h F sc6 fun Θ cdv A outer s H E ck po => bd6  ck po)
theorem sc7 : FnScope n7 ["state"] (defScope st7) := ⟨rfl, rfl, rfl, by decide +kernel, rfl, by decide +kernel, by decide +kernel⟩
theorem sg7 (X : Hd K mg) (h : Stg (nm T) Cs7 P w K mg base k) : Stg (nm T) Cs8 P w K mg base (k + 1) := by
  obtain ⟨fd, F⟩ := X.defs d7 (List.mem_of_getElem? (i := 7) rfl)
  have hm : mg ((nm T).fn 7) = some (.ref (He.fAd K d7.at_)) := X.glo "number_of" (List.mem_of_getElem? (i := 7) rfl)
  exact h.add hm F.kp (F.bindsN (ps := ["state"]) fun _ _ _ _ _ _ us hl => match us, hl with | [_], _ => rfl) (Stg.fn h F sc7 fun Θ cdv A outer s H E ck po => bd7 rfl rfl ck po)
theorem sc8 : FnScope n8 ["many", "thing"] (defScope st8) := ⟨rfl, rfl, rfl, by decide +kernel, rfl, by decide +kernel, by decide +kernel⟩
theorem sg8 (X : Hd K mg) (h : Stg (nm T) Cs8 P w K mg base k) : Stg (nm T) Cs9 P w K mg base (k + 1) := by
  obtain ⟨fd, F⟩ := X.defs d8 (List.mem_of_getElem? (i := 8) rfl)
  have hm : mg ((nm T).fn 8) = some (.ref (He.fAd K d8.at_)) := X.glo "is_rule" (List.mem_of_getElem? (i := 8) rfl)
  exact h.add hm F.kp (F.bindsN (ps := ["many", "thing"]) fun _ _ _ _ _ _ us hl => match us, hl with | [_, _], _ => rfl) (Stg.fn h F sc8 fun Θ cdv A outer s H E ck po => bd8 rfl rfl ck po)
theorem sc9 : FnScope n9 ["bits"] (defScope st9) := ⟨rfl, rfl, rfl, by decide +kernel, rfl, by decide +kernel, by decide +kernel⟩
theorem sg9 (X : Hd K mg) (h : Stg (nm T) Cs9 P w K mg base k) : Stg (nm T) Cs10 P w K mg base (k + 1) := by
  obtain ⟨fd, F⟩ := X.defs d9 (List.mem_of_getElem? (i := 9) rfl)
  have hm : mg ((nm T).fn 9) = some (.ref (He.fAd K d9.at_)) := X.glo "bits_text" (List.mem_of_getElem? (i := 9) rfl)
  exact h.add hm F.kp (F.bindsN (ps := ["bits"]) fun _ _ _ _ _ _ us hl => match us, hl with | [_], _ => rfl) (Stg.fn h F sc9 fun Θ cdv A outer s H E ck po => bd9  ck po)
theorem sc10 : FnScope n10 ["net"] (defScope st10) := ⟨rfl, rfl, rfl, by decide +kernel, rfl, by decide +kernel, by decide +kernel⟩
theorem sg10 (X : Hd K mg) (h : Stg (nm T) Cs10 P w K mg base k) : Stg (nm T) Cs11 P w K mg base (k + 1) := by
  obtain ⟨fd, F⟩ := X.defs d10 (List.mem_of_getElem? (i := 10) rfl)
  have hm : mg ((nm T).fn 10) = some (.ref (He.fAd K d10.at_)) := X.glo "net_text" (List.mem_of_getElem? (i := 10) rfl)
  exact h.add hm F.kp (F.bindsN (ps := ["net"]) fun _ _ _ _ _ _ us hl => match us, hl with | [_], _ => rfl) (Stg.fn h F sc10 fun Θ cdv A outer s H E ck po => bd10 rfl rfl ck po)
theorem sc11 : FnScope n11 ["row", "many"] (defScope st11) := ⟨rfl, rfl, rfl, by decide +kernel, rfl, by decide +kernel, by decide +kernel⟩
theorem sg11 (X : Hd K mg) (h : Stg (nm T) Cs11 P w K mg base k) : Stg (nm T) Cs12 P w K mg base (k + 1) := by
  obtain ⟨fd, F⟩ := X.defs d11 (List.mem_of_getElem? (i := 11) rfl)
  have hm : mg ((nm T).fn 11) = some (.ref (He.fAd K d11.at_)) := X.glo "are_bit_signs" (List.mem_of_getElem? (i := 11) rfl)
  exact h.add hm F.kp (F.bindsN (ps := ["row", "many"]) fun _ _ _ _ _ _ us hl => match us, hl with | [_, _], _ => rfl) (Stg.fn h F sc11 fun Θ cdv A outer s H E ck po => bd11  ck po)
theorem sc12 : FnScope n12 ["row"] (defScope st12) := ⟨rfl, rfl, rfl, by decide +kernel, rfl, by decide +kernel, by decide +kernel⟩
theorem sg12 (X : Hd K mg) (h : Stg (nm T) Cs12 P w K mg base k) : Stg (nm T) Cs13 P w K mg base (k + 1) := by
  obtain ⟨fd, F⟩ := X.defs d12 (List.mem_of_getElem? (i := 12) rfl)
  have hm : mg ((nm T).fn 12) = some (.ref (He.fAd K d12.at_)) := X.glo "bits_told" (List.mem_of_getElem? (i := 12) rfl)
  exact h.add hm F.kp (F.bindsN (ps := ["row"]) fun _ _ _ _ _ _ us hl => match us, hl with | [_], _ => rfl) (Stg.fn h F sc12 fun Θ cdv A outer s H E ck po => bd12  ck po)
theorem sc14 : FnScope n14 ["lamps"] (defScope st14) := ⟨rfl, rfl, rfl, by decide +kernel, rfl, by decide +kernel, by decide +kernel⟩
theorem sg14 (X : Hd K mg) (h : Stg (nm T) Cs13 P w K mg base k) : Stg (nm T) Cs14 P w K mg base (k + 1) := by
  obtain ⟨fd, F⟩ := X.defs d14 (List.mem_of_getElem? (i := 14) rfl)
  have hm : mg ((nm T).fn 14) = some (.ref (He.fAd K d14.at_)) := X.glo "lamps_text" (List.mem_of_getElem? (i := 14) rfl)
  exact h.add hm F.kp (F.bindsN (ps := ["lamps"]) fun _ _ _ _ _ _ us hl => match us, hl with | [_], _ => rfl) (Stg.fn h F sc14 fun Θ cdv A outer s H E ck po => bd14 rfl ck po)
theorem sc15 : FnScope n15 ["rule"] (defScope st15) := ⟨rfl, rfl, rfl, by decide +kernel, rfl, by decide +kernel, by decide +kernel⟩
theorem sg15 (X : Hd K mg) (h : Stg (nm T) Cs14 P w K mg base k) : Stg (nm T) Cs15 P w K mg base (k + 1) := by
  obtain ⟨fd, F⟩ := X.defs d15 (List.mem_of_getElem? (i := 15) rfl)
  have hm : mg ((nm T).fn 15) = some (.ref (He.fAd K d15.at_)) := X.glo "rule_text" (List.mem_of_getElem? (i := 15) rfl)
  exact h.add hm F.kp (F.bindsN (ps := ["rule"]) fun _ _ _ _ _ _ us hl => match us, hl with | [_], _ => rfl) (Stg.fn h F sc15 fun Θ cdv A outer s H E ck po => bd15 rfl rfl rfl ck po)
theorem sc16 : FnScope n16 ["word"] (defScope st16) := ⟨rfl, rfl, rfl, by decide +kernel, rfl, by decide +kernel, by decide +kernel⟩
theorem sg16 (X : Hd K mg) (h : Stg (nm T) Cs15 P w K mg base k) : Stg (nm T) Cs16 P w K mg base (k + 1) := by
  obtain ⟨fd, F⟩ := X.defs d16 (List.mem_of_getElem? (i := 16) rfl)
  have hm : mg ((nm T).fn 16) = some (.ref (He.fAd K d16.at_)) := X.glo "lamps_told" (List.mem_of_getElem? (i := 16) rfl)
  exact h.add hm F.kp (F.bindsN (ps := ["word"]) fun _ _ _ _ _ _ us hl => match us, hl with | [_], _ => rfl) (Stg.fn h F sc16 fun Θ cdv A outer s H E ck po => bd16  ck po)
theorem sc17 : FnScope n17 ["text"] (defScope st17) := ⟨rfl, rfl, rfl, by decide +kernel, rfl, by decide +kernel, by decide +kernel⟩
theorem sg17 (X : Hd K mg) (h : Stg (nm T) Cs16 P w K mg base k) : Stg (nm T) Cs17 P w K mg base (k + 1) := by
  obtain ⟨fd, F⟩ := X.defs d17 (List.mem_of_getElem? (i := 17) rfl)
  have hm : mg ((nm T).fn 17) = some (.ref (He.fAd K d17.at_)) := X.glo "read_rule" (List.mem_of_getElem? (i := 17) rfl)
  exact h.add hm F.kp (F.bindsN (ps := ["text"]) fun _ _ _ _ _ _ us hl => match us, hl with | [_], _ => rfl) (Stg.fn h F sc17 fun Θ cdv A outer s H E ck po => bd17 rfl rfl rfl ck po)
theorem sc18 : FnScope n18 ["state"] (defScope st18) := ⟨rfl, rfl, rfl, by decide +kernel, rfl, by decide +kernel, by decide +kernel⟩
theorem sg18 (X : Hd K mg) (h : Stg (nm T) Cs17 P w K mg base k) : Stg (nm T) Cs18 P w K mg base (k + 1) := by
  obtain ⟨fd, F⟩ := X.defs d18 (List.mem_of_getElem? (i := 18) rfl)
  have hm : mg ((nm T).fn 18) = some (.ref (He.fAd K d18.at_)) := X.glo "state_text" (List.mem_of_getElem? (i := 18) rfl)
  exact h.add hm F.kp (F.bindsN (ps := ["state"]) fun _ _ _ _ _ _ us hl => match us, hl with | [_], _ => rfl) (Stg.fn h F sc18 fun Θ cdv A outer s H E ck po => bd18 rfl rfl ck po)
theorem sc19 : FnScope n19 ["text"] (defScope st19) := ⟨rfl, rfl, rfl, by decide +kernel, rfl, by decide +kernel, by decide +kernel⟩
theorem sg19 (X : Hd K mg) (h : Stg (nm T) Cs18 P w K mg base k) : Stg (nm T) Cs19 P w K mg base (k + 1) := by
  obtain ⟨fd, F⟩ := X.defs d19 (List.mem_of_getElem? (i := 19) rfl)
  have hm : mg ((nm T).fn 19) = some (.ref (He.fAd K d19.at_)) := X.glo "read_state" (List.mem_of_getElem? (i := 19) rfl)
  exact h.add hm F.kp (F.bindsN (ps := ["text"]) fun _ _ _ _ _ _ us hl => match us, hl with | [_], _ => rfl) (Stg.fn h F sc19 fun Θ cdv A outer s H E ck po => bd19 rfl rfl ck po)
theorem sc20 : FnScope n20 ["script"] (defScope st20) := ⟨rfl, rfl, rfl, by decide +kernel, rfl, by decide +kernel, by decide +kernel⟩
theorem sg20 (X : Hd K mg) (h : Stg (nm T) Cs19 P w K mg base k) : Stg (nm T) Cs20 P w K mg base (k + 1) := by
  obtain ⟨fd, F⟩ := X.defs d20 (List.mem_of_getElem? (i := 20) rfl)
  have hm : mg ((nm T).fn 20) = some (.ref (He.fAd K d20.at_)) := X.glo "_law_hand" (List.mem_of_getElem? (i := 20) rfl)
  exact h.add hm F.kp (F.bindsN (ps := ["script"]) fun _ _ _ _ _ _ us hl => match us, hl with | [_], _ => rfl) (Stg.fn h F sc20 fun Θ cdv A outer s H E ck po => bd20  ck po)
theorem sc21 : FnScope n21 ["hand", "many"] (defScope st21) := ⟨rfl, rfl, rfl, by decide +kernel, rfl, by decide +kernel, by decide +kernel⟩
theorem sg21 (X : Hd K mg) (h : Stg (nm T) Cs20 P w K mg base k) : Stg (nm T) Cs21 P w K mg base (k + 1) := by
  obtain ⟨fd, F⟩ := X.defs d21 (List.mem_of_getElem? (i := 21) rfl)
  have hm : mg ((nm T).fn 21) = some (.ref (He.fAd K d21.at_)) := X.glo "_law_draw" (List.mem_of_getElem? (i := 21) rfl)
  exact h.add hm F.kp (F.bindsN (ps := ["hand", "many"]) fun _ _ _ _ _ _ us hl => match us, hl with | [_, _], _ => rfl) (Stg.fn h F sc21 fun Θ cdv A outer s H E ck po => bd21  ck po)
theorem sc22 : FnScope n22 ["hand", "things"] (defScope st22) := ⟨rfl, rfl, rfl, by decide +kernel, rfl, by decide +kernel, by decide +kernel⟩
theorem sg22 (X : Hd K mg) (h : Stg (nm T) Cs21 P w K mg base k) : Stg (nm T) Cs22 P w K mg base (k + 1) := by
  obtain ⟨fd, F⟩ := X.defs d22 (List.mem_of_getElem? (i := 22) rfl)
  have hm : mg ((nm T).fn 22) = some (.ref (He.fAd K d22.at_)) := X.glo "_law_some" (List.mem_of_getElem? (i := 22) rfl)
  exact h.add hm F.kp (F.bindsN (ps := ["hand", "things"]) fun _ _ _ _ _ _ us hl => match us, hl with | [_, _], _ => rfl) (Stg.fn h F sc22 fun Θ cdv A outer s H E ck po => bd22 rfl ck po)
theorem sc23 : FnScope n23 ["got", "due"] (defScope st23) := ⟨rfl, rfl, rfl, by decide +kernel, rfl, by decide +kernel, by decide +kernel⟩
theorem sg23 (X : Hd K mg) (h : Stg (nm T) Cs22 P w K mg base k) : Stg (nm T) Cs23 P w K mg base (k + 17) := by
  obtain ⟨fd, F⟩ := X.defs d23 (List.mem_of_getElem? (i := 23) rfl)
  have hm : mg ((nm T).fn 23) = some (.ref (He.fAd K d23.at_)) := X.glo "_law_is" (List.mem_of_getElem? (i := 23) rfl)
  have R := Stg.fix h hm F.kp (F.bindsN (ps := ["got", "due"]) fun _ _ _ _ _ _ us hl => match us, hl with | [_, _], _ => rfl) F sc23 rfl (fun g Θ cdv A outer s H E ck po => bd23 rfl ck po) 8
  exact (h.le (m := k + 16) (by omega)).add hm F.kp (F.bindsN (ps := ["got", "due"]) fun _ _ _ _ _ _ us hl => match us, hl with | [_, _], _ => rfl) (R.mono (by omega))
theorem sc25 : FnScope n25 ["many"] (defScope st25) := ⟨rfl, rfl, rfl, by decide +kernel, rfl, by decide +kernel, by decide +kernel⟩
theorem sg25 (X : Hd K mg) (h : Stg (nm T) Cs23 P w K mg base k) : Stg (nm T) Cs24 P w K mg base (k + 1) := by
  obtain ⟨fd, F⟩ := X.defs d25 (List.mem_of_getElem? (i := 25) rfl)
  have hm : mg ((nm T).fn 25) = some (.ref (He.fAd K d25.at_)) := X.glo "_law_states" (List.mem_of_getElem? (i := 25) rfl)
  exact h.add hm F.kp (F.bindsN (ps := ["many"]) fun _ _ _ _ _ _ us hl => match us, hl with | [_], _ => rfl) (Stg.fn h F sc25 fun Θ cdv A outer s H E ck po => bd25  ck po)
theorem sc24 : FnScope n24 ["hand", "many"] (defScope st24) := ⟨rfl, rfl, rfl, by decide +kernel, rfl, by decide +kernel, by decide +kernel⟩
theorem sg24 (X : Hd K mg) (h : Stg (nm T) Cs24 P w K mg base k) : Stg (nm T) Cs25 P w K mg base (k + 1) := by
  obtain ⟨fd, F⟩ := X.defs d24 (List.mem_of_getElem? (i := 24) rfl)
  have hm : mg ((nm T).fn 24) = some (.ref (He.fAd K d24.at_)) := X.glo "_law_tables" (List.mem_of_getElem? (i := 24) rfl)
  exact h.add hm F.kp (F.bindsN (ps := ["hand", "many"]) fun _ _ _ _ _ _ us hl => match us, hl with | [_, _], _ => rfl) (Stg.fn h F sc24 fun Θ cdv A outer s H E ck po => bd24 rfl rfl ck po)
theorem sc26 : FnScope n26 ["many"] (defScope st26) := ⟨rfl, rfl, rfl, by decide +kernel, rfl, by decide +kernel, by decide +kernel⟩
theorem sg26 (X : Hd K mg) (h : Stg (nm T) Cs25 P w K mg base k) : Stg (nm T) Cs26 P w K mg base (k + 1) := by
  obtain ⟨fd, F⟩ := X.defs d26 (List.mem_of_getElem? (i := 26) rfl)
  have hm : mg ((nm T).fn 26) = some (.ref (He.fAd K d26.at_)) := X.glo "_law_size" (List.mem_of_getElem? (i := 26) rfl)
  exact h.add hm F.kp (F.bindsN (ps := ["many"]) fun _ _ _ _ _ _ us hl => match us, hl with | [_], _ => rfl) (Stg.fn h F sc26 fun Θ cdv A outer s H E ck po => bd26 rfl ck po)
theorem sc27 : FnScope n27 ["text"] (defScope st27) := ⟨rfl, rfl, rfl, by decide +kernel, rfl, by decide +kernel, by decide +kernel⟩
theorem sg27 (X : Hd K mg) (h : Stg (nm T) Cs26 P w K mg base k) : Stg (nm T) Cs27 P w K mg base (k + 1) := by
  obtain ⟨fd, F⟩ := X.defs d27 (List.mem_of_getElem? (i := 27) rfl)
  have hm : mg ((nm T).fn 27) = some (.ref (He.fAd K d27.at_)) := X.glo "_law_read" (List.mem_of_getElem? (i := 27) rfl)
  exact h.add hm F.kp (F.bindsN (ps := ["text"]) fun _ _ _ _ _ _ us hl => match us, hl with | [_], _ => rfl) (Stg.fn h F sc27 fun Θ cdv A outer s H E ck po => bd27 rfl ck po)
theorem sc28 : FnScope n28 ["text"] (defScope st28) := ⟨rfl, rfl, rfl, by decide +kernel, rfl, by decide +kernel, by decide +kernel⟩
theorem sg28 (X : Hd K mg) (h : Stg (nm T) Cs27 P w K mg base k) : Stg (nm T) Cs28 P w K mg base (k + 1) := by
  obtain ⟨fd, F⟩ := X.defs d28 (List.mem_of_getElem? (i := 28) rfl)
  have hm : mg ((nm T).fn 28) = some (.ref (He.fAd K d28.at_)) := X.glo "_law_rule" (List.mem_of_getElem? (i := 28) rfl)
  exact h.add hm F.kp (F.bindsN (ps := ["text"]) fun _ _ _ _ _ _ us hl => match us, hl with | [_], _ => rfl) (Stg.fn h F sc28 fun Θ cdv A outer s H E ck po => bd28 rfl ck po)
theorem sc29 : FnScope n29 ["text"] (defScope st29) := ⟨rfl, rfl, rfl, by decide +kernel, rfl, by decide +kernel, by decide +kernel⟩
theorem sg29 (X : Hd K mg) (h : Stg (nm T) Cs28 P w K mg base k) : Stg (nm T) Cs29 P w K mg base (k + 1) := by
  obtain ⟨fd, F⟩ := X.defs d29 (List.mem_of_getElem? (i := 29) rfl)
  have hm : mg ((nm T).fn 29) = some (.ref (He.fAd K d29.at_)) := X.glo "_law_state" (List.mem_of_getElem? (i := 29) rfl)
  exact h.add hm F.kp (F.bindsN (ps := ["text"]) fun _ _ _ _ _ _ us hl => match us, hl with | [_], _ => rfl) (Stg.fn h F sc29 fun Θ cdv A outer s H E ck po => bd29  ck po)
theorem sc31 : FnScope n31 ["hand", "text"] (defScope st31) := ⟨rfl, rfl, rfl, by decide +kernel, rfl, by decide +kernel, by decide +kernel⟩
theorem sg31 (X : Hd K mg) (h : Stg (nm T) Cs29 P w K mg base k) : Stg (nm T) Cs30 P w K mg base (k + 1) := by
  obtain ⟨fd, F⟩ := X.defs d31 (List.mem_of_getElem? (i := 31) rfl)
  have hm : mg ((nm T).fn 31) = some (.ref (He.fAd K d31.at_)) := X.glo "_law_spoiled" (List.mem_of_getElem? (i := 31) rfl)
  exact h.add hm F.kp (F.bindsN (ps := ["hand", "text"]) fun _ _ _ _ _ _ us hl => match us, hl with | [_, _], _ => rfl) (Stg.fn h F sc31 fun Θ cdv A outer s H E ck po => bd31 rfl rfl ck po)
theorem sc36 : FnScope n36 ["self", "tables"] (defScope st36) := ⟨rfl, rfl, rfl, by decide +kernel, rfl, by decide +kernel, by decide +kernel⟩
theorem sg36 (X : Hd K mg) (h : Stg (nm T) Cs30 P w K mg base k) : Stg (nm T) Cs31 P w K mg base (k + 2) := by
  obtain ⟨fd, F⟩ := X.defs d36 (List.mem_of_getElem? (i := 36) rfl)
  have hm : mg ((nm T).cl 6) = some (.ref (He.ga K "Net")) := X.glo "Net" (List.mem_of_getElem? (i := 40) rfl)
  exact (h.le (m := k + 1) (by omega)).addMk hm X.mk6 (F.bindsN (ps := ["self", "tables"]) fun _ _ _ _ _ _ us hl => match us, hl with | [_, _], _ => rfl) (Stg.fn h F sc36 fun Θ cdv A outer s H E ck po => bd36 rfl ck po)
theorem sc13 : FnScope n13 ["text"] (defScope st13) := ⟨rfl, rfl, rfl, by decide +kernel, rfl, by decide +kernel, by decide +kernel⟩
theorem sg13 (X : Hd K mg) (h : Stg (nm T) Cs31 P w K mg base k) : Stg (nm T) Cs32 P w K mg base (k + 1) := by
  obtain ⟨fd, F⟩ := X.defs d13 (List.mem_of_getElem? (i := 13) rfl)
  have hm : mg ((nm T).fn 13) = some (.ref (He.fAd K d13.at_)) := X.glo "read_net" (List.mem_of_getElem? (i := 13) rfl)
  exact h.add hm F.kp (F.bindsN (ps := ["text"]) fun _ _ _ _ _ _ us hl => match us, hl with | [_], _ => rfl) (Stg.fn h F sc13 fun Θ cdv A outer s H E ck po => bd13 rfl rfl rfl ck po)
theorem sc37 : FnScope n37 ["self", "other"] (defScope st37) := ⟨rfl, rfl, rfl, by decide +kernel, rfl, by decide +kernel, by decide +kernel⟩
theorem sg37 (X : Hd K mg) (h : Stg (nm T) Cs32 P w K mg base k) : Stg (nm T) Cs33 P w K mg base (k + 2) := by
  obtain ⟨fd, F⟩ := X.defs d37 (List.mem_of_getElem? (i := 37) rfl)
  exact (h.le (m := k + 2) (by omega)).same rfl rfl rfl rfl rfl rfl rfl rfl rfl
theorem sc32 : FnScope n32 ["hand"] (defScope st32) := ⟨rfl, rfl, rfl, by decide +kernel, rfl, by decide +kernel, by decide +kernel⟩
theorem sc33 : FnScope n33 ["script"] (defScope st33) := ⟨rfl, rfl, rfl, by decide +kernel, rfl, by decide +kernel, by decide +kernel⟩
theorem eqg (X : Hd K mg) (h : Stg (nm T) Cs32 P w K mg base k) {C : Cl} (hc : ∀ d e h, C.eqo 6 d e h = okOnly (g37 [.d d, .d e] h)) : EqG (nm T) C P w K mg base (k + 1) 6 := by
  obtain ⟨fd, F⟩ := X.defs d37 (List.mem_of_getElem? (i := 37) rfl)
  exact ⟨_, _, fd, _, g37, X.glo "Net" (List.mem_of_getElem? (i := 40) rfl), X.ne, X.eq, X.isf, X.mro, (F.bindsN (ps := ["self", "other"]) fun _ _ _ _ _ _ us hl => match us, hl with | [_, _], _ => rfl), Stg.fn h F sc37 (fun Θ cdv A outer s H E ck po => bd37  ck po), hc⟩
theorem sc30 : FnScope n30 ["call"] (defScope st30) := ⟨rfl, rfl, rfl, by decide +kernel, rfl, by decide +kernel, by decide +kernel⟩
theorem lamg (X : Hd K mg) {C : Cl} (h : Stg (nm T) C P w K mg base k) (hGT : ∀ t h, C.GT 30 t h = okOnly (run (Cb.withTh t) n30.length ir30 [.th] h)) (e1 : Cb.gl = C.gl) (e3 : Cb.nf = C.nf) (e4 : Cb.sub = C.sub) (e5 : Cb.kc = C.kc) (e6 : Cb.xfl = C.xfl) : LamG (nm T) C P w K mg base k 30 := by
  obtain ⟨fd, F⟩ := X.defs d30 (List.mem_of_getElem? (i := 30) rfl)
  have hm : mg ((nm T).fn 30) = some (.ref (He.fAd K d30.at_)) := X.glo "_law_told" (List.mem_of_getElem? (i := 30) rfl)
  exact lamG_of (g0 := 30) h hm F (F.bindsN (ps := ["call"]) fun _ _ _ _ _ _ us hl => match us, hl with | [_], _ => rfl) sc30 (.inl rfl) rfl (by decide) (by decide) hGT e1 (fun _ => rfl) e3 e4 e5 e6 (fun _ => rfl) fun t Θt cdv A outer s H act ck => bd30 (X.glo "NetError" (List.mem_of_getElem? (i := 34) rfl)) act ck
theorem fx32 (X : Hd K mg) (h : Stg (nm T) Cs33 P w K mg base k) {PP : Addr} (TB : LamX.TabB base mg (He.codeOf K d32.at_) PP) (hmT : (PP, (("_law_is_right" : Str) ++ (".<locals>." : Str)) ++ ("<lambda>" : Str)) ∈ T) (hu : ∀ p ∈ T, p.1 = PP → p.2 = (("_law_is_right" : Str) ++ (".<locals>." : Str)) ++ ("<lambda>" : Str)) {kq : Nat} (hkq : kq + 1 ≤ k) (hE : EqG (nm T) Cs33 P w K mg base kq 6) : ∃ fd, Binds K fd ["hand"] [] ∧ PySem.W.keepIn K (.ref (He.fAd K d32.at_)) = true ∧ FnOk P w K mg base (L2.CX P w) (k + 3) (He.fAd K d32.at_) fd ["hand"] (spOf (nm T) K mg 1 g32) := by
  obtain ⟨fd, F⟩ := X.defs d32 (List.mem_of_getElem? (i := 32) rfl)
  exact ⟨fd, (F.bindsN (ps := ["hand"]) fun _ _ _ _ _ _ us hl => match us, hl with | [_], _ => rfl), F.kp, Stg.fnC (p := d32.at_) (h.le (m := k + 2) (by omega)) F sc32 fun Θ cdv A outer s H E hcode hroom hne ck po => bd32 rfl rfl rfl rfl rfl rfl rfl rfl rfl rfl rfl rfl rfl rfl rfl rfl (lamg X h (fun _ _ => rfl) rfl rfl rfl rfl rfl) hroom TB hcode hmT hu (fun scope A1 outer1 s1 H1 E1 f c1 room tk => Gd.ck (X := LamX.lamCx (cxOf (L2.CX P w) P w K mg base n32 "_law_is_right" (defScope st32) (He.fAd K d32.at_) cdv A outer s H E) A1 outer1 s1 H1 E1 scope f c1) h.gd ck.pm hne sc32.nd rfl room tk h.ca h.mkc h.ex) hE (hroom.mono (by omega)) ck po⟩
theorem sg32 (X : Hd K mg) (h : Stg (nm T) Cs33 P w K mg base k) {PP : Addr} (TB : LamX.TabB base mg (He.codeOf K d32.at_) PP) (hmT : (PP, (("_law_is_right" : Str) ++ (".<locals>." : Str)) ++ ("<lambda>" : Str)) ∈ T) (hu : ∀ p ∈ T, p.1 = PP → p.2 = (("_law_is_right" : Str) ++ (".<locals>." : Str)) ++ ("<lambda>" : Str)) {kq : Nat} (hkq : kq + 1 ≤ k) (hE : EqG (nm T) Cs33 P w K mg base kq 6) : Stg (nm T) Cs34 P w K mg base (k + 3) := by
  obtain ⟨fd, hb, kp, F⟩ := fx32 X h TB hmT hu hkq hE
  exact (h.le (m := k + 2) (by omega)).add (f := 32) (X.glo "_law_is_right" (List.mem_of_getElem? (i := 32) rfl)) kp hb F
theorem fxlaw (X : Hd K mg) (h : Stg (nm T) Cs34 P w K mg base k) {kq : Nat} (hkq : kq + 1 ≤ k) (hE : EqG (nm T) Cs34 P w K mg base kq 6) {fd : FuncData} (F : FunD K d33.name d33.qual d33.params d33.body d33.scope [] [] (He.fAd K d33.at_) fd) : FnOk P w K mg base (L2.CX P w) (k + 3) (He.fAd K d33.at_) fd ["script"] (spOf (nm T) K mg 1 g33) := by
  exact Stg.fnC (p := d33.at_) (h.le (m := k + 2) (by omega)) F sc33 fun Θ cdv A outer s H E hcode hroom hne ck po => bd33 rfl rfl rfl rfl rfl hE (hroom.mono (by omega)) ck po
theorem law_fn (X : Hd K mg) (h0 : Stg (nm T) Cs0 P w K mg base k) {PP : Addr} (TB : LamX.TabB base mg (He.codeOf K d32.at_) PP) (hmT : (PP, (("_law_is_right" : Str) ++ (".<locals>." : Str)) ++ ("<lambda>" : Str)) ∈ T) (hu : ∀ p ∈ T, p.1 = PP → p.2 = (("_law_is_right" : Str) ++ (".<locals>." : Str)) ++ ("<lambda>" : Str)) {fd : FuncData} (F : FunD K d33.name d33.qual d33.params d33.body d33.scope [] [] (He.fAd K d33.at_) fd) : FnOk P w K mg base (L2.CX P w) (k + 57) (He.fAd K d33.at_) fd ["script"] (spOf (nm T) K mg 1 g33) := by
  have h1 := sg0 X h0
  have h2 := sg1 X h1
  have h3 := sg2 X h2
  have h4 := sg3 X h3
  have h5 := sg4 X h4
  have h6 := sg5 X h5
  have h7 := sg6 X h6
  have h8 := sg7 X h7
  have h9 := sg8 X h8
  have h10 := sg9 X h9
  have h11 := sg10 X h10
  have h12 := sg11 X h11
  have h13 := sg12 X h12
  have h14 := sg14 X h13
  have h15 := sg15 X h14
  have h16 := sg16 X h15
  have h17 := sg17 X h16
  have h18 := sg18 X h17
  have h19 := sg19 X h18
  have h20 := sg20 X h19
  have h21 := sg21 X h20
  have h22 := sg22 X h21
  have h23 := sg23 X h22
  have h24 := sg25 X h23
  have h25 := sg24 X h24
  have h26 := sg26 X h25
  have h27 := sg27 X h26
  have h28 := sg28 X h27
  have h29 := sg29 X h28
  have h30 := sg31 X h29
  have h31 := sg36 X h30
  have h32 := sg13 X h31
  have h33 := sg37 X h32
  have h34 := sg32 X h33 TB hmT hu (by omega) (eqg X h32 fun _ _ _ => rfl)
  exact (fxlaw X h34 (by omega) (eqg X h32 fun _ _ _ => rfl) F).mono (by omega)
def total : Nat := 57
end
end Kd
set_option Elab.async false
set_option linter.all false
set_option maxRecDepth 100000
set_option maxHeartbeats 0
/-! Own work, printed by gen3.py: the head. -/
namespace Kd
open PySem PySem.Spec L2 Ev
def tupB (K : PySem.W.Frag) (x : Str) (ns : List Int) : Bool := match PySem.W.nsIn K mainGlobals x with
  | some (some (.ref a)) => (match K.lookup a with
    | some ⟨.type "tuple", _, .seq its _, _⟩ => decide (its.toList.map (fun v => match v with | .int i _ => some i | _ => none) = ns.map some)
    | _ => false)
  | _ => false
def fz : List He.Fa := [.mkr "Net", .int "MOST_LAMPS" 7, .str "EMPTY" "-", .str "PARTED" ":", .str "FIGURES" "0123456"]
def fa : List He.Fa := gloN.map He.Fa.glo ++ ((biNames ++ [("ValueError" : Str)]).map He.Fa.free ++ fz)
def exB (K : PySem.W.Frag) : Bool := decide (GP (nm []) Cb K 7) && (tupB K "POWERS" [1, 2, 4, 8, 16, 32, 64, 128] && 
  (decide (PySem.W.findIn K (.ref (He.ga K "Net")) "__ne__" = some (some (.builtin "object.__ne__"))) && (decide (PySem.W.findIn K (.ref (He.ga K "Net")) "__eq__" = some (some (.ref (He.ma K (He.ga K "Net") "__eq__")))) &&
  (PySem.W.isFn K (.ref (He.ma K (He.ga K "Net") "__eq__")) && decide (PySem.W.mroIn K (He.ga K "Net") (.type "object") = some true)))))
def tf : List He.Defn := [("_law_is_right", none)]
def ln0 : List Str := ["is_integer", "is_between", "are_bits", "is_lot", "number_by", "wanted", "check_net", "number_of", "is_rule", "bits_text", "net_text", "are_bit_signs"]
def ln1 : List Str := ["bits_told", "read_net", "lamps_text", "rule_text", "lamps_told", "read_rule", "state_text", "read_state", "_law_hand", "_law_draw", "_law_some", "_law_is"]
def ln2 : List Str := ["_law_tables", "_law_states", "_law_size", "_law_read", "_law_rule", "_law_state", "_law_told", "_law_spoiled", "_law_is_right", "NetError", "BadNet", "NoState"]
def ln3 : List Str := ["NoNet", "BadText", "NoRule", "Net", "MOST_LAMPS", "POWERS", "EMPTY", "PARTED", "FIGURES"]
def loose : List Str := ln0 ++ ln1 ++ ln2 ++ ln3
abbrev rowL : PySem.W.OpenRow := PySem.W.OpenLaw.row PySem.Challenge.rw_lampnets_k74_whole_texts
abbrev hk : PySem.W.Hook := He.hookX 5 fa fnD [] tf exB
def ob (s : PySem.W.SharedT) : He.AlX := He.obsX 5 fa fnD [] tf exB (HandSHeadRun.getT s)
theorem ob_eq (s : PySem.W.SharedT) : ob s = hk.obs s.abs := He.obsX_eq (HandSHeadRun.getT_eq s)
theorem headRun (w : World) : HandSHeadRun.RunEq rowL (PySem.W.view rowL.prog [49]) hk ob 4000 loose w := by
  intro os
  kernel_rfl
end Kd
set_option Elab.async false
set_option linter.all false
set_option maxRecDepth 100000
set_option maxHeartbeats 4000000
/-! Own work: the ground of k74 from its head. -/
namespace Kd
open PySem PySem.Spec L2 Ev
section
variable {P : Program} {w : World} {K : PySem.W.Frag} {mg : Str → Option Value} {base h : Heap}
theorem m_glo {x : Str} (hx : x ∈ gloN) : He.Fa.glo x ∈ fa := List.mem_append_left _ (List.mem_map.mpr ⟨x, hx, rfl⟩)
theorem m_free {x : Str} (hx : x ∈ biNames ++ [("ValueError" : Str)]) : He.Fa.free x ∈ fa := List.mem_append_right _ (List.mem_append_left _ (List.mem_map.mpr ⟨x, hx, rfl⟩))
theorem m_z {f : He.Fa} (hf : f ∈ fz) : f ∈ fa := List.mem_append_right _ (List.mem_append_right _ hf)
theorem ex_parts (c : exB K = true) : GP (nm []) Cb K 7 ∧ tupB K "POWERS" [1, 2, 4, 8, 16, 32, 64, 128] = true ∧ PySem.W.findIn K (.ref (He.ga K "Net")) "__ne__" = some (some (.builtin "object.__ne__")) ∧ PySem.W.findIn K (.ref (He.ga K "Net")) "__eq__" = some (some (.ref (He.ma K (He.ga K "Net") "__eq__"))) ∧
    PySem.W.isFn K (.ref (He.ma K (He.ga K "Net") "__eq__")) = true ∧ PySem.W.mroIn K (He.ga K "Net") (.type "object") = some true := by
  unfold exB at c
  simp only [Bool.and_eq_true, decide_eq_true_eq] at c
  obtain ⟨h1, h2, h3, h4, h5, h6⟩ := c
  exact ⟨h1, h2, h3, h4, h5, h6⟩
theorem hd_of (KX : K.In h) (G : h.Ns mainGlobals mg) (c : He.SaysX fa fnD [] tf exB w h K) : Hd K mg := by
  obtain ⟨_, _, h3, h4, h5, h6⟩ := ex_parts c.more
  exact { glo := fun x hx => He.glo_ok KX G (c.t.d.facts (m_glo hx)), defs := fun d hd => c.t.d.defs hd, mk6 := He.mkr_ok (c.t.d.facts (m_z (List.mem_of_getElem? (i := 0) rfl))), ne := h3, eq := h4, isf := h5, mro := h6 }
theorem tup_of (KX : K.In h) (G : h.Ns mainGlobals mg) {x : Str} {ns : List Int} (c : tupB K x ns = true) (hn : ns.length ≤ 1000) (N : Nm) : ∃ u v, mg x = some u ∧ RelV v u ∧ ∀ H B, Rep N K mg H B (.tup (ns.map Ev.D.int)) v := by
  unfold tupB at c
  split at c
  · rename_i a e
    split at c
    · rename_i d its n sl e2
      exact gl_tup (PySem.W.mg_of KX G e) e2 (of_decide_eq_true c) hn
    · cases c
  · cases c
theorem bndK (T : List (Addr × Str)) : Bnd (nm T) Cs0 7 where
  kc := fun c h => by
    match c, h with
    | 0, h | 1, h | 2, h | 3, h | 4, h | 5, h | 6, h => omega
    | n + 7, h => cases h
  kt := fun c h => by
    match c, h with
    | 0, h | 1, h | 2, h | 3, h | 4, h | 5, h | 6, h => omega
    | n + 7, h => cases h
  ke := fun c h => by
    match c, h with
    | 0, h | 1, h | 2, h | 3, h | 4, h | 5, h | 6, h => omega
    | n + 7, h => cases h
  kx := fun c h => by
    match c, h with
    | 0, h | 1, h | 2, h | 3, h | 4, h | 5, h | 6, h => omega
    | n + 7, h => cases h
  nf := fun c f i h => by
    have h : nf c f = some i := h
    unfold nf at h
    split at h <;> first | (cases h; exact ⟨rfl, _, rfl, rfl⟩) | cases h
  xfl := fun c f h => by
    have h : xfl c = some f := h
    unfold xfl at h
    split at h <;> first | (cases h; rfl) | cases h
  kcC := fun c h => by
    match c, h with
    | 0, h | 1, h | 2, h | 3, h | 4, h | 5, h => cases h
    | 6, h => rfl
    | n + 7, h => cases h
end
end Kd
set_option Elab.async false
set_option linter.all false
set_option maxRecDepth 100000
set_option maxHeartbeats 4000000
/-! Own work: the first stage of k74. -/
namespace Kd
open PySem PySem.Spec L2 Ev
section
variable {P : Program} {w : World} {K : PySem.W.Frag} {mg : Str → Option Value} {base h : Heap} {T : List (Addr × Str)}
theorem bi34 {CX : CXT} {fa : Addr} {cdv : Value} {A : Around} {outer : List PySem.Env} {s : Shared} {H : Hp} {E : XK} : PSs (cxOf CX P w K mg base n34 "BadNet.__init__" (defScope st34) fa cdv A outer s H E) (defBody st34) (tOst K "part" (tVar 0) (tVar 1)) :=
  pss_one (ps_ost (pe_var (i := 0) rfl (.inl rfl) rfl rfl) (pe_var (i := 1) rfl (.inl rfl) rfl rfl) (by rfl))
theorem bi35 {CX : CXT} {fa : Addr} {cdv : Value} {A : Around} {outer : List PySem.Env} {s : Shared} {H : Hp} {E : XK} : PSs (cxOf CX P w K mg base n35 "BadText.__init__" (defScope st35) fa cdv A outer s H E) (defBody st35) (tOst K "line" (tVar 0) (tVar 1)) :=
  pss_one (ps_ost (pe_var (i := 0) rfl (.inl rfl) rfl rfl) (pe_var (i := 1) rfl (.inl rfl) rfl rfl) (by rfl))
theorem sc34 : FnScope n34 ["self", "part"] (defScope st34) := ⟨rfl, rfl, rfl, by decide +kernel, rfl, by decide +kernel, by decide +kernel⟩
theorem sc35 : FnScope n35 ["self", "line"] (defScope st35) := ⟨rfl, rfl, rfl, by decide +kernel, rfl, by decide +kernel, by decide +kernel⟩
theorem stg0 (KX : K.In h) (G : h.Ns mainGlobals mg) (c : He.SaysX fa fnD [] tf exB w h K) : Stg (nm T) Cs0 P w K mg base 2 := by
  have X := hd_of KX G c
  obtain ⟨gp, tu, _⟩ := ex_parts c.more
  have gp : GP (nm T) Cs0 K 7 := gp
  have hg : ∀ i, i < 7 → mg ((nm T).cl i) = some (.ref (ga (nm T) K i)) := fun i hi => X.glo _ (by
    match i, hi with
    | 0, _ => exact List.mem_of_getElem? (i := 34) rfl
    | 1, _ => exact List.mem_of_getElem? (i := 35) rfl
    | 2, _ => exact List.mem_of_getElem? (i := 36) rfl
    | 3, _ => exact List.mem_of_getElem? (i := 37) rfl
    | 4, _ => exact List.mem_of_getElem? (i := 38) rfl
    | 5, _ => exact List.mem_of_getElem? (i := 39) rfl
    | 6, _ => exact List.mem_of_getElem? (i := 40) rfl)
  have gd : Gd (nm T) Cs0 P w K mg base := gd_of (bndK T) gp hg (fun x hx => He.free_ok KX G (c.t.d.facts (m_free (List.mem_append_left _ hx)))) (He.free_ok KX G (c.t.d.facts (m_free (List.mem_append_right _ (List.mem_singleton.mpr rfl))))) (fun i d e => by
      have e : glD i = some d := e
      unfold glD at e
      split at e
      · cases e; exact gl_int (He.int_ok KX G (c.t.d.facts (m_z (List.mem_of_getElem? (i := 1) rfl))))
      · cases e; exact tup_of (ns := [1, 2, 4, 8, 16, 32, 64, 128]) KX G tu (by decide) (nm T)
      · cases e; exact gl_str (He.str_ok KX G (c.t.d.facts (m_z (List.mem_of_getElem? (i := 2) rfl))))
      · cases e; exact gl_str (He.str_ok KX G (c.t.d.facts (m_z (List.mem_of_getElem? (i := 3) rfl))))
      · cases e; exact gl_str (He.str_ok KX G (c.t.d.facts (m_z (List.mem_of_getElem? (i := 4) rfl))))
      · cases e) (fun f hf => by cases hf)
  refine ⟨gd, (fun f hf => nomatch (show false = true from hf)), (fun f hf => nomatch (show false = true from hf)), fun i hi => ?_⟩
  have er : ErrP (nm T) Cs0 K 7 i := gp.2.2 i (List.mem_range.mpr ((bndK T).ke i hi)) hi
  match i, hi with
  | 0, hi => exact exG_of0 er (hg 0 (by decide)) rfl
  | 2, hi => exact exG_of0 er (hg 2 (by decide)) rfl
  | 3, hi => exact exG_of0 er (hg 3 (by decide)) rfl
  | 5, hi => exact exG_of0 er (hg 5 (by decide)) rfl
  | 1, hi =>
    obtain ⟨fd, F⟩ := X.defs d34 (List.mem_of_getElem? (i := 34) rfl)
    exact exG_of1 (k := 1) (f := "part") er (hg 1 (by decide)) rfl (fun ho hno => exi_ok F sc34 rfl rfl ho hno fun cdv A outer s H E => bi34) (F.bindsN (ps := ["self", "part"]) fun _ _ _ _ _ _ us hl => match us, hl with | [_, _], _ => rfl)
  | 4, hi =>
    obtain ⟨fd, F⟩ := X.defs d35 (List.mem_of_getElem? (i := 35) rfl)
    exact exG_of1 (k := 1) (f := "line") er (hg 4 (by decide)) rfl (fun ho hno => exi_ok F sc35 rfl rfl ho hno fun cdv A outer s H E => bi35) (F.bindsN (ps := ["self", "line"]) fun _ _ _ _ _ _ us hl => match us, hl with | [_, _], _ => rfl)
  | 6, hi => cases hi
  | n + 7, hi => cases hi
end
end Kd
set_option Elab.async false
set_option linter.all false
set_option maxRecDepth 100000
set_option maxHeartbeats 8000000
/-! Own work: the end of k74, but for the plain law. -/
namespace Kd
open PySem PySem.Spec L2 Ev
def PlainLaw : Prop := ∀ ns : List Int, ns.length ≤ 63 → (∀ z ∈ ns, Builtin.Int.intBits z ≤ 1048576) → g33 [.d (.scr ns)] [] = some (.ok (.d (.bl true)), [])
def lq : Str := (("_law_is_right" : Str) ++ (".<locals>." : Str)) ++ ("<lambda>" : Str)
theorem at_law (hl : PlainLaw) {l : PySem.W.OpenLaw} {w : World} {mg : Str → Option Value} {f : Addr} {h : Heap} {K : PySem.W.Frag} (KX : K.In h) (G : h.Ns mainGlobals mg) (c : He.SaysX fa fnD [] tf exB w h K) (hmg : mg ("law" : Str) = some (.ref f)) : LamX.LawAtS l w K (L2.CX l.prog w) 59 63 "script" mg f h := by
  have X := hd_of KX G c
  have e := hmg.symm.trans (X.glo "law" (List.mem_of_getElem? (i := 33) rfl))
  cases e
  obtain ⟨fd, F⟩ := X.defs d33 (List.mem_of_getElem? (i := 33) rfl)
  have b := FunD.bindsA (ps := ["script"]) F fun _ _ _ _ _ _ us hl => match us, hl with | [_], _ => rfl
  have hp : ((("_law_is_right" : Str), (none : Option Str)) : He.Defn) ∈ tf := List.mem_singleton.mpr rfl
  refine ⟨fd, [He.cT K ((("_law_is_right" : Str), (none : Option Str)) : He.Defn)], spOf (nm [((He.cT K ((("_law_is_right" : Str), (none : Option Str)) : He.Defn)).2, lq)]) K mg 1 g33, fun p hp2 => ?_, fun p hp2 => ?_, fun p hp2 => ?_, fun s v => b s [v] rfl, fun H a ns hn hb hT hS => ?_, fun base Kb Gb hTB => ?_⟩
  · rw [List.mem_singleton.mp hp2]; exact c.empty _ hp
  · rw [List.mem_singleton.mp hp2]; exact c.out _ hp
  · rw [List.mem_singleton.mp hp2]; exact PySem.W.codeHd_of_K KX (c.hd _ hp)
  · refine law_sp (hl ns hn hb) (fun p hp2 => ?_) hS
    have := List.mem_singleton.mp hp2
    rw [this]
    exact hT _ (List.mem_singleton.mpr rfl)
  · have F2 := law_fn (P := l.prog) (w := w) (base := base) (T := [((He.cT K ((("_law_is_right" : Str), (none : Option Str)) : He.Defn)).2, lq)]) X (stg0 KX G c) (hTB _ (List.mem_singleton.mpr rfl)) (List.mem_singleton.mpr rfl) (fun p hp2 _ => by rw [List.mem_singleton.mp hp2] <;> rfl) F
    exact F2
end Kd
set_option Elab.async false
set_option linter.all false
set_option maxRecDepth 100000
/-! Own work, printed by gen2.py: the texts of the program, as signs. -/
namespace Kd
open PySem PySem.Spec Ev Ev.Pl
@[simp] theorem lit0 : ("" : Str) = ofL [] := ofL_lit (by decide +kernel)
@[simp] theorem lit1 : ("\n" : Str) = ofL [10] := ofL_lit (by decide +kernel)
@[simp] theorem lit2 : ("01" : Str) = ofL [48, 49] := ofL_lit (by decide +kernel)
@[simp] theorem lit3 : ("text" : Str) = ofL [116, 101, 120, 116] := ofL_lit (by decide +kernel)
@[simp] theorem lit4 : ("told" : Str) = ofL [116, 111, 108, 100] := ofL_lit (by decide +kernel)
@[simp] theorem lit5 : (":" : Str) = ofL [58] := ofL_lit (by decide +kernel)
@[simp] theorem lit6 : ("-" : Str) = ofL [45] := ofL_lit (by decide +kernel)
@[simp] theorem lit7 : ("0123456" : Str) = ofL [48, 49, 50, 51, 52, 53, 54] := ofL_lit (by decide +kernel)
@[simp] theorem lit8 : ("refused" : Str) = ofL [114, 101, 102, 117, 115, 101, 100] := ofL_lit (by decide +kernel)
@[simp] theorem lit9 : ("none" : Str) = ofL [110, 111, 110, 101] := ofL_lit (by decide +kernel)
@[simp] theorem lit10 : (" " : Str) = ofL [32] := ofL_lit (by decide +kernel)
@[simp] theorem lit11 : ("0" : Str) = ofL [48] := ofL_lit (by decide +kernel)
@[simp] theorem lit12 : ("1" : Str) = ofL [49] := ofL_lit (by decide +kernel)
@[simp] theorem lit13 : ("2" : Str) = ofL [50] := ofL_lit (by decide +kernel)
@[simp] theorem lit14 : ("a" : Str) = ofL [97] := ofL_lit (by decide +kernel)
@[simp] theorem lit15 : ("01\n" : Str) = ofL [48, 49, 10] := ofL_lit (by decide +kernel)
@[simp] theorem lit16 : ("01\n10\n" : Str) = ofL [48, 49, 10, 49, 48, 10] := ofL_lit (by decide +kernel)
@[simp] theorem lit17 : ("0101\n0011\n" : Str) = ofL [48, 49, 48, 49, 10, 48, 48, 49, 49, 10] := ofL_lit (by decide +kernel)
@[simp] theorem lit18 : ("-:1" : Str) = ofL [45, 58, 49] := ofL_lit (by decide +kernel)
@[simp] theorem lit19 : (":1" : Str) = ofL [58, 49] := ofL_lit (by decide +kernel)
@[simp] theorem lit20 : ("0:01" : Str) = ofL [48, 58, 48, 49] := ofL_lit (by decide +kernel)
@[simp] theorem lit21 : ("10:0101" : Str) = ofL [49, 48, 58, 48, 49, 48, 49] := ofL_lit (by decide +kernel)
@[simp] theorem lit22 : ("7:01" : Str) = ofL [55, 58, 48, 49] := ofL_lit (by decide +kernel)
@[simp] theorem lit23 : ("01:0110" : Str) = ofL [48, 49, 58, 48, 49, 49, 48] := ofL_lit (by decide +kernel)
@[simp] theorem lit24 : ("00:0110" : Str) = ofL [48, 48, 58, 48, 49, 49, 48] := ofL_lit (by decide +kernel)
@[simp] theorem lit25 : ("0:011" : Str) = ofL [48, 58, 48, 49, 49] := ofL_lit (by decide +kernel)
@[simp] theorem lit26 : ("-:" : Str) = ofL [45, 58] := ofL_lit (by decide +kernel)
@[simp] theorem lit27 : ("01234560" : Str) = ofL [48, 49, 50, 51, 52, 53, 54, 48] := ofL_lit (by decide +kernel)
@[simp] theorem lit28 : ("0000000" : Str) = ofL [48, 48, 48, 48, 48, 48, 48] := ofL_lit (by decide +kernel)
@[simp] theorem lit29 : ("00000000" : Str) = ofL [48, 48, 48, 48, 48, 48, 48, 48] := ofL_lit (by decide +kernel)
@[simp] theorem lit30 : ("0101\n1100\n" : Str) = ofL [48, 49, 48, 49, 10, 49, 49, 48, 48, 10] := ofL_lit (by decide +kernel)
@[simp] theorem lit31 : ("tables" : Str) = ofL [116, 97, 98, 108, 101, 115] := ofL_lit (by decide +kernel)
end Kd
set_option Elab.async false
set_option linter.all false
set_option maxRecDepth 100000
set_option maxHeartbeats 4000000
namespace Kd
open PySem PySem.Spec Ev Ev.Pl
/-- what isinstance can judge -/
abbrev pd : D → Bool := pdK Cb.kc
abbrev dp : D → Bool := dpK Cb.kc
abbrev ty : Ty → D → Bool := tyB sub
def isInt : D → Bool
  | .int _ => true | _ => false
theorem is_integer_eq (t : D) (ht : pd t = true) (h : Hs) : g0 [.d t] h = some (.ok (.d (.bl (isInt t))), h) := by
  rw [R0]; unfold ir0
  simp [isi1_pd, ht]
  cases t <;> rfl
def isBetw (lo hi : Int) : D → Bool
  | .int i => decide (lo ≤ i) && decide (i ≤ hi)
  | _ => false
theorem is_between_eq (t : D) (ht : pd t = true) (lo hi : Int) (h : Hs) : g1 [.d t, .d (.int lo), .d (.int hi)] h = some (.ok (.d (.bl (isBetw lo hi t))), h) := by
  rw [R1]; unfold ir1
  simp [is_integer_eq, ht]
  cases t <;> simp [isInt, isBetw]
/-- a tuple of so many bits -/
def areBits (n : Int) : D → Bool
  | .tup xs => decide ((xs.length : Int) = n) && xs.all (isBetw 0 1)
  | _ => false
theorem are_bits_eq (t : D) (ht : dp t = true) (n : Int) (h : Hs) : g2 [.d (.int n), .d t] h = some (.ok (.d (.bl (areBits n t))), h) := by
  rw [R2]; unfold ir2
  simp [isi1_pd, pd_of_dp ht]
  cases t with
  | tup xs =>
    have ht : ∀ x ∈ xs, dp x = true := by simpa using ht
    simp [tyB, areBits]
    rw [compL_one fun x => D.bl (isBetw 0 1 x)]
    · simp
    · intro x hx; simp [compF, is_between_eq, pd_of_dp (ht x hx)]
  | _ => simp [tyB, areBits]
theorem isBetw_ints {lo hi : Int} : ∀ {xs : List D}, xs.all (isBetw lo hi) = true → ∃ ns : List Int, xs = ns.map .int ∧ ∀ n ∈ ns, lo ≤ n ∧ n ≤ hi
  | [], _ => ⟨[], rfl, by simp⟩
  | x :: xs, h => by
    simp only [List.all_cons, Bool.and_eq_true] at h
    obtain ⟨ns, e, k⟩ := isBetw_ints h.2
    cases x with
    | int i => exact ⟨i :: ns, by simp [e], by simpa [isBetw] using ⟨by simpa [isBetw] using h.1, k⟩⟩
    | _ => simp [isBetw] at h
/-- ascending -/
def ascB : List Int → Bool
  | x :: y :: r => decide (x < y) && ascB (y :: r)
  | _ => true
theorem ascB_range : ∀ (ns : List Int), ((List.range (ns.length - 1)).all fun i => decide (ns[i]?.getD 0 < ns[i + 1]?.getD 0)) = ascB ns
  | [] => rfl
  | [_] => rfl
  | x :: y :: r => by
    have := ascB_range (y :: r)
    simp only [List.length_cons, Nat.add_sub_cancel] at this ⊢
    rw [List.range_succ_eq_map]
    simp only [List.all_cons, List.all_map, ascB, ← this]
    rfl
def isLot (n : Int) : D → Bool
  | .tup xs => xs.all (isBetw 0 (n - 1)) && (match intsD xs with | some ns => ascB ns | none => false)
  | _ => false
theorem is_lot_eq (t : D) (ht : dp t = true) (hs : ∀ xs, t = .tup xs → xs.length ≤ 1000000) (n : Int) (h : Hs) : g3 [.d (.int n), .d t] h = some (.ok (.d (.bl (isLot n t))), h) := by
  rw [R3]; unfold ir3
  simp [isi1_pd, pd_of_dp ht]
  cases t with
  | tup xs =>
    have ht : ∀ x ∈ xs, dp x = true := by simpa using ht
    have hs := hs xs rfl
    simp [tyB, isLot]
    rw [compL_one fun x => D.bl (isBetw 0 (n - 1) x)]
    · cases ha : xs.all (isBetw 0 (n - 1))
      · simp [ha]
      · simp [ha]
        obtain ⟨ns, rfl, hn⟩ := isBetw_ints ha
        simp at hs
        have h1 : ((ns.length : Int) - 1).toNat = ns.length - 1 := by omega
        simp [rngD_int ((ns.length : Int) - 1) (by omega) (by omega), h1]
        rw [compL_to fun i : Nat => D.bl (decide (ns[i]?.getD 0 < ns[i + 1]?.getD 0))]
        · simp [ascB_range]
        · intro i hi
          simp at hi
          have g0 : getD (ns.map D.int) (i : Int) = some (.int (ns[i]?.getD 0)) := by rw [getD_nat (by simp; omega)]; simp [show i < ns.length by omega]
          have g1 : getD (ns.map D.int) ((i : Int) + 1) = some (.int (ns[i + 1]?.getD 0)) := by
            have := getD_nat (xs := ns.map D.int) (i := i + 1) (by simp; omega)
            simp at this; rw [this]; simp [show i + 1 < ns.length by omega]
          simp [compF, g0, g1]
    · intro x hx; simp [compF, is_between_eq, pd_of_dp (ht x hx)]
  | _ => simp [tyB, isLot]
/-- POWERS -/
theorem pow_ix {n : Int} (h0 : 0 ≤ n) (h : n ≤ 7) : getD [D.int 1, D.int 2, D.int 4, D.int 8, D.int 16, D.int 32, D.int 64, D.int 128] n = some (.int (2 ^ n.toNat)) := by
  have : n = 0 ∨ n = 1 ∨ n = 2 ∨ n = 3 ∨ n = 4 ∨ n = 5 ∨ n = 6 ∨ n = 7 := by omega
  rcases this with e | e | e | e | e | e | e | e <;> subst e <;> rfl
abbrev netD (t : D) (n : Int) : D := .ins 6 [t, .int n]
/-- what making a net tells: None, or the part that is none -/
def netF : D → Option D
  | .tup ts => if 1 ≤ ts.length ∧ ts.length ≤ 7 then ts.zipIdx.findSome? fun p => if areBits (2 ^ ts.length) p.1 then none else some (.int p.2) else some (.str "tables")
  | _ => some (.str "tables")
theorem mk_net_eq (t : D) (ht : dp t = true) (h : Hs) : mkBy 6 g36 [.d t] h = match netF t with
    | some p => some (.err 1 [p], h)
    | none => some (.ok (.u (.ins 6 [t, .int (match t with | .tup ts => ts.length | _ => 0)])), h) := by
  unfold mkBy
  rw [R36]; unfold ir36
  simp [isi1_pd, pd_of_dp ht]
  cases t with
  | tup ts =>
    have ht : ∀ x ∈ ts, dp x = true := by simpa using ht
    by_cases hl : 1 ≤ ts.length ∧ ts.length ≤ 7
    · obtain ⟨h1, h2⟩ := hl
      have e1 : (1 : Int) ≤ ts.length := by omega
      have e2 : (ts.length : Int) ≤ 7 := by omega
      simp [tyB, netF, h1, h2, glD, e1, e2]
      have e := enumD_map id ts
      simp only [List.map_id, id] at e
      rw [e, forL_exit (fun z : Option W × Option W => [some (W.r h.length), some (W.d (.tup ts)), z.1, z.2]) (fun p _ => (some (.d (.int p.2)), some (.d p.1))) (fun p => if areBits (2 ^ ts.length) p.1 then none else some (D.int p.2)) (fun p d => .err 1 [d] [some (W.r h.length), some (W.d (.tup ts)), some (.d (.int p.2)), some (.d p.1)]) (none, none) rfl (fun _ _ => rfl)]
      · cases hq : ts.zipIdx.findSome? fun p => if areBits (2 ^ ts.length) p.1 then none else some (D.int p.2) with
        | some k => obtain ⟨x, hx, e⟩ := forRes_some hq; rw [e]; simp
        | none => rw [forRes_none hq]; simp [setfS]
      · intro p hp z
        have hp1 : p.1 ∈ ts := List.fst_mem_of_mem_zipIdx hp
        simp [forF, glD, pow_ix, are_bits_eq, ht p.1 hp1, e2]
        cases areBits (2 ^ ts.length) p.1 <;> simp
    · rcases Nat.eq_zero_or_pos ts.length with h0 | h0
      · have : ts = [] := List.length_eq_zero_iff.mp h0
        subst this; simp [tyB, netF, glD]
      · have h1 : (1 : Int) ≤ ts.length := by omega
        have h2 : ¬ (ts.length : Int) ≤ 7 := by omega
        simp [tyB, netF, glD, hl, h1, h2]
  | _ => simp [tyB, netF]
theorem check_net_eq (t : D) (ht : pd t = true) (h : Hs) : g6 [.d t] h = if tyB sub (.own 6) t then some (.ok (.d .non), h) else some (.err 3 [], h) := by
  rw [R6]; unfold ir6
  simp [isi1_pd, ht]
  cases tyB sub (.own 6) t <;> simp
theorem number_by_eq (bs : List Int) (hl : bs.length ≤ 8) (h : Hs) : ∃ n : Int, g4 [.d (.tup (bs.map .int))] h = some (.ok (.d (.int n)), h) := by
  rw [R4]; unfold ir4
  simp [enumD_map]
  rw [compL_fil fun p : Int × Nat => if p.1 = 1 then some (D.int (2 ^ p.2)) else none]
  · have : ∀ xs : List (Int × Nat), ∃ ns : List Int, xs.filterMap (fun p : Int × Nat => if p.1 = 1 then some (D.int (2 ^ p.2)) else none) = ns.map .int := by
      intro xs
      induction xs with
      | nil => exact ⟨[], rfl⟩
      | cons x xs ih =>
        obtain ⟨ns, e⟩ := ih
        by_cases hx : x.1 = 1
        · exact ⟨2 ^ x.2 :: ns, by simp [List.filterMap_cons, hx, e]⟩
        · exact ⟨ns, by simp [List.filterMap_cons, hx, e]⟩
    obtain ⟨ns, e⟩ := this bs.zipIdx
    refine ⟨ns.sum, ?_⟩
    rw [e]; simp
  · intro p hp
    have hb := List.snd_lt_of_mem_zipIdx hp
    have := pow_ix (n := (p.2 : Int)) (by omega) (by omega)
    simp [compF, glD, this]
    split <;> simp
theorem number_of_eq (t : D) (ht : dp t = true) (h : Hs) : ∃ n : Int, g7 [.d t] h = match t with
    | .tup xs => if 1 ≤ xs.length ∧ xs.length ≤ 7 ∧ areBits xs.length t then some (.ok (.d (.int n)), h) else some (.err 2 [], h)
    | _ => some (.err 2 [], h) := by
  rw [R7]; unfold ir7
  simp [isi1_pd, pd_of_dp ht]
  cases t with
  | tup xs =>
    rcases Nat.eq_zero_or_pos xs.length with h0 | h0
    · have : xs = [] := List.length_eq_zero_iff.mp h0
      subst this; simp [tyB, glD]
    · have h1 : (1 : Int) ≤ xs.length := by omega
      by_cases h2 : (xs.length : Int) ≤ 7
      · cases hb : areBits xs.length (.tup xs) with
        | false => simp [tyB, glD, h1, h2, are_bits_eq _ ht, hb]
        | true =>
          have hb' := hb
          simp only [areBits, Bool.and_eq_true] at hb'
          obtain ⟨ns, e, _⟩ := isBetw_ints hb'.2
          subst e
          obtain ⟨n, e⟩ := number_by_eq ns (by simp at h2; omega) h
          simp at h1 h2 hb
          refine ⟨n, ?_⟩
          have ht' := are_bits_eq _ ht
          simp [tyB, glD, h1, h2, ht', hb, e, show 1 ≤ ns.length by omega, show ns.length ≤ 7 by omega]
      · simp [tyB, glD, h1, h2, show ¬ xs.length ≤ 7 by omega]
  | _ => simp [tyB]
theorem isLot_len {n : Int} {xs : List Int} : ascB xs = true → (∀ x ∈ xs, 0 ≤ x ∧ x ≤ n - 1) → 0 ≤ n → (xs.length : Int) ≤ n := by
  have : ∀ (xs : List Int) (lo : Int), ascB xs = true → (∀ x ∈ xs, lo ≤ x ∧ x ≤ n - 1) → lo ≤ n → lo + (xs.length : Int) ≤ n := by
    intro xs
    induction xs with
    | nil => intro lo _ _ h; simpa using h
    | cons x xs ih =>
      intro lo ha hb hl
      have hx := hb x (List.mem_cons_self ..)
      have h1 : ascB xs = true ∧ ∀ y ∈ xs, x + 1 ≤ y ∧ y ≤ n - 1 := by
        cases xs with
        | nil => exact ⟨rfl, by simp⟩
        | cons y r =>
          simp only [ascB, Bool.and_eq_true, decide_eq_true_eq] at ha
          refine ⟨ha.2, ?_⟩
          have : ∀ (r : List Int) (y : Int), x < y → ascB (y :: r) = true → ∀ z ∈ y :: r, x < z := by
            intro r
            induction r with
            | nil => intro y hy _ z hz; simp at hz; omega
            | cons w r ih2 =>
              intro y hy h z hz
              simp only [ascB, Bool.and_eq_true, decide_eq_true_eq] at h
              rcases List.mem_cons.mp hz with rfl | hz
              · exact hy
              · exact ih2 w (by omega) h.2 z hz
          intro z hz
          have := this r y ha.1 ha.2 z hz
          have := hb z (List.mem_cons_of_mem _ hz)
          omega
      have := ih (x + 1) h1.1 h1.2 (by omega)
      simp; omega
  intro h1 h2 h3
  have := this xs 0 h1 h2 h3
  omega
def isRule (n : Int) : D → Bool
  | .tup [a, b] => isLot n a && (match a with | .tup xs => areBits (2 ^ xs.length) b | _ => false)
  | _ => false
theorem is_rule_eq (t : D) (ht : dp t = true) (hs : ∀ a b xs, t = .tup [a, b] → a = .tup xs → xs.length ≤ 1000000) (n : Int) (hn : 0 ≤ n) (hn7 : n ≤ 7) (h : Hs) : g8 [.d (.int n), .d t] h = some (.ok (.d (.bl (isRule n t))), h) := by
  rw [R8]; unfold ir8
  simp [isi1_pd, pd_of_dp ht]
  cases t with
  | tup xs =>
    match xs, ht, hs with
    | [], ht, _ => simp [tyB, isRule]
    | [a], ht, _ => simp [tyB, isRule]
    | [a, b], ht, hs =>
      simp at ht
      simp [tyB, isRule, is_lot_eq a ht.1 (fun xs e => hs a b xs rfl e)]
      cases hl : isLot n a with
      | false => simp
      | true =>
        cases a with
        | tup ys =>
          simp only [isLot, Bool.and_eq_true] at hl
          obtain ⟨ns, e, hb⟩ := isBetw_ints hl.1
          subst e
          have := hl.2
          simp at this
          have hle := isLot_len this hb hn
          simp [glD, pow_ix (n := (ns.length : Int)) (by omega) (by omega), are_bits_eq _ ht.2]
        | _ => simp [isLot] at hl
    | a :: b :: c :: r, ht, _ => simp [tyB, isRule, show ((r.length : Int) + 1 + 1 + 1 = 2) = False by simp; omega]
  | _ => simp [tyB, isRule]
end Kd
set_option Elab.async false
set_option linter.all false
set_option maxRecDepth 100000
set_option maxHeartbeats 4000000
namespace Kd
open PySem PySem.Spec Ev Ev.Pl
theorem bits_text_eq (bs : List Int) (hb : ∀ b ∈ bs, 0 ≤ b ∧ b < 10) (hl : bs.length ≤ 1000) (h : Hs) : g9 [.d (.tup (bs.map .int))] h = some (.ok (.d (.str (ofL (bs.map fun b => 48 + b.toNat)))), h) := by
  rw [R9]; unfold ir9
  simp
  rw [compL_to fun b : Int => D.str (ofL [48 + b.toNat])]
  · have := join_txt [] (bs.map fun b => [48 + b.toNat]) (by
      simp [Function.comp_def, sum1]; omega)
    simp [Function.comp_def, flat1] at this
    simp [this]
  · intro b hx
    have := hb b hx
    simp [compF, str_fig this.1 this.2]
/-- the signs of a table -/
def rowT (t : List Int) : List Nat := t.map fun b => 48 + b.toNat
def netT (ts : List (List Int)) : List Nat := (ts.map fun t => rowT t ++ [10]).flatten
abbrev tabD (ts : List (List Int)) : D := .tup (ts.map fun t => .tup (t.map .int))
theorem net_text_eq (ts : List (List Int)) (n : Int) (hb : ∀ t ∈ ts, t.length ≤ 128 ∧ ∀ b ∈ t, 0 ≤ b ∧ b < 10) (hl : ts.length ≤ 7) (h : Hs) : g10 [.d (netD (tabD ts) n)] h = some (.ok (.d (.str (ofL (netT ts)))), h) := by
  rw [R10]; unfold ir10
  have hp : pd (netD (tabD ts) n) = true := rfl
  simp [check_net_eq _ hp, tyB, sub, nf]
  rw [compL_to fun t : List Int => D.str (ofL (rowT t ++ [10]))]
  · have hs : ∀ ls : List (List Nat), (∀ l ∈ ls, l.length ≤ 129) → (ls.map (·.length)).sum ≤ ls.length * 129 := by
      intro ls
      induction ls with
      | nil => intro _; simp
      | cons a r ih =>
        intro hh
        have h1 := hh a (List.mem_cons_self ..)
        have h2 := ih fun l hl => hh l (List.mem_cons_of_mem _ hl)
        simp; omega
    have := join_txt [] (ts.map fun t => rowT t ++ [10]) (by
      have := hs (ts.map fun t => rowT t ++ [10]) (by
        intro l hl
        obtain ⟨t, ht, rfl⟩ := List.mem_map.mp hl
        have := (hb t ht).1
        simp [rowT]; omega)
      simp only [List.length_map] at this
      simp only [List.length_nil, Nat.mul_zero, Nat.add_zero]
      omega)
    simp [Function.comp_def] at this
    simp [this, netT]
  · intro t ht
    have := hb t ht
    simp [compF, bits_text_eq t this.2 (by omega), sem2, addD, rowT, show t.length + 1 ≤ sizeLine from Nat.le_trans (show t.length + 1 ≤ 129 by omega) (by decide)]
/-- so many signs of bits -/
def rowOk (n : Int) (l : List Nat) : Bool := decide ((l.length : Int) = n) && l.all bitS
theorem are_bit_signs_eq (l : List Nat) (hl : TOk l) (n : Int) (h : Hs) : g11 [.d (.str (ofL l)), .d (.int n)] h = some (.ok (.d (.bl (rowOk n l))), h) := by
  rw [R11]; unfold ir11
  simp [sem1, lenD, hl.size, seqD_txt hl]
  rw [compL_to fun c : Nat => D.bl (bitS c)]
  · rw [compE_ok]; simp [rowOk]
  · intro c hc
    simp [compF, bitS]
theorem bits_told_eq (l : List Nat) (hl : TOk l) (hf : ∀ c ∈ l, 48 ≤ c ∧ c ≤ 57) (h : Hs) : g12 [.d (.str (ofL l))] h = some (.ok (.d (.tup ((valL l).map .int))), h) := by
  rw [R12]; unfold ir12
  simp [seqD_txt hl]
  rw [compL_to fun c : Nat => D.int ((c : Int) - 48)]
  · simp [valL, Function.comp_def]
  · intro c hc
    have := hf c hc
    simp [compF, int_fig this.1 this.2]
theorem bit_figs {l : List Nat} (h : l.all bitS = true) : ∀ c ∈ l, 48 ≤ c ∧ c ≤ 57 := fun c hc => by
  have := bitS_iff.mp (List.all_eq_true.mp h c hc)
  omega
theorem valL_bits {l : List Nat} (h : l.all bitS = true) : ∀ b ∈ valL l, 0 ≤ b ∧ b ≤ 1 := fun b hb => by
  obtain ⟨c, hc, rfl⟩ := List.mem_map.mp hb
  have := bitS_iff.mp (List.all_eq_true.mp h c hc)
  omega
theorem areBits_ints (n : Int) (bs : List Int) : areBits n (.tup (bs.map .int)) = (decide ((bs.length : Int) = n) && bs.all fun b => decide (0 ≤ b) && decide (b ≤ 1)) := by
  simp [areBits, List.all_map, Function.comp_def, isBetw]
/-- a net's text, read: the bad line, or the tables -/
def readRows (whole : List (List Nat)) (last : List Nat) : Except Int (List (List Int)) :=
  if 1 ≤ whole.length ∧ whole.length ≤ 7 then
    match whole.zipIdx.findSome? fun p => if rowOk (2 ^ whole.length) p.1 then none else some ((p.2 : Int) + 1) with
    | some k => .error k
    | none => if last = [] then .ok (whole.map valL) else .error (whole.length + 1)
  else .error (whole.length + 1)
def readNet (l : List Nat) : Except Int (List (List Int)) := readRows (splitC 10 l).dropLast ((splitC 10 l).getLast (splitC_ne 10 l))
theorem split_two (c : Nat) (l : List Nat) : splitC c l = (splitC c l).dropLast ++ [(splitC c l).getLast (splitC_ne c l)] := (List.dropLast_concat_getLast _).symm
theorem getD_last (xs : List D) (a : D) : getD (xs ++ [a]) (-1) = some a := by
  rw [getD_m1 _ (by simp)]; simp
theorem rows_of (whole : List (List Nat)) (hz : ∀ (i : Nat) p, (p, i) ∈ whole.zipIdx → rowOk (2 ^ whole.length) p = true) : ∀ p ∈ whole, p.length = 2 ^ whole.length ∧ p.all bitS = true := by
  intro p hp
  obtain ⟨i, hi, rfl⟩ := List.mem_iff_getElem.mp hp
  have := hz i whole[i] (by simp [List.mem_zipIdx_iff_getElem?, hi])
  simp only [rowOk, Bool.and_eq_true, decide_eq_true_eq] at this
  exact ⟨by exact_mod_cast this.1, this.2⟩
theorem findSome_ite_none {A B : Type} {c : A → Bool} {f : A → B} {xs : List A} (e : xs.findSome? (fun p => if c p then none else some (f p)) = none) (p : A) (hp : p ∈ xs) : c p = true := by
  have := List.findSome?_eq_none_iff.mp e p hp
  cases hc : c p <;> simp_all
/-- tables of bits make a net -/
def tabsOk (ts : List (List Int)) : Prop := 1 ≤ ts.length ∧ ts.length ≤ 7 ∧ ∀ t ∈ ts, t.length = 2 ^ ts.length ∧ ∀ b ∈ t, 0 ≤ b ∧ b ≤ 1
theorem netF_ok {ts : List (List Int)} (h : tabsOk ts) : netF (tabD ts) = none := by
  obtain ⟨h1, h2, h3⟩ := h
  simp only [netF, List.length_map, h1, h2, and_self, if_true]
  rw [List.findSome?_eq_none_iff]
  intro p hp
  have hp := List.fst_mem_of_mem_zipIdx hp
  obtain ⟨t, ht, e⟩ := List.mem_map.mp hp
  have ⟨a, b⟩ := h3 t ht
  rw [← e, areBits_ints]
  have : (t.length : Int) = 2 ^ ts.length := by rw [a]; norm_cast
  simp [this]
  intro x hx; exact b x hx
theorem dp_tabs (ts : List (List Int)) : dp (tabD ts) = true := by simp
theorem mk_net_ok {ts : List (List Int)} (ho : tabsOk ts) (h : Hs) : mkBy 6 g36 [.d (tabD ts)] h = some (.ok (.u (.ins 6 [tabD ts, .int ts.length])), h) := by
  rw [mk_net_eq _ (dp_tabs ts), netF_ok ho]; simp
theorem read_net_eq (l : List Nat) (hl : TOk l) (h : Hs) : g13 [.d (.str (ofL l))] h = match readNet l with
    | .error k => some (.err 4 [.int k], h)
    | .ok ts => some (.ok (.u (.ins 6 [tabD ts, .int ts.length])), h) := by
  rw [R13]; unfold ir13 readNet
  have hpt : ∀ p ∈ splitC 10 l, TOk p := fun p hp => hl.part hp
  have hs := split_txt hl 10 (by decide)
  rw [split_two 10 l] at hpt hs
  generalize (splitC 10 l).dropLast = whole at *
  generalize (splitC 10 l).getLast _ = last at *
  have hw : ∀ p ∈ whole, TOk p := fun p hp => hpt p (by simp [hp])
  have hla : TOk last := hpt last (by simp)
  simp [isi1_pd, tyB, hs]
  have hc : cutL (whole.map (fun p => D.str (ofL p)) ++ [D.str (ofL last)]) none (some (-1)) = whole.map fun p => D.str (ofL p) := by
    rw [cutL_init]; simp
  simp [hc, readRows, getD_last]
  by_cases hw2 : 1 ≤ whole.length ∧ whole.length ≤ 7
  · obtain ⟨h1, h2⟩ := hw2
    have e1 : (1 : Int) ≤ whole.length := by omega
    have e2 : (whole.length : Int) ≤ 7 := by omega
    simp [glD, e1, e2, h1, h2, enumD_map]
    rw [forL_exit (fun z : Option W × Option W => [some (W.d (.str (ofL l))), some (W.d (.lst (whole.map (fun p => D.str (ofL p)) ++ [D.str (ofL last)]))), some (W.d (.lst (whole.map fun p => D.str (ofL p)))), z.1, z.2]) (fun p : List Nat × Nat => fun _ => (some (W.d (.int p.2)), some (W.d (.str (ofL p.1))))) (fun p : List Nat × Nat => if rowOk (2 ^ whole.length) p.1 then none else some ((p.2 : Int) + 1)) (fun p k => Fl.err 4 [D.int k] [some (W.d (.str (ofL l))), some (W.d (.lst (whole.map (fun p => D.str (ofL p)) ++ [D.str (ofL last)]))), some (W.d (.lst (whole.map fun p => D.str (ofL p)))), some (W.d (.int p.2)), some (W.d (.str (ofL p.1)))]) (none, none) rfl (fun _ _ => rfl)]
    · cases hq : whole.zipIdx.findSome? fun p : List Nat × Nat => if rowOk (2 ^ whole.length) p.1 then none else some ((p.2 : Int) + 1) with
      | some k => obtain ⟨x, hx, e⟩ := forRes_some hq; rw [e]; simp
      | none =>
        rw [forRes_none hq]
        have hbits := rows_of whole fun i p hp => findSome_ite_none hq (p, i) hp
        simp [getD_last, eqD_txt hla (b := []) ⟨by simp, by simp⟩]
        by_cases hlast : last = []
        · subst hlast
          simp
          rw [compL_to fun p : List Nat => D.tup ((valL p).map .int)]
          · have ho : tabsOk (whole.map valL) := by
              refine ⟨by simpa using h1, by simpa using h2, ?_⟩
              intro t ht
              obtain ⟨p, hp, rfl⟩ := List.mem_map.mp ht
              have := hbits p hp
              refine ⟨by simpa using this.1, ?_⟩
              intro b hb; exact valL_bits this.2 b hb
            have := mk_net_ok ho h
            simp [tabD, Function.comp_def] at this
            simp [this, tabD, Function.comp_def]
          · intro p hp
            simp [compF, bits_told_eq p (hw p hp) (bit_figs (hbits p hp).2)]
        · simp [hlast]
    · intro p hp z
      have hp1 := List.fst_mem_of_mem_zipIdx hp
      simp [forF, glD, pow_ix (n := (whole.length : Int)) (by omega) e2, are_bit_signs_eq p.1 (hw p.1 hp1)]
      cases rowOk (2 ^ whole.length) p.1 <;> simp
  · simp only [hw2, if_false]
    rcases Nat.eq_zero_or_pos whole.length with h0 | h0
    · have : ¬ (1 : Int) ≤ (whole.length : Int) := by omega
      simp [h0]
    · have e1 : (1 : Int) ≤ whole.length := by omega
      have e2 : ¬ (whole.length : Int) ≤ 7 := by omega
      simp [e1, e2, glD]
theorem text_odd {t : D} (ht : pd t = true) (hn : tyB sub .str t = false) (h : Hs) : g13 [.d t] h = some (.err 4 [.int 0], h) ∧ g17 [.d t] h = some (.err 4 [.int 0], h) ∧ g19 [.d t] h = some (.err 4 [.int 0], h) := by
  refine ⟨?_, ?_, ?_⟩
  · rw [R13]; unfold ir13; simp [isi1_pd, ht, hn]
  · rw [R17]; unfold ir17; simp [isi1_pd, ht, hn]
  · rw [R19]; unfold ir19; simp [isi1_pd, ht, hn]
def readState (l : List Nat) : Except Int (List Int) := if 1 ≤ l.length ∧ l.length ≤ 7 ∧ allB l = true then .ok (valL l) else .error 1
theorem read_state_eq (l : List Nat) (hl : TOk l) (h : Hs) : g19 [.d (.str (ofL l))] h = match readState l with
    | .error k => some (.err 4 [.int k], h)
    | .ok s => some (.ok (.d (.tup (s.map .int))), h) := by
  rw [R19]; unfold ir19 readState
  simp [isi1_pd, tyB, sem1, lenD, hl.size]
  rcases Nat.eq_zero_or_pos l.length with h0 | h0
  · simp [h0]
  · have e1 : (1 : Int) ≤ l.length := by omega
    by_cases h2 : l.length ≤ 7
    · have e2 : (l.length : Int) ≤ 7 := by omega
      simp only [e1, e2, h2, glD]
      have hall : rowOk l.length l = allB l := by simp only [rowOk, decide_true, Bool.true_and]; rfl
      simp [are_bit_signs_eq l hl, hall, e2, h2, show 1 ≤ l.length by omega]
      cases hb : allB l with
      | true => simp [hb, bits_told_eq l hl (bit_figs hb)]
      | false => simp [hb]
    · have e2 : ¬ (l.length : Int) ≤ 7 := by omega
      simp [e1, e2, h2, glD]
/-- the lamps that figures tell -/
def figS (c : Nat) : Bool := decide (c ∈ [48, 49, 50, 51, 52, 53, 54])
theorem figS_iff {c : Nat} : figS c = true ↔ 48 ≤ c ∧ c ≤ 54 := by simp [figS]; omega
def allF (l : List Nat) : Bool := l.all figS
def lampsF (l : List Nat) : Option (List Int) := if l = [45] then some [] else if l = [] ∨ allF l = false then none else some (valL l)
theorem lamps_told_eq (l : List Nat) (hl : TOk l) (h : Hs) : g16 [.d (.str (ofL l))] h = some (.ok (.d (match lampsF l with | some s => .tup (s.map .int) | none => .non)), h) := by
  rw [R16]; unfold ir16 lampsF
  have h45 : TOk [45] := ⟨by simp, by simp⟩
  simp [glD, eqD_txt hl h45]
  by_cases h1 : l = [45]
  · simp [h1]
  · simp [h1, sem1, lenD, hl.size]
    by_cases h2 : l = []
    · simp [h2]
    · simp [h2, seqD_txt hl]
      rw [compL_to fun c : Nat => D.bl (figS c)]
      · have ha : sem1 .all (.lst (l.map fun x => D.bl (figS x))) = some (.d (.bl (allF l))) := u_all_map figS l
        simp only [compE_ok, take_self, reopen_d, bnd_ok, X.rd_u, MO.rd_lst, Option.bind_some, ha]
        cases hf : allF l with
        | false => simp [hf]
        | true =>
          simp [hf, seqD_txt hl]
          rw [compL_to fun c : Nat => D.int ((c : Int) - 48)]
          · simp [valL, Function.comp_def]
          · intro c hc
            have := figS_iff.mp (List.all_eq_true.mp hf c hc)
            simp [compF, int_fig this.1 (by omega)]
      · intro c hc
        simp [compF, figS, glD]
def readRule (l : List Nat) : Option (List Int × List Int) := match splitC 58 l with
  | [a, b] => if allB b = true then match lampsF a with
      | some lot => if ascB lot = true ∧ b.length = 2 ^ lot.length then some (lot, valL b) else none
      | none => none
    else none
  | _ => none
theorem lampsF_rng {a : List Nat} {s : List Int} (h : lampsF a = some s) : ∀ x ∈ s, 0 ≤ x ∧ x ≤ 7 - 1 := by
  unfold lampsF at h
  split at h
  · cases h; simp
  · split at h
    · cases h
    · rename_i h1
      cases h
      have h2 : allF a = true := by
        cases q : allF a with
        | true => rfl
        | false => exact absurd (.inr q) h1
      intro x hx
      obtain ⟨c, hc, rfl⟩ := List.mem_map.mp hx
      have := figS_iff.mp (List.all_eq_true.mp h2 c hc)
      omega
theorem isLot_ints (n : Int) (s : List Int) : isLot n (.tup (s.map .int)) = (s.all (fun x => decide (0 ≤ x) && decide (x ≤ n - 1)) && ascB s) := by
  simp [isLot, List.all_map, Function.comp_def, isBetw]
theorem read_rule_eq (l : List Nat) (hl : TOk l) (h : Hs) : g17 [.d (.str (ofL l))] h = match readRule l with
    | none => some (.err 4 [.int 1], h)
    | some (a, b) => some (.ok (.d (.tup [.tup (a.map .int), .tup (b.map .int)])), h) := by
  rw [R17]; unfold ir17 readRule
  have hpt : ∀ p ∈ splitC 58 l, TOk p := fun p hp => hl.part hp
  have hs := split_txt hl 58 (by decide)
  generalize splitC 58 l = rows at *
  simp [isi1_pd, tyB, hs, glD]
  match rows, hpt with
  | [], _ => simp
  | [a], _ => simp
  | a :: b :: c :: r, _ => simp [show ((r.length : Int) + 1 + 1 + 1 = 2) = False by simp; omega]
  | [a, b], hpt =>
    have ha := hpt a (by simp)
    have hb := hpt b (by simp)
    simp [seqD_txt hb]
    rw [compL_to fun c : Nat => D.bl (bitS c)]
    · have hall : sem1 .all (.lst (b.map fun x => D.bl (bitS x))) = some (.d (.bl (allB b))) := u_all_map bitS b
      simp only [compE_ok, take_self, reopen_d, bnd_ok, X.rd_u, MO.rd_lst, Option.bind_some, hall]
      cases hf : allB b with
      | false => simp [hf]
      | true =>
        simp [hf, lamps_told_eq a ha, bits_told_eq b hb (bit_figs hf)]
        cases hlo : lampsF a with
        | none =>
          have e : isRule 7 (.tup [.non, .tup ((valL b).map .int)]) = false := by simp [isRule, isLot]
          have e2 := is_rule_eq (.tup [.non, .tup ((valL b).map .int)]) (by simp) (by intro a b xs h1 h2; cases h1; cases h2) 7 (by decide) (by decide) h
          rw [e] at e2
          simp [e2]
        | some lot =>
          have hr := lampsF_rng hlo
          have h7 : ascB lot = true → (lot.length : Int) ≤ 7 := fun q => isLot_len q hr (by decide)
          have hlen : lot.length ≤ a.length := by
            unfold lampsF at hlo
            split at hlo
            · cases hlo; simp
            · split at hlo
              · cases hlo
              · cases hlo; simp
          have e2 := is_rule_eq (.tup [.tup (lot.map .int), .tup ((valL b).map .int)]) (by simp) (by
            intro a' b' xs h1 h2
            cases h1; cases h2
            have := ha.len; simp; omega) 7 (by decide) (by decide) h
          have e : isRule 7 (.tup [.tup (lot.map .int), .tup ((valL b).map .int)]) = (ascB lot && decide (b.length = 2 ^ lot.length)) := by
            have h1 : (lot.all fun x => decide (0 ≤ x) && decide (x ≤ 7 - 1)) = true := by
              rw [List.all_eq_true]; intro x hx; have := hr x hx; simp; omega
            have h2 : ((valL b).all fun x => decide (0 ≤ x) && decide (x ≤ 1)) = true := by
              rw [List.all_eq_true]; intro x hx; have := valL_bits hf x hx; simp; omega
            simp only [isRule, isLot_ints, h1, Bool.true_and, areBits_ints, h2, Bool.and_true, List.length_map, valL_length]
            congr 1
            have : ((b.length : Int) = 2 ^ lot.length) ↔ (b.length = 2 ^ lot.length) := by norm_cast
            simp [this]
          rw [e] at e2
          cases q1 : ascB lot with
          | false => simp [e2, q1]
          | true => by_cases q2 : b.length = 2 ^ lot.length <;> simp [e2, q1, q2]
    · intro c hc
      simp [compF, bitS]
/-- a rule that is right -/
structure RuleOk (lot bits : List Int) : Prop where
  asc : ascB lot = true
  rng : ∀ x ∈ lot, 0 ≤ x ∧ x ≤ 6
  len : bits.length = 2 ^ lot.length
  bit : ∀ b ∈ bits, 0 ≤ b ∧ b ≤ 1
theorem RuleOk.seven {lot bits : List Int} (h : RuleOk lot bits) : lot.length ≤ 7 := by
  have := isLot_len (n := 7) h.asc (fun x hx => by have := h.rng x hx; omega) (by decide)
  omega
theorem RuleOk.is {lot bits : List Int} (h : RuleOk lot bits) : isRule 7 (.tup [.tup (lot.map .int), .tup (bits.map .int)]) = true := by
  have h1 : (lot.all fun x => decide (0 ≤ x) && decide (x ≤ 7 - 1)) = true := by
    rw [List.all_eq_true]; intro x hx; have := h.rng x hx; simp; omega
  have h2 : (bits.all fun x => decide (0 ≤ x) && decide (x ≤ 1)) = true := by
    rw [List.all_eq_true]; intro x hx; have := h.bit x hx; simp; omega
  have h3 : (bits.length : Int) = 2 ^ lot.length := by rw [h.len]; norm_cast
  simp only [isRule, isLot_ints, h1, Bool.true_and, areBits_ints, h2, Bool.and_true, List.length_map, h.asc, h3, decide_true]
def ruleT (lot bits : List Int) : List Nat := (if lot = [] then [45] else rowT lot) ++ [58] ++ rowT bits
theorem rowT_len (t : List Int) : (rowT t).length = t.length := by simp [rowT]
theorem lamps_text_eq (lot : List Int) (h1 : ∀ x ∈ lot, 0 ≤ x ∧ x < 10) (h2 : lot.length ≤ 1000) (h : Hs) : g14 [.d (.tup (lot.map .int))] h = some (.ok (.d (.str (ofL (if lot = [] then [45] else rowT lot)))), h) := by
  rw [R14]; unfold ir14
  by_cases e : lot = []
  · subst e; simp [glD]
  · have : ¬ lot.length = 0 := fun z => e (List.length_eq_zero_iff.mp z)
    simp [e, bits_text_eq lot h1 h2, rowT]
theorem rule_text_ok {lot bits : List Int} (r : RuleOk lot bits) (h : Hs) : g15 [.d (.tup [.tup (lot.map .int), .tup (bits.map .int)])] h = some (.ok (.d (.str (ofL (ruleT lot bits)))), h) := by
  rw [R15]; unfold ir15
  have h7 := r.seven
  have e := is_rule_eq (.tup [.tup (lot.map .int), .tup (bits.map .int)]) (by simp) (by intro a b xs h1 h2; cases h1; cases h2; simp; omega) 7 (by decide) (by decide) h
  rw [r.is] at e
  have hb : bits.length ≤ 128 := by rw [r.len]; exact Nat.pow_le_pow_right (by decide) h7
  have l1 : (if lot = [] then [45] else rowT lot).length ≤ 10 := by split <;> simp [rowT_len]; omega
  simp [glD, e, lamps_text_eq lot (fun x hx => by have := r.rng x hx; omega) (by omega), bits_text_eq bits (fun x hx => by have := r.bit x hx; omega) (by omega)]
  have e1 := add_txt (a := if lot = [] then [45] else rowT lot) (b := [58]) (by omega) (by simp)
  have e2 := add_txt (a := (if lot = [] then [45] else rowT lot) ++ [58]) (b := rowT bits) (by simp; omega) (by rw [rowT_len]; omega)
  rw [e1]
  simp only [lift_some, bnd_ok, X.rd_d, Option.bind_some]
  show endR _ (seqS (bns (lift (sem2 .add (.str (ofL ((if lot = [] then [45] else rowT lot) ++ [58]))) (.str (ofL (rowT bits)))) h) _ _) _) = _
  rw [e2]
  simp [ruleT]
theorem rule_text_bad {t : D} (ht : dp t = true) (hs : ∀ a b xs, t = .tup [a, b] → a = .tup xs → xs.length ≤ 1000000) (hn : isRule 7 t = false) (h : Hs) : g15 [.d t] h = some (.err 5 [], h) := by
  rw [R15]; unfold ir15
  simp [glD, is_rule_eq t ht hs 7 (by decide) (by decide), hn]
def stOk (s : List Int) : Prop := 1 ≤ s.length ∧ s.length ≤ 7 ∧ ∀ b ∈ s, 0 ≤ b ∧ b ≤ 1
theorem state_text_ok {s : List Int} (hs : stOk s) (h : Hs) : g18 [.d (.tup (s.map .int))] h = some (.ok (.d (.str (ofL (rowT s)))), h) := by
  rw [R18]; unfold ir18
  obtain ⟨h1, h2, h3⟩ := hs
  obtain ⟨n, e⟩ := number_of_eq (.tup (s.map .int)) (by simp) h
  have hb : areBits (s.map D.int).length (.tup (s.map .int)) = true := by
    rw [areBits_ints]; simp; intro x hx; exact h3 x hx
  simp only [hb] at e
  simp [h1, h2] at e
  simp [e, bits_text_eq s (fun x hx => by have := h3 x hx; omega) (by omega), rowT]
theorem state_text_bad {t : D} (ht : dp t = true) (hn : ∀ xs, t = .tup xs → ¬ (1 ≤ xs.length ∧ xs.length ≤ 7 ∧ areBits xs.length t = true)) (h : Hs) : g18 [.d t] h = some (.err 2 [], h) := by
  rw [R18]; unfold ir18
  obtain ⟨n, e⟩ := number_of_eq t ht h
  have : g7 [.d t] h = some (.err 2 [], h) := by
    rw [e]
    cases t with
    | tup xs => simp only [if_neg (hn xs rfl)]
    | _ => rfl
  simp [this]
theorem net_text_bad {t : D} (ht : pd t = true) (hn : tyB sub (.own 6) t = false) (h : Hs) : g10 [.d t] h = some (.err 3 [], h) := by
  rw [R10]; unfold ir10
  simp [check_net_eq t ht, hn]
theorem valL_rowT {t : List Int} (h : ∀ b ∈ t, 0 ≤ b) : valL (rowT t) = t := by
  unfold valL rowT
  rw [List.map_map]
  conv => rhs; rw [← List.map_id t]
  refine List.map_congr_left fun b hb => ?_
  have := h b hb
  simp; omega
theorem rowT_bits {t : List Int} (h : ∀ b ∈ t, 0 ≤ b ∧ b ≤ 1) : (rowT t).all bitS = true := by
  rw [List.all_eq_true]
  intro c hc
  obtain ⟨b, hb, rfl⟩ := List.mem_map.mp hc
  have := h b hb
  rw [bitS_iff]; omega
theorem rowT_free {t : List Int} (h : ∀ b ∈ t, 0 ≤ b ∧ b < 10) : ∀ c ∈ rowT t, 48 ≤ c ∧ c < 58 := by
  intro c hc
  obtain ⟨b, hb, rfl⟩ := List.mem_map.mp hc
  have := h b hb
  omega
theorem joinL_end (s : List Nat) : ∀ ls : List (List Nat), TL.joinL s (ls ++ [[]]) = (ls.map fun l => l ++ s).flatten
  | [] => rfl
  | [a] => by simp [TL.joinL]
  | a :: b :: r => by
    have := joinL_end s (b :: r)
    simp only [List.cons_append, TL.joinL, List.map_cons, List.flatten_cons] at this ⊢
    rw [this]; simp
theorem readNet_netT {ts : List (List Int)} (h : tabsOk ts) : readNet (netT ts) = .ok ts := by
  obtain ⟨h1, h2, h3⟩ := h
  have e : netT ts = TL.joinL [10] (ts.map rowT ++ [[]]) := by rw [joinL_end]; simp [netT, Function.comp_def]
  have hs : splitC 10 (netT ts) = ts.map rowT ++ [[]] := by
    rw [e]
    refine splitC_join (by simp) fun p hp => ?_
    rcases List.mem_append.mp hp with hp | hp
    · obtain ⟨t, ht, rfl⟩ := List.mem_map.mp hp
      intro hc
      have := rowT_free (fun b hb => by have := (h3 t ht).2 b hb; omega) 10 hc
      omega
    · simp at hp; subst hp; simp
  unfold readNet
  simp only [hs]
  have hd : (ts.map rowT ++ [[]]).dropLast = ts.map rowT := by simp
  have hg : ∀ q, (ts.map rowT ++ [[]]).getLast q = [] := fun q => by simp
  rw [hd, hg]
  unfold readRows
  have hl : (ts.map rowT).length = ts.length := by simp
  rw [hl, if_pos ⟨h1, h2⟩]
  have hf : (ts.map rowT).zipIdx.findSome? (fun p => if rowOk (2 ^ ts.length) p.1 then none else some ((p.2 : Int) + 1)) = none := by
    rw [List.findSome?_eq_none_iff]
    intro p hp
    obtain ⟨t, ht, e⟩ := List.mem_map.mp (List.fst_mem_of_mem_zipIdx hp)
    have := h3 t ht
    have hr : rowOk (2 ^ ts.length) p.1 = true := by
      rw [← e]
      have h4 : ((rowT t).length : Int) = 2 ^ ts.length := by rw [rowT_len, this.1]; norm_cast
      simp only [rowOk, h4, decide_true, Bool.true_and]
      exact rowT_bits this.2
    simp [hr]
  rw [hf]
  simp only [if_true]
  congr 1
  rw [List.map_map]
  conv => rhs; rw [← List.map_id ts]
  exact List.map_congr_left fun t ht => valL_rowT fun b hb => ((h3 t ht).2 b hb).1
theorem readState_rowT {s : List Int} (h : stOk s) : readState (rowT s) = .ok s := by
  obtain ⟨h1, h2, h3⟩ := h
  unfold readState
  rw [if_pos ⟨by rw [rowT_len]; exact h1, by rw [rowT_len]; exact h2, rowT_bits h3⟩, valL_rowT fun b hb => (h3 b hb).1]
theorem readRule_ruleT {lot bits : List Int} (r : RuleOk lot bits) : readRule (ruleT lot bits) = some (lot, bits) := by
  have hfree : ∀ p, p = (if lot = [] then [45] else rowT lot) ∨ p = rowT bits → 58 ∉ p := by
    rintro p (rfl | rfl) hc
    · split at hc
      · simp at hc
      · have := rowT_free (fun b hb => by have := r.rng b hb; omega) 58 hc; omega
    · have := rowT_free (fun b hb => by have := r.bit b hb; omega) 58 hc; omega
  have hs : splitC 58 (ruleT lot bits) = [if lot = [] then [45] else rowT lot, rowT bits] := by
    have e : ruleT lot bits = TL.joinL [58] [if lot = [] then [45] else rowT lot, rowT bits] := by simp [ruleT, TL.joinL]
    rw [e]
    exact splitC_join (by simp) fun p hp => by simp at hp; exact hfree p hp
  unfold readRule
  rw [hs]
  have hb : allB (rowT bits) = true := rowT_bits r.bit
  have hl : lampsF (if lot = [] then [45] else rowT lot) = some lot := by
    by_cases e : lot = []
    · simp [e, lampsF]
    · have h1 : ¬ rowT lot = [45] := fun z => by
        have : ∀ c ∈ rowT lot, 48 ≤ c ∧ c < 58 := rowT_free fun b hb => by have := r.rng b hb; omega
        rw [z] at this; simp at this
      have h2 : ¬ rowT lot = [] := fun z => e (by simpa [rowT] using z)
      have h3 : allF (rowT lot) = true := by
        show (rowT lot).all figS = true
        rw [List.all_eq_true]
        intro c hc
        obtain ⟨b, hb, rfl⟩ := List.mem_map.mp hc
        have := r.rng b hb
        rw [figS_iff]; omega
      simp [e, lampsF, h1, h2, h3]
      exact valL_rowT fun b hb => (r.rng b hb).1
  simp only [hb, if_true, hl]
  rw [if_pos ⟨r.asc, by rw [rowT_len, r.len]⟩, valL_rowT fun b hb => (r.bit b hb).1]
theorem net_eq_eq (ts us : List (List Int)) (n m : Int) (h : Hs) : g37 [.d (netD (tabD ts) n), .d (netD (tabD us) m)] h = some (.ok (.d (.bl (decide (ts = us)))), h) := by
  rw [R37]; unfold ir37 netD tabD
  have hp : Cb.kc 6 = true := rfl
  simp [isi1_pd, pdK, hp, tyB, sub, nf, eqD_tabs]
end Kd
set_option Elab.async false
set_option linter.all false
set_option maxRecDepth 100000
set_option maxHeartbeats 4000000
namespace Kd
open PySem PySem.Spec Ev Ev.Pl
/-- all states of so many lamps, as their numbers stand -/
def statesL : Nat → List (List Int)
  | 0 => [[]]
  | n + 1 => (statesL n).map (· ++ [0]) ++ (statesL n).map (· ++ [1])
theorem statesL_len : ∀ n, (statesL n).length = 2 ^ n
  | 0 => rfl
  | n + 1 => by simp [statesL, statesL_len n, Nat.pow_succ]; omega
theorem statesL_mem : ∀ (n : Nat) (s : List Int), s ∈ statesL n → s.length = n ∧ ∀ b ∈ s, b = 0 ∨ b = 1
  | 0, s, h => by simp [statesL] at h; subst h; simp
  | n + 1, s, h => by
    simp only [statesL, List.mem_append, List.mem_map] at h
    rcases h with ⟨t, ht, rfl⟩ | ⟨t, ht, rfl⟩
    · have := statesL_mem n t ht
      refine ⟨by simp [this.1], fun b hb => ?_⟩
      rcases List.mem_append.mp hb with hb | hb
      · exact this.2 b hb
      · simp at hb; exact .inl hb
    · have := statesL_mem n t ht
      refine ⟨by simp [this.1], fun b hb => ?_⟩
      rcases List.mem_append.mp hb with hb | hb
      · exact this.2 b hb
      · simp at hb; exact .inr hb
theorem law_states_eq (n : Nat) (hn : n ≤ 10) (h : Hs) : g25 [.d (.int n)] h = some (.ok (.d (.lst ((statesL n).map fun s => .tup (s.map .int)))), h) := by
  rw [R25]; unfold ir25
  have hr := rngD_int (n : Int) (by omega) (by omega)
  simp [hr]
  obtain ⟨env', h', e, k, v, hk, e1, e2⟩ := forL_inv (f := forF Cs23 (.one 2) (.cons (.asg 1 (.op2 .add (.comp [3] (.op2 .add (.var 3) (.tup (.cons (.cst (.int 0)) .nil))) (.one 3) (.cons (.var 1) .nil) .yes) (.comp [3] (.op2 .add (.var 3) (.tup (.cons (.cst (.int 1)) .nil))) (.one 3) (.cons (.var 1) .nil) .yes))) .nil)) (g := fun k : Nat => D.int (k : Int))
    (fun xs env h' => ∃ (k : Nat) (v : Option W), xs.length + k = n ∧ env = [some (.d (.int n)), some (.d (.lst ((statesL k).map fun s => .tup (s.map .int)))), v, none] ∧ h' = h) (List.range n) [some (.d (.int n)), some (.d (.lst [.tup []])), none, none] h ⟨0, none, by simp, rfl, rfl⟩
    (by
      rintro x xs env h' ⟨k, v, hk, rfl, rfl⟩
      simp at hk
      refine ⟨_, h', ?_, k + 1, some (.d (.int x)), by omega, rfl, rfl⟩
      have hl := statesL_len k
      have hp : 2 ^ k ≤ 1024 := Nat.pow_le_pow_right (by decide) (by omega : k ≤ 10)
      have hz : ∀ (b : Int) (s : List Int), s ∈ statesL k → sem2 .add (.tup (s.map .int)) (.tup [.int b]) = some (.d (.tup ((s ++ [b]).map .int))) := fun b s hs => by
        rw [o_addt _ _ (by have := (statesL_mem k s hs).1; simp; exact Nat.le_trans (by omega : s.length + 1 ≤ 1000) (by decide))]; simp
      simp [forF]
      rw [compL_to fun s : List Int => D.tup ((s ++ [0]).map .int)]
      · simp
        rw [compL_to fun s : List Int => D.tup ((s ++ [1]).map .int)]
        · simp [sem2, addD, hl, statesL]
          rw [if_pos (Nat.le_trans (by omega : 2 ^ k + 2 ^ k ≤ 2048) (by decide))]
          simp [Function.comp_def]
        · intro s hs; simp [compF, hz 1 s hs]
      · intro s hs; simp [compF, hz 0 s hs])
  simp at e2 hk
  obtain ⟨rfl⟩ := e2
  subst hk
  rw [e, e1]; simp
theorem law_size_eq (n : Nat) (hn : n ≤ 10) (h : Hs) : g26 [.d (.int n)] h = some (.ok (.d (.int (2 ^ n))), h) := by
  rw [R26]; unfold ir26
  simp [law_states_eq n hn, statesL_len]
end Kd
set_option Elab.async false
set_option linter.all false
set_option maxRecDepth 100000
set_option maxHeartbeats 4000000
namespace Kd
open PySem PySem.Spec Ev Ev.Pl
/-- the hand that draws -/
structure Hand where
  cells : List Int
  p : Int
  r : Int
  m : Int
  c : Int
def Hand.mo (H : Hand) : MO := .lst [.lst (H.cells.map .int), .int H.p, .int H.r, .int H.m, .int H.c]
structure Hand.Ok (H : Hand) : Prop where
  cells : ∀ z ∈ H.cells, 0 ≤ z
  p : 0 ≤ H.p
  r : 0 ≤ H.r
  m : 0 ≤ H.m ∧ H.m < 2147483648
  c : 0 ≤ H.c
theorem fmod_rng (a b : Int) (hb : 0 < b) : 0 ≤ a.fmod b ∧ a.fmod b < b := ⟨Int.fmod_nonneg_of_pos a hb, Int.fmod_lt_of_pos a hb⟩
@[simp] theorem ix51 : Ev.ixN 5 1 = some 1 := rfl
@[simp] theorem ix52 : Ev.ixN 5 2 = some 2 := rfl
@[simp] theorem ix53 : Ev.ixN 5 3 = some 3 := rfl
@[simp] theorem ix54 : Ev.ixN 5 4 = some 4 := rfl
theorem okMul_r {a b : Int} (h : 0 ≤ b) (h2 : b < 10000000000000000000) : okMul a b = true := by simp [okMul]; right; omega
theorem okMul_l {a b : Int} (h : 0 ≤ a) (h2 : a < 10000000000000000000) : okMul a b = true := by simp [okMul]; left; omega
theorem lt_of_get {h : Hs} {j : Nat} {m : MO} (hj : h[j]? = some m) : j < h.length := by
  rcases Nat.lt_or_ge j h.length with q | q
  · exact q
  · rw [List.getElem?_eq_none q] at hj; cases hj
theorem draw_eq (H : Hand) (ok : H.Ok) (h : Hs) (j : Nat) (hj : h[j]? = some H.mo) (many : Int) (hm : 1 ≤ many) (hm2 : many < 1000000) :
    ∃ (d : Int) (H' : Hand), H'.Ok ∧ 0 ≤ d ∧ d < many ∧ g21 [.r j, .d (.int many)] h = some (.ok (.d (.int d)), h.set j H'.mo) := by
  rw [R21]; unfold ir21
  obtain ⟨cells, p, r, m, c⟩ := H
  obtain ⟨hc, hp, hr, hm0, hc0⟩ := ok
  simp only [] at hc hp hr hm0 hc0
  have hjl := lt_of_get hj
  have hset (v : MO) : (h.set j v)[j]? = some v := List.getElem?_set_self hjl
  clear hjl
  have hmod (a : Int) := o_mod a many (by omega)
  have hdiv (a : Int) := o_fdiv a many (by omega) (by omega)
  have hm1 (a : Int) := o_mod a 2147483629 (by decide)
  have hm2 (a : Int) := o_mod a 2147483647 (by decide)
  have hm3 (a : Int) := o_mod a 2147483399 (by decide)
  have hu1 (a : Int) := o_mul a 69621 (okMul_r (by decide) (by decide))
  have hu2 (a : Int) := o_mul a 48271 (okMul_r (by decide) (by decide))
  have hu3 (a : Int) := o_mul 7919 a (okMul_l (by decide) (by decide))
  have hd1 (a : Int) := o_fdiv a 1009 (by decide) (by decide)
  have hd2 (a : Int) := o_fdiv a 2003 (by decide) (by decide)
  have hd3 (a : Int) := o_fdiv a 16 (by decide) (by decide)
  have hu4 (a b : Int) := o_mul (a.fmod 2147483647) b (okMul_l (fmod_rng _ _ (by decide)).1 (by have := (fmod_rng a 2147483647 (by decide)).2; omega))
  have hpw := o_pow 10 18 (by decide) (by decide) (by decide)
  have rm := fun a => fmod_rng a many (by omega)
  have r1 := fun a => fmod_rng a 2147483629 (by omega)
  have rd (a : Int) (ha : 0 ≤ a) : 0 ≤ a.fdiv many := Int.fdiv_nonneg ha (by omega)
  by_cases hA : r = 0 ∧ p < (cells.length : Int)
  · obtain ⟨rfl, hA⟩ := hA
    have hg : getD (cells.map D.int) p = some (.int (cells[p.toNat]'(by omega))) := by
      rw [getD_int hp (by simpa using hA)]; simp [show p.toNat < cells.length by omega]
    generalize hcell : cells[p.toNat]'(by omega) = cell at hg
    have hcell0 : 0 ≤ cell := by rw [← hcell]; exact hc _ (List.getElem_mem _)
    by_cases h18 : (1000000000000000000 : Int) ≤ cell
    · have hpos : 0 < cell := by omega
      simp [hj, Hand.mo, hA, hg, setxS, setxT, hset, hm1, hu1, hpw, h18, hpos, hmod, hdiv]
      refine ⟨_, ⟨cells, _, _, _, _⟩, ?_, (rm _).1, (rm _).2, rfl, rfl⟩
      exact ⟨hc, by show 0 ≤ p + 1; omega, rd _ hcell0, ⟨(r1 _).1, by have := (r1 (m * 69621 + cell + 29)).2; show Int.fmod _ _ < _; omega⟩, hc0⟩
    · simp [hj, Hand.mo, hA, hg, setxS, setxT, hset, hm1, hu1, hpw, h18, hmod, hm2, hm3, hu2, hu3, hd1, hd2, hd3, hu4]
      refine ⟨_, ⟨cells, _, _, _, _⟩, ?_, (rm _).1, (rm _).2, rfl, rfl⟩
      exact ⟨hc, by show 0 ≤ p + 1; omega, Int.le_refl 0, ⟨(r1 _).1, by have := (r1 (m * 69621 + cell + 29)).2; show Int.fmod _ _ < _; omega⟩, by show 0 ≤ c + 1; omega⟩
  · have hA' : r = 0 → ¬ p < (cells.length : Int) := fun q1 q2 => hA ⟨q1, q2⟩
    by_cases hB : 0 < r
    · have hr0 : ¬ r = 0 := by omega
      simp [hj, Hand.mo, hr0, setxS, setxT, hset, hB, hmod, hdiv]
      refine ⟨_, ⟨cells, _, _, _, _⟩, ?_, (rm _).1, (rm _).2, rfl, rfl⟩
      exact ⟨hc, hp, rd _ hr, hm0, hc0⟩
    · have hr0 : r = 0 := by omega
      subst hr0
      have hA2 : ¬ p < (cells.length : Int) := hA' rfl
      simp [hj, Hand.mo, hA2, setxS, setxT, hset, hmod, hm2, hm3, hu2, hu3, hd1, hd2, hd3, hu4]
      refine ⟨_, ⟨cells, _, _, _, _⟩, ?_, (rm _).1, (rm _).2, rfl, rfl⟩
      exact ⟨hc, hp, Int.le_refl 0, hm0, by show 0 ≤ c + 1; omega⟩
theorem hand_eq (ns : List Int) (h : Hs) : ∃ H : Hand, H.Ok ∧ g20 [.d (.scr ns)] h = some (.ok (.u H.mo), h) := by
  rw [R20]; unfold ir20
  simp
  rw [compL_to fun z : Int => D.int (if z < 0 then -z else z)]
  · have e7 (a : Int) := o_mul 7 a (okMul_l (by decide) (by decide))
    refine ⟨⟨(cutL ns none (some 63)).map fun z : Int => if z < 0 then -z else z, 0, 0, 83 + 7 * ((cutL ns none (some 63)).length : Int), 0⟩, ⟨?_, Int.le_refl 0, Int.le_refl 0, ?_, Int.le_refl 0⟩, ?_⟩
    · intro z hz
      obtain ⟨y, _, rfl⟩ := List.mem_map.mp hz
      split <;> omega
    · have h1 : HT.sIx ns.length ns.length (some 63) ≤ 63 := by
        show (if (63 : Int) < 0 then ((63 : Int) + (ns.length : Int)).toNat else min (63 : Int).toNat ns.length) ≤ 63
        rw [if_neg (by decide)]; exact Nat.min_le_left _ _
      have : (cutL ns none (some 63)).length ≤ 63 := by
        unfold cutL; rw [List.length_take]; omega
      show (0 : Int) ≤ 83 + 7 * ((cutL ns none (some 63)).length : Int) ∧ 83 + 7 * ((cutL ns none (some 63)).length : Int) < 2147483648
      omega
    · simp [e7, Hand.mo, Function.comp_def]
  · intro z hz; simp [compF]
theorem some_eq (H : Hand) (ok : H.Ok) (h : Hs) (j : Nat) (hj : h[j]? = some H.mo) (xs : List D) (h1 : xs ≠ []) (h2 : xs.length < 1000000) :
    ∃ (x : D) (H' : Hand), H'.Ok ∧ x ∈ xs ∧ g22 [.r j, .d (.lst xs)] h = some (.ok (.d x), h.set j H'.mo) := by
  have h0 : 0 < xs.length := List.length_pos_iff.mpr h1
  obtain ⟨d, H', ok', d0, d1, e⟩ := draw_eq H ok h j hj xs.length (by omega) (by omega)
  refine ⟨xs[d.toNat]'(by omega), H', ok', List.getElem_mem _, ?_⟩
  rw [R22]; unfold ir22
  have hg : getD xs d = some (xs[d.toNat]'(by omega)) := by rw [getD_int d0 d1]; simp [show d.toNat < xs.length by omega]
  simp [e, hg]
/-- draws in a row: what a comprehension over draws comes to -/
theorem compL_st {A : Type} {g : A → D} {f : D → Hs → R (Option D)} (I : Hs → Prop) (P : D → Prop) : ∀ (xs : List A) (h : Hs), I h → (∀ x ∈ xs, ∀ h, I h → ∃ d h', f (g x) h = some (.ok (some d), h') ∧ I h' ∧ P d) →
    ∃ ds h', compL f (xs.map g) h = some (.ok ds, h') ∧ I h' ∧ ds.length = xs.length ∧ ∀ d ∈ ds, P d
  | [], h, i, _ => ⟨[], h, rfl, i, rfl, by simp⟩
  | x :: xs, h, i, H => by
    obtain ⟨d, h1, e1, i1, p1⟩ := H x (List.mem_cons_self ..) h i
    obtain ⟨ds, h2, e2, i2, l2, p2⟩ := compL_st I P xs h1 i1 fun y hy => H y (List.mem_cons_of_mem _ hy)
    refine ⟨d :: ds, h2, by simp only [List.map_cons, compL, e1, e2], i2, by simp [l2], ?_⟩
    intro d' hd
    rcases List.mem_cons.mp hd with rfl | hd
    · exact p1
    · exact p2 _ hd
/-- kept or not by draws -/
theorem compL_pick {A : Type} {g : A → D} {f : D → Hs → R (Option D)} (F : A → D) (I : Hs → Prop) : ∀ (xs : List A) (h : Hs), I h → (∀ x ∈ xs, ∀ h, I h → ∃ (b : Bool) (h' : Hs), f (g x) h = some (.ok (if b then some (F x) else none), h') ∧ I h') →
    ∃ (ys : List A) (h' : Hs), compL f (xs.map g) h = some (.ok (ys.map F), h') ∧ I h' ∧ ys.Sublist xs
  | [], h, i, _ => ⟨[], h, rfl, i, .slnil⟩
  | x :: xs, h, i, H => by
    obtain ⟨b, h1, e1, i1⟩ := H x (List.mem_cons_self ..) h i
    obtain ⟨ys, h2, e2, i2, l2⟩ := compL_pick F I xs h1 i1 fun y hy => H y (List.mem_cons_of_mem _ hy)
    cases b with
    | true => exact ⟨x :: ys, h2, by simp only [List.map_cons, compL, e1, e2]; rfl, i2, l2.cons_cons _⟩
    | false => exact ⟨ys, h2, by simp only [List.map_cons, compL, e1, e2]; rfl, i2, l2.cons _⟩
/-- the heap but for the hand -/
def HS (h0 : Hs) (j : Nat) (h : Hs) : Prop := ∃ H : Hand, H.Ok ∧ h = h0.set j H.mo
theorem HS.at {h0 h : Hs} {j : Nat} (s : HS h0 j h) (hj : j < h0.length) : ∃ H : Hand, H.Ok ∧ h[j]? = some H.mo ∧ h = h0.set j H.mo := by
  obtain ⟨H, ok, rfl⟩ := s
  exact ⟨H, ok, by rw [List.getElem?_set_self hj], rfl⟩
theorem HS.draw {h0 h : Hs} {j : Nat} (s : HS h0 j h) (hj : j < h0.length) (many : Int) (hm : 1 ≤ many) (hm2 : many < 1000000) : ∃ (d : Int) (h' : Hs), HS h0 j h' ∧ 0 ≤ d ∧ d < many ∧ g21 [.r j, .d (.int many)] h = some (.ok (.d (.int d)), h') := by
  obtain ⟨H, ok, e, rfl⟩ := s.at hj
  obtain ⟨d, H', ok', d0, d1, e2⟩ := draw_eq H ok _ j e many hm hm2
  exact ⟨d, _, ⟨H', ok', by simp⟩, d0, d1, e2⟩
theorem HS.some {h0 h : Hs} {j : Nat} (s : HS h0 j h) (hj : j < h0.length) (xs : List D) (h1 : xs ≠ []) (h2 : xs.length < 1000000) : ∃ (x : D) (h' : Hs), HS h0 j h' ∧ x ∈ xs ∧ g22 [.r j, .d (.lst xs)] h = some (.ok (.d x), h') := by
  obtain ⟨H, ok, e, rfl⟩ := s.at hj
  obtain ⟨d, H', ok', m, e2⟩ := some_eq H ok _ j e xs h1 h2
  exact ⟨d, _, ⟨H', ok', by simp⟩, m, e2⟩
theorem HS.app {h0 h x : Hs} {j : Nat} (hj : j < h0.length) (s : HS (h0 ++ x) j h) : ∃ h', HS h0 j h' ∧ h = h' ++ x := by
  obtain ⟨H, ok, rfl⟩ := s
  exact ⟨h0.set j H.mo, ⟨H, ok, rfl⟩, by rw [List.set_append_left _ _ hj]⟩
theorem HS.ext {h0 h : Hs} {j : Nat} (hj : j < h0.length) (x : Hs) (s : HS h0 j h) : HS (h0 ++ x) j (h ++ x) := by
  obtain ⟨H, ok, rfl⟩ := s
  exact ⟨H, ok, by rw [List.set_append_left _ _ hj]⟩
theorem HS.len {h0 h : Hs} {j : Nat} (s : HS h0 j h) : h.length = h0.length := by
  obtain ⟨H, ok, rfl⟩ := s; simp
theorem WR_draw {h0 h : Hs} {j : Nat} {many : Int} {Q : X → Hs → Prop} (s : HS h0 j h) (hj : j < h0.length) (hm : 1 ≤ many) (hm2 : many < 1000000) (q : ∀ (d : Int) h', HS h0 j h' → 0 ≤ d → d < many → Q (.d (.int d)) h') : WR (g21 [.r j, .d (.int many)] h) Q := by
  obtain ⟨d, h', s', d0, d1, e⟩ := s.draw hj many hm hm2
  exact ⟨_, _, e, q d h' s' d0 d1⟩
theorem WR_some {h0 h : Hs} {j : Nat} {xs : List D} {Q : X → Hs → Prop} (s : HS h0 j h) (hj : j < h0.length) (h1 : xs ≠ []) (h2 : xs.length < 1000000) (q : ∀ (d : D) h', HS h0 j h' → d ∈ xs → Q (.d d) h') : WR (g22 [.r j, .d (.lst xs)] h) Q := by
  obtain ⟨d, h', s', m, e⟩ := s.some hj xs h1 h2
  exact ⟨_, _, e, q d h' s' m⟩
/-- a comprehension that draws -/
theorem WR_draws {A : Type} {h0 h hb : Hs} {j : Nat} {p1 : X} {its : List D} {xs : List A} {g : A → D} {f : D → Hs → R (Option D)} {Q : X → Hs → Prop} (P : A → D → Prop) (s : HS h0 j h) (hj : j < h0.length) (eb : hb = h ++ [.bn]) (hp : reopen p1 h = fun x => x)
    (H : ∀ x ∈ xs, ∀ h', HS (h0 ++ [.bn]) j h' → WR (f (g x) h') fun r h'' => HS (h0 ++ [.bn]) j h'' ∧ ∃ d, r = some d ∧ P x d)
    (q : ∀ ds h', HS h0 j h' → ds.length = xs.length → (∀ (i : Nat) x, xs[i]? = some x → ∃ d, ds[i]? = some d ∧ P x d) → Q (.u (.lst ds)) h') : WR (compE (p1, its) h (compL f (xs.map g) hb)) Q := by
  subst eb
  refine WR_compE (WR_compL (HS (h0 ++ [.bn]) j) P (s.ext hj _) H fun ds h' s' l pp => ?_)
  obtain ⟨h2, s2, rfl⟩ := HS.app hj s'
  simp only [compE_ok, WR_ok, hp]
  rw [show h.length = h2.length by rw [s.len, s2.len], take_self]
  exact q ds h2 s2 l pp
theorem WR_picks {A : Type} {h0 h hb : Hs} {j : Nat} {p1 : X} {its : List D} {xs : List A} {g : A → D} {f : D → Hs → R (Option D)} {Q : X → Hs → Prop} (F : A → D) (s : HS h0 j h) (hj : j < h0.length) (eb : hb = h ++ [.bn]) (hp : reopen p1 h = fun x => x)
    (H : ∀ x ∈ xs, ∀ h', HS (h0 ++ [.bn]) j h' → WR (f (g x) h') fun r h'' => HS (h0 ++ [.bn]) j h'' ∧ (r = none ∨ r = some (F x)))
    (q : ∀ (ys : List A) h', HS h0 j h' → ys.Sublist xs → Q (.u (.lst (ys.map F))) h') : WR (compE (p1, its) h (compL f (xs.map g) hb)) Q := by
  subst eb
  refine WR_compE (WR_pick (HS (h0 ++ [.bn]) j) F (s.ext hj _) H fun ds h' s' l => ?_)
  obtain ⟨h2, s2, rfl⟩ := HS.app hj s'
  simp only [compE_ok, WR_ok, hp]
  rw [show h.length = h2.length by rw [s.len, s2.len], take_self]
  exact q ds h2 s2 l
/-- a row of drawn bits -/
theorem ints_of {A : Type} {xs : List A} {ds : List D} {lo n : Int} (l : ds.length = xs.length) (p : ∀ (i : Nat) x, xs[i]? = some x → ∃ d, ds[i]? = some d ∧ ∃ b : Int, d = .int b ∧ lo ≤ b ∧ b < n) : ∃ bs : List Int, ds = bs.map .int ∧ bs.length = xs.length ∧ ∀ b ∈ bs, lo ≤ b ∧ b < n := by
  have key : ∀ ds : List D, (∀ d ∈ ds, ∃ b : Int, d = .int b ∧ lo ≤ b ∧ b < n) → ∃ bs : List Int, ds = bs.map .int ∧ ∀ b ∈ bs, lo ≤ b ∧ b < n := by
    intro ds
    induction ds with
    | nil => intro _; exact ⟨[], rfl, by simp⟩
    | cons d ds ih =>
      intro h
      obtain ⟨b, rfl, hb⟩ := h d (List.mem_cons_self ..)
      obtain ⟨bs, rfl, hbs⟩ := ih fun d hd => h d (List.mem_cons_of_mem _ hd)
      exact ⟨b :: bs, rfl, by simpa using ⟨hb, hbs⟩⟩
  obtain ⟨bs, rfl, hb⟩ := key ds (by
    intro d hd
    obtain ⟨i, hi, rfl⟩ := List.mem_iff_getElem.mp hd
    obtain ⟨d', e, b, e2, hb⟩ := p i (xs[i]'(by omega)) (by simp [show i < xs.length by omega])
    rw [List.getElem?_eq_getElem hi] at e
    exact ⟨b, (Option.some.inj e).trans e2, hb⟩)
  exact ⟨bs, rfl, by simpa using l, hb⟩
end Kd
set_option Elab.async false
set_option linter.all false
set_option maxRecDepth 100000
set_option maxHeartbeats 4000000
namespace Kd
open PySem PySem.Spec Ev Ev.Pl
local macro_rules | `(tactic| walk_at "wp") => `(tactic| (repeat (with_reducible first | apply WF_seq | apply WF_bns | apply WR_bnd | apply WR_endR | apply WF_unbrk)))
abbrev tD (t : List Int) : D := .tup (t.map .int)
/-- the loop of the tables -/
def TJ (h0 : Hs) (j n : Nat) (kind : Int) (xs : List Nat) (env : Ev.Env) (h : Hs) : Prop := ∃ (ts : List (List Int)) (h1 : Hs) (v5 v6 v7 v8 v9 v10 v11 : Option W), xs.length + ts.length = n ∧ (∀ t ∈ ts, t.length = 2 ^ n ∧ ∀ b ∈ t, 0 ≤ b ∧ b < 2) ∧ HS h0 j h1 ∧ h = h1 ++ [.lst (ts.map tD)] ∧
    env = [some (.r j), some (.d (.int n)), some (.d (.int (2 ^ n))), some (.r h1.length), some (.d (.int kind)), v5, v6, v7, v8, v9, v10, v11, none, none, none, none, none, none, none]
theorem law_tables_wp {h0 h : Hs} {j : Nat} {Q : X → Hs → Prop} (s : HS h0 j h) (hj : j < h0.length) (n : Nat) (hn : n ≤ 8) (q : ∀ (ts : List (List Int)) h', HS h0 j h' → ts.length = n → (∀ t ∈ ts, t.length = 2 ^ n ∧ ∀ b ∈ t, 0 ≤ b ∧ b < 2) → Q (.d (.tup (ts.map tD))) h') :
    WR (g24 [.r j, .d (.int n)] h) Q := by
  rw [R24]; unfold ir24
  have hj' : ∀ x : Hs, j < (h0 ++ x).length := fun x => by simp; omega
  have hpow : 2 ^ n ≤ 256 := Nat.pow_le_pow_right (by decide) (by omega : n ≤ 8)
  have e2a : (2 : Int) ^ n ≤ 256 := by exact_mod_cast hpow
  have e2b : (0 : Int) ≤ (2 : Int) ^ n := by exact_mod_cast Nat.zero_le (2 ^ n)
  have e2c : ((2 : Int) ^ n).toNat = 2 ^ n := by
    have q : ((2 ^ n : Nat) : Int) = (2 : Int) ^ n := by norm_cast
    rw [← q]; exact Int.toNat_natCast _
  simp [law_states_eq n (by omega), statesL_len]
  walk_at "wp"
  refine WR_draw (s.ext hj _) (hj' _) (by decide) (by decide) fun kind h1 s1 k0 k1 => ?_
  obtain ⟨h2, s2, rfl⟩ := HS.app hj s1
  simp [rngD_int (n : Int) (by omega) (by omega)]
  walk_at "wp"
  refine WF_forL (TJ h0 j n kind) ?_ ?_ ?_
  · exact ⟨[], h2, none, none, none, none, none, none, none, by simp, by simp, s2, rfl, by rw [s.len, s2.len]⟩
  · rintro x xs env h ⟨ts, h1, v5, v6, v7, v8, v9, v10, v11, hl, ht, s1, rfl, rfl⟩
    simp [forF]
    have hlen : ts.length < sizeLine := Nat.lt_of_lt_of_le (by simp at hl; omega : ts.length < 9) (by decide)
    have hstep : ∀ (t : List Int) (h3 : Hs) (w5 w6 w7 w8 w9 w10 w11 : Option W), HS h0 j h3 → t.length = 2 ^ n → (∀ b ∈ t, 0 ≤ b ∧ b < 2) →
      TJ h0 j n kind xs [some (W.r j), some (W.d (.int n)), some (W.d (.int (2 ^ n))), some (W.r h1.length), some (W.d (.int kind)), w5, w6, w7, w8, w9, w10, w11, none, none, none, none, none, none, none] (h3 ++ [MO.lst ((ts.map tD) ++ [tD t])]) := by
      intro t h3 w5 w6 w7 w8 w9 w10 w11 s3 lt bt
      refine ⟨ts ++ [t], h3, w5, w6, w7, w8, w9, w10, w11, by simp at hl ⊢; omega, ?_, s3, by simp, by rw [s1.len, s3.len]⟩
      intro t' ht'
      rcases List.mem_append.mp ht' with q | q
      · exact ht t' q
      · simp at q; subst q; exact ⟨lt, bt⟩
    have happ : ∀ (t : List Int) (h3 : Hs), HS h0 j h3 → appX (h3 ++ [MO.lst (ts.map tD)]) h1.length (.d (.tup (t.map .int))) = some (.ok (.d .non), h3 ++ [MO.lst ((ts.map tD) ++ [tD t])]) := by
      intro t h3 s3
      rw [appX_eq (d := .tup (t.map .int)) (xs := ts.map tD) rfl (by rw [s1.len, ← s3.len]; simp) (by simpa using hlen)]
      rw [s1.len, ← s3.len]; simp
    have hat : ∀ h3 : Hs, HS h0 j h3 → (h3 ++ [MO.lst (ts.map tD)])[h1.length]? = some (MO.lst (ts.map tD)) := fun h3 s3 => by rw [s1.len, ← s3.len]; simp
    refine WF_ite (fun hk => ?_) (fun hk => WF_ite (fun hk1 => ?_) (fun hk1 => ?_))
    · rw [ev_app (j := h1.length) (ys := ts.map tD) rfl (by simp)]
      simp [rngD_int ((2 : Int) ^ n) (by omega) (by omega)]
      walk_at "wp"
      refine WR_draws (fun _ d => ∃ b : Int, d = .int b ∧ 0 ≤ b ∧ b < 2) (s1.ext hj _) (hj' _) (by simp) (by rfl) (fun x hx h' s' => ?_) fun ds h' s' l p => ?_
      · simp [compF]
        walk_at "wp"
        refine WR_draw s' (by simp; omega) (by decide) (by decide) fun d h3 s3 d0 d1 => ?_
        simp [d0, d1]; simpa using s3
      · obtain ⟨bs, rfl, lb, hb⟩ := ints_of l p
        obtain ⟨h3, s3, rfl⟩ := HS.app hj s'
        simp [happ bs h3 s3]
        exact hstep bs h3 _ _ _ _ _ _ _ s3 (by simpa [e2c] using lb) hb
    · simp [rngD_int (n : Int) (by omega) (by omega)]
      walk_at "wp"
      refine WR_picks (fun k : Nat => D.int (k : Int)) (s1.ext hj _) (hj' _) (by simp) (by rfl) (fun x hx h' s' => ?_) fun lot h' s' l => ?_
      · simp [compF]
        walk_at "wp"
        refine WR_draw s' (by simp; omega) (by decide) (by decide) fun d h3 s3 d0 d1 => ?_
        simp
        split
        · simp; simpa using s3
        · simp; simpa using s3
      · obtain ⟨h3, s3, rfl⟩ := HS.app hj s'
        simp [cutL_map, rngD_int 4 (by decide) (by decide)]
        walk_at "wp"
        refine WR_draws (fun _ d => ∃ b : Int, d = .int b ∧ 0 ≤ b ∧ b < 2) (s3.ext hj _) (hj' _) (by simp) (by rfl) (fun x hx h' s' => ?_) fun ds h' s' l2 p => ?_
        · simp [compF]
          walk_at "wp"
          refine WR_draw s' (by simp; omega) (by decide) (by decide) fun d h3 s3 d0 d1 => ?_
          simp [d0, d1]; simpa using s3
        · obtain ⟨told, rfl, lb, hb⟩ := ints_of l2 p
          obtain ⟨h4, s4, rfl⟩ := HS.app hj s'
          have hlot : ∀ k ∈ cutL lot none (some 2), k < n := fun k hk => by
            have := l.subset (cutL_mem hk); simpa using this
          have hlot2 : (cutL lot none (some 2)).length ≤ 2 := by
            have h1 : HT.sIx lot.length lot.length (some 2) ≤ 2 := by
              show (if (2 : Int) < 0 then ((2 : Int) + (lot.length : Int)).toNat else min (2 : Int).toNat lot.length) ≤ 2
              rw [if_neg (by decide)]; exact Nat.min_le_left _ _
            unfold cutL; rw [List.length_take]; omega
          generalize cutL lot none (some 2) = L at hlot hlot2
          have lb : told.length = 4 := by simpa using lb
          simp [law_states_eq n (by omega)]
          have hrow : ∀ s ∈ statesL n, ∀ k ∈ L, getD (s.map D.int) (k : Int) = some (.int (s[k]?.getD 0)) := fun s hs k hk => by
            have hl := (statesL_mem n s hs).1
            have := hlot k hk
            rw [getD_nat (by simp; omega)]; simp [show k < s.length by omega]
          have hbit : ∀ s ∈ statesL n, ∀ k : Nat, s[k]?.getD 0 = 0 ∨ s[k]?.getD 0 = 1 := fun s hs k => by
            rcases Nat.lt_or_ge k s.length with q | q
            · simp [q]; exact (statesL_mem n s hs).2 _ (List.getElem_mem _)
            · simp [q]
          rw [compL_to fun s : List Int => D.lst (((L.map fun k => s[k]?.getD 0) ++ [0, 0]).map .int)]
          · have hrows : ∀ s ∈ statesL n, ∃ a b r, (L.map fun k => s[k]?.getD 0) ++ [0, 0] = a :: b :: r ∧ (a = 0 ∨ a = 1) ∧ (b = 0 ∨ b = 1) := fun s hs => by
              match L, hlot2 with
              | [], _ => exact ⟨0, 0, [], rfl, .inl rfl, .inl rfl⟩
              | [k], _ => exact ⟨_, 0, [0], rfl, hbit s hs k, .inl rfl⟩
              | [k, l], _ => exact ⟨_, _, [0, 0], rfl, hbit s hs k, hbit s hs l⟩
              | _ :: _ :: _ :: _, q => simp at q
            simp
            rw [ev_app (j := h1.length) (ys := ts.map tD) rfl (hat _ s4)]
            simp
            rw [compL_to fun s : List Int => D.int (told[(((L.map fun k => s[k]?.getD 0) ++ [0, 0])[0]?.getD 0 + 2 * ((L.map fun k => s[k]?.getD 0) ++ [0, 0])[1]?.getD 0).toNat]?.getD 0)]
            · simp
              have := happ ((statesL n).map fun s : List Int => told[(((L.map fun k => s[k]?.getD 0) ++ [0, 0])[0]?.getD 0 + 2 * ((L.map fun k => s[k]?.getD 0) ++ [0, 0])[1]?.getD 0).toNat]?.getD 0) h4 s4
              simp [Function.comp_def] at this
              simp [this]
              have h5 := hstep ((statesL n).map fun s : List Int => told[(((L.map fun k => s[k]?.getD 0) ++ [0, 0])[0]?.getD 0 + 2 * ((L.map fun k => s[k]?.getD 0) ++ [0, 0])[1]?.getD 0).toNat]?.getD 0) h4 (some (.d (.int x))) (some (.d (.lst (L.map fun k : Nat => D.int (k : Int))))) (some (.d (.lst (told.map D.int)))) (some (.d (.lst ((statesL n).map fun s => D.lst (((L.map fun k => s[k]?.getD 0) ++ [0, 0]).map .int))))) v9 v10 v11 s4 (by simp [statesL_len]) (by
                intro b hb'
                obtain ⟨s, hs, rfl⟩ := List.mem_map.mp hb'
                obtain ⟨a, b, r, e, ha, hb2⟩ := hrows s hs
                rw [e]
                simp
                have : (a + 2 * b).toNat < told.length := by omega
                simp [this]
                exact hb _ (List.getElem_mem _))
              simpa [tD, Function.comp_def] using h5
            · intro s hs
              obtain ⟨a, b, r, e, ha, hb2⟩ := hrows s hs
              have e2 : ((L.map fun k => s[k]?.getD 0) ++ [0, 0]).map D.int = .int a :: .int b :: r.map .int := by rw [e]; rfl
              have : (a + 2 * b).toNat < told.length := by omega
              have e3 : L.map (D.int ∘ fun k => s[k]?.getD 0) ++ [D.int 0, D.int 0] = .int a :: .int b :: r.map .int := by simpa using e2
              simp [compF, e, e3, o_mul 2 b (okMul_l (by decide) (by decide))]
              rw [getD_int (by omega) (by simp; omega)]
              simp [this]
          · intro s hs
            simp [compF]
            rw [compL_to fun k : Nat => D.int (s[k]?.getD 0)]
            · simp [sem2, addD]
              rw [if_pos (Nat.le_trans (by omega : L.length + 2 ≤ 1000) (by decide))]
              simp [Function.comp_def]
            · intro k hk; simp [compF, hrow s hs k hk]
    · simp [rngD_int (n : Int) (by omega) (by omega)]
      walk_at "wp"
      refine WR_draws (fun _ d => ∃ b : Int, d = .int b ∧ -2 ≤ b ∧ b < 3) (s1.ext hj _) (hj' _) (by simp) (by rfl) (fun x hx h' s' => ?_) fun ds h' s' l2 p => ?_
      · simp [compF]
        walk_at "wp"
        refine WR_draw s' (by simp; omega) (by decide) (by decide) fun d h3 s3 d0 d1 => ?_
        simp
        exact ⟨by simpa using s3, by omega, by omega⟩
      · obtain ⟨ws, rfl, lb, hb⟩ := ints_of l2 p
        obtain ⟨h3, s3, rfl⟩ := HS.app hj s'
        simp
        walk_at "wp"
        refine WR_draw (s3.ext hj _) (hj' _) (by decide) (by decide) fun d h4 s4' d0 d1 => ?_
        obtain ⟨h4, s4, rfl⟩ := HS.app hj s4'
        clear s4'
        simp [law_states_eq n (by omega)]
        rw [compL_to fun s : List Int => D.int (((ws.zip s).map fun p => p.1 * p.2).sum)]
        · simp
          rw [ev_app (j := h1.length) (ys := ts.map tD) rfl (hat _ s4)]
          simp
          rw [compL_to fun s : List Int => D.int (if kind = 2 then (if d - 1 < ((ws.zip s).map fun p => p.1 * p.2).sum then 1 else 0) else ((((ws.zip s).map fun p => p.1 * p.2).sum + (d - 1)).fmod 2))]
          · simp
            have := happ ((statesL n).map fun s : List Int => if kind = 2 then (if d - 1 < ((ws.zip s).map fun p => p.1 * p.2).sum then 1 else 0) else ((((ws.zip s).map fun p => p.1 * p.2).sum + (d - 1)).fmod 2)) h4 s4
            simp [Function.comp_def] at this
            simp [this]
            have h5 := hstep ((statesL n).map fun s : List Int => if kind = 2 then (if d - 1 < ((ws.zip s).map fun p => p.1 * p.2).sum then 1 else 0) else ((((ws.zip s).map fun p => p.1 * p.2).sum + (d - 1)).fmod 2)) h4 (some (.d (.int x))) v6 v7 v8 (some (.d (.lst (ws.map D.int)))) (some (.d (.int (d - 1)))) (some (.d (.lst ((statesL n).map fun s => D.int (((ws.zip s).map fun p => p.1 * p.2).sum))))) s4 (by simp [statesL_len]) (by
              intro b hb'
              obtain ⟨s, hs, rfl⟩ := List.mem_map.mp hb'
              split
              · split <;> omega
              · exact fmod_rng _ 2 (by decide))
            simpa [tD, Function.comp_def] using h5
          · intro s hs
            simp [compF]
            split
            · simp
            · simp [o_mod _ 2 (by decide)]
        · intro s hs
          have hz := zipD_map D.int D.int ws s
          simp [compF, zipX, zipS, hz]
          rw [compL_to fun p : Int × Int => D.int (p.1 * p.2)]
          · simp
          · intro p hp
            have := hb p.1 (List.of_mem_zip hp).1
            have ok : okMul p.1 p.2 = true := by simp [okMul]; left; omega
            simp [compF, o_mul _ _ ok]
  · rintro env hh ⟨ts, h1, v5, v6, v7, v8, v9, v10, v11, hl, ht, s1, rfl, rfl⟩
    simp
    rw [show h.length = h1.length by rw [s.len, s1.len], take_self]
    exact q ts h1 s1 (by simpa using hl) ht
end Kd
set_option Elab.async false
set_option linter.all false
set_option maxRecDepth 100000
set_option maxHeartbeats 4000000
namespace Kd
open PySem PySem.Spec Ev Ev.Pl
abbrev tTxt : D := .str (ofL [116, 101, 120, 116])
abbrev tTold : D := .str (ofL [116, 111, 108, 100])
abbrev tNone : D := .str (ofL [110, 111, 110, 101])
abbrev toldR (t : Hs → R Ev.X) (h : Hs) : R Ev.X := okOnly (run (Cb.withTh t) n30.length ir30 [.th] h)
theorem told_run (t : Hs → R Ev.X) (h : Hs) : run (Cb.withTh t) n30.length ir30 [.th] h = endR h.length (ex (Cb.withTh t) ir30 [some .th, none, none, none] h) := rfl
theorem told_d {t : Hs → R Ev.X} {h h' : Hs} {v : D} (e : t h = some (.ok (.d v), h')) (hv : pd v = true) (hn : tyB sub (.own 6) v = false) (hl : h'.length = h.length) : toldR t h = some (.ok (.d (.tup [tTold, v])), h') := by
  unfold toldR; rw [told_run]; unfold ir30
  have e2 : (Cb.withTh t).th h = some (.ok (.d v), h') := e
  have hv2 : pdK (Cb.withTh t).kc v = true := hv
  have hs : (Cb.withTh t).sub = sub := rfl
  simp [e2, isi1_pd hv2, hs, hn, okOnly, ← hl]
theorem told_net {t : Hs → R Ev.X} {h h' : Hs} {v w : D} (e : t h = some (.ok (.u (.ins 6 [v, w])), h')) (hl : h'.length = h.length) : toldR t h = some (.ok (.d (.tup [tTold, v])), h') := by
  unfold toldR; rw [told_run]; unfold ir30
  have e2 : (Cb.withTh t).th h = some (.ok (.u (.ins 6 [v, w])), h') := e
  have hv2 : pdK (Cb.withTh t).kc (.ins 6 [v, w]) = true := rfl
  have hs : (Cb.withTh t).sub = sub := rfl
  have hf : (Cb.withTh t).nf = nf := rfl
  simp [e2, isi1_pd hv2, hs, hf, nf, tyB, sub, okOnly, ← hl]
theorem told_bad {t : Hs → R Ev.X} {h h' : Hs} {v : D} (e : t h = some (.err 4 [v], h')) (hl : h'.length = h.length) : toldR t h = some (.ok (.d (.tup [tTxt, v])), h') := by
  unfold toldR; rw [told_run]; unfold ir30
  have e2 : (Cb.withTh t).th h = some (.err 4 [v], h') := e
  have hs : (Cb.withTh t).sub = sub := rfl
  have hf : (Cb.withTh t).xfl = xfl := rfl
  have hz : (3 : Nat) < sizeLine := by decide
  have c1 : semL .count (.lst [.bl true, .bl false, .bl false, .bl false]) (.bl true) = some (.d (.int 1)) := rfl
  simp [e2, hs, hf, xfl, sub, okOnly, ← hl, ev_app (j := h'.length), appX, hz, c1, fldK]
theorem told_NoNet {t : Hs → R Ev.X} {h h' : Hs} (e : t h = some (.err 3 [], h')) (hl : h'.length = h.length) : toldR t h = some (.ok (.d (.tup [tNone, .int 1])), h') := by
  unfold toldR; rw [told_run]; unfold ir30
  have e2 : (Cb.withTh t).th h = some (.err 3 [], h') := e
  have hs : (Cb.withTh t).sub = sub := rfl
  have hf : (Cb.withTh t).xfl = xfl := rfl
  have hz : (3 : Nat) < sizeLine := by decide
  have c1 : semL .count (.lst [.bl false, .bl true, .bl false, .bl false]) (.bl true) = some (.d (.int 1)) := rfl
  have c2 : semL .index (.lst [.bl false, .bl true, .bl false, .bl false]) (.bl true) = some (.d (.int 1)) := rfl
  simp [e2, hs, hf, xfl, sub, okOnly, ← hl, ev_app (j := h'.length), appX, hz, c1, c2, fldK]
theorem told_NoRule {t : Hs → R Ev.X} {h h' : Hs} (e : t h = some (.err 5 [], h')) (hl : h'.length = h.length) : toldR t h = some (.ok (.d (.tup [tNone, .int 2])), h') := by
  unfold toldR; rw [told_run]; unfold ir30
  have e2 : (Cb.withTh t).th h = some (.err 5 [], h') := e
  have hs : (Cb.withTh t).sub = sub := rfl
  have hf : (Cb.withTh t).xfl = xfl := rfl
  have hz : (3 : Nat) < sizeLine := by decide
  have c1 : semL .count (.lst [.bl false, .bl false, .bl true, .bl false]) (.bl true) = some (.d (.int 1)) := rfl
  have c2 : semL .index (.lst [.bl false, .bl false, .bl true, .bl false]) (.bl true) = some (.d (.int 2)) := rfl
  simp [e2, hs, hf, xfl, sub, okOnly, ← hl, ev_app (j := h'.length), appX, hz, c1, c2, fldK]
theorem told_NoState {t : Hs → R Ev.X} {h h' : Hs} (e : t h = some (.err 2 [], h')) (hl : h'.length = h.length) : toldR t h = some (.ok (.d (.tup [tNone, .int 3])), h') := by
  unfold toldR; rw [told_run]; unfold ir30
  have e2 : (Cb.withTh t).th h = some (.err 2 [], h') := e
  have hs : (Cb.withTh t).sub = sub := rfl
  have hf : (Cb.withTh t).xfl = xfl := rfl
  have hz : (3 : Nat) < sizeLine := by decide
  have c1 : semL .count (.lst [.bl false, .bl false, .bl false, .bl true]) (.bl true) = some (.d (.int 1)) := rfl
  have c2 : semL .index (.lst [.bl false, .bl false, .bl false, .bl true]) (.bl true) = some (.d (.int 3)) := rfl
  simp [e2, hs, hf, xfl, sub, okOnly, ← hl, ev_app (j := h'.length), appX, hz, c1, c2, fldK]
end Kd
set_option Elab.async false
set_option linter.all false
set_option maxRecDepth 100000
set_option maxHeartbeats 4000000
namespace Kd
open PySem PySem.Spec Ev Ev.Pl
local macro_rules | `(tactic| walk_at "wp") => `(tactic| (repeat (with_reducible first | apply WF_seq | apply WF_bns | apply WR_bnd | apply WR_endR | apply WF_unbrk)))
/-- plain data, so deep -/
def plain : Nat → D → Bool
  | _, .non => true | _, .bl _ => true | _, .int _ => true
  | _, .str s => PyData.strOk s
  | n + 1, .tup xs => xs.all (plain n)
  | n + 1, .lst xs => xs.all (plain n)
  | _, _ => false
theorem is_step (C : Cl) (hk : C.kc = Cb.kc) (m : Nat) (d : D) (hd : plain m d = true) (hg : ∀ n, n + 1 = m → ∀ d, plain n d = true → ∀ h, C.G 23 [.d d, .d d] h = some (.ok (.d (.bl true)), h)) (h : Hs) :
    endR h.length (ex C ir23 [some (.d d), some (.d d), none, none] h) = some (.ok (.d (.bl true)), h) := by
  unfold ir23
  cases d with
  | non => simp [isi2_pd, isi1_pd, hk, tyB, isNon]
  | bl b => simp [isi2_pd, isi1_pd, hk, tyB, isNon]
  | int b => simp [isi2_pd, isi1_pd, hk, tyB, isNon]
  | str s =>
    have hs : PyData.strOk s = true := by cases m <;> exact hd
    simp [isi2_pd, isi1_pd, hk, tyB, isNon, eqD_str hs hs]
  | tup xs =>
    cases m with
    | zero => cases hd
    | succ m =>
      have hx : ∀ x ∈ xs, plain m x = true := by simpa [plain] using hd
      simp [isi2_pd, isi1_pd, hk, tyB, zipX, zipS]
      rw [zipD_self, compL_to fun x => D.bl true]
      · simp
      · intro x hm; simp [compF, hg m rfl x (hx x hm)]
  | lst xs =>
    cases m with
    | zero => cases hd
    | succ m =>
      have hx : ∀ x ∈ xs, plain m x = true := by simpa [plain] using hd
      simp [isi2_pd, isi1_pd, hk, tyB, zipX, zipS]
      rw [zipD_self, compL_to fun x => D.bl true]
      · simp
      · intro x hm; simp [compF, hg m rfl x (hx x hm)]
  | _ => cases m <;> cases hd
theorem is_same0 : ∀ (m k : Nat), m < k → ∀ (d : D), plain m d = true → ∀ h, fixN Cs22 23 n23.length ir23 k [.d d, .d d] h = some (.ok (.d (.bl true)), h) := by
  intro m
  induction m with
  | zero =>
    intro k hk d hd h
    obtain ⟨k, rfl⟩ : ∃ j, k = j + 1 := ⟨k - 1, by omega⟩
    rw [R23]
    exact is_step _ ((Cl.add_kc _ _ _).trans (by simp)) 0 d hd (fun n e => by omega) h
  | succ m ih =>
    intro k hk d hd h
    obtain ⟨k, rfl⟩ : ∃ j, k = j + 1 := ⟨k - 1, by omega⟩
    rw [R23]
    refine is_step _ ((Cl.add_kc _ _ _).trans (by simp)) (m + 1) d hd (fun n e d hd h => ?_) h
    rw [Cl.add_G_eq]
    exact ih k (by omega) d (by cases e; exact hd) h
theorem is_same (d : D) (hd : plain 7 d = true) (h : Hs) : g23 [.d d, .d d] h = some (.ok (.d (.bl true)), h) := is_same0 7 8 (by decide) d hd h

/-- what is due of a net's text -/
def dueNet (l : List Nat) : D := match readNet l with
  | .error k => .tup [.str (ofL [116, 101, 120, 116]), .int k]
  | .ok ts => .tup [.str (ofL [116, 111, 108, 100]), tabD ts]
theorem law_read_eq (l : List Nat) (hl : TOk l) (h : Hs) : g27 [.d (.str (ofL l))] h = some (.ok (.d (dueNet l)), h) := by
  rw [R27]; unfold ir27 dueNet readNet
  have hpt : ∀ p ∈ splitC 10 l, TOk p := fun p hp => hl.part hp
  have hs := split_txt hl 10 (by decide)
  rw [split_two 10 l] at hpt hs
  generalize (splitC 10 l).dropLast = whole at *
  generalize (splitC 10 l).getLast _ = last at *
  have hw : ∀ p ∈ whole, TOk p := fun p hp => hpt p (by simp [hp])
  have hla : TOk last := hpt last (by simp)
  simp [hs]
  have hc : cutL (whole.map (fun p => D.str (ofL p)) ++ [D.str (ofL last)]) none (some (-1)) = whole.map fun p => D.str (ofL p) := by
    rw [cutL_init]; simp
  simp [hc, readRows, getD_last]
  by_cases hw2 : 1 ≤ whole.length ∧ whole.length ≤ 7
  · obtain ⟨h1, h2⟩ := hw2
    have e1 : ¬ (whole.length : Int) < 1 := by omega
    have e2 : ¬ (7 : Int) < (whole.length : Int) := by omega
    have h0 : ¬ whole = [] := fun e => by simp [e] at h1
    simp [e1, e2, h0, h1, h2, enumD_map]
    rw [forL_exit (fun z : Option W × Option W => [some (W.d (.str (ofL l))), some (W.d (.lst (whole.map (fun p => D.str (ofL p)) ++ [D.str (ofL last)]))), some (W.d (.lst (whole.map fun p => D.str (ofL p)))), z.1, z.2, none]) (fun p : List Nat × Nat => fun _ => (some (W.d (.int p.2)), some (W.d (.str (ofL p.1))))) (fun p : List Nat × Nat => if rowOk (2 ^ whole.length) p.1 then none else some ((p.2 : Int) + 1)) (fun p k => Fl.ret (.d (.tup [.str (ofL [116, 101, 120, 116]), .int k]))) (none, none) rfl (fun _ _ => rfl)]
    · cases hq : whole.zipIdx.findSome? fun p : List Nat × Nat => if rowOk (2 ^ whole.length) p.1 then none else some ((p.2 : Int) + 1) with
      | some k => obtain ⟨x, hx, e⟩ := forRes_some hq; rw [e]; simp
      | none =>
        rw [forRes_none hq]
        have hbits := rows_of whole fun i p hp => findSome_ite_none hq (p, i) hp
        simp [getD_last, eqD_txt hla (b := []) ⟨by simp, by simp⟩]
        by_cases hlast : last = []
        · subst hlast
          simp
          rw [compL_to fun p : List Nat => D.tup ((valL p).map .int)]
          · simp [Function.comp_def, tabD]
          · intro p hp
            have hf := bit_figs (hbits p hp).2
            simp [compF, seqD_txt (hw p hp)]
            rw [compL_to fun c : Nat => D.int ((c : Int) - 48)]
            · simp [valL, Function.comp_def]
            · intro c hc
              have := hf c hc
              simp [compF, int_fig this.1 this.2]
        · simp [hlast]
    · intro p hp z
      have hp1 := List.fst_mem_of_mem_zipIdx hp
      simp [forF, law_size_eq whole.length (by omega), len_txt (hw p.1 hp1), seqD_txt (hw p.1 hp1)]
      by_cases hlen : (p.1.length : Int) = 2 ^ whole.length
      · simp [hlen]
        rw [compL_to fun c : Nat => D.bl (bitS c)]
        · have hall : sem1 .all (.lst (p.1.map fun x => D.bl (bitS x))) = some (.d (.bl (allB p.1))) := u_all_map bitS p.1
          have hro : rowOk (2 ^ whole.length) p.1 = allB p.1 := by simp only [rowOk, hlen, decide_true, Bool.true_and]; rfl
          simp only [compE_ok, take_self, reopen_d, bnd_ok, X.rd_u, MO.rd_lst, Option.bind_some, hall, hro]
          cases allB p.1 <;> simp
        · intro c hc; simp [compF, bitS]
      · have hro : rowOk (2 ^ whole.length) p.1 = false := by simp [rowOk, hlen]
        simp [hlen, hro]
  · simp only [hw2, if_false]
    rcases Nat.eq_zero_or_pos whole.length with h0 | h0
    · have : whole = [] := List.length_eq_zero_iff.mp h0
      subst this; simp
    · have e1 : ¬ (whole.length : Int) < 1 := by omega
      have e2 : (7 : Int) < (whole.length : Int) := by omega
      have h0 : ¬ whole = [] := fun e => by simp [e] at h0
      simp [e1, e2, h0]
def dueState (l : List Nat) : D := match readState l with
  | .error k => .tup [tTxt, .int k]
  | .ok s => .tup [tTold, .tup (s.map .int)]
theorem law_state_eq (l : List Nat) (hl : TOk l) (h : Hs) : g29 [.d (.str (ofL l))] h = some (.ok (.d (dueState l)), h) := by
  rw [R29]; unfold ir29 dueState readState
  rcases Nat.eq_zero_or_pos l.length with h0 | h0
  · have : l = [] := List.length_eq_zero_iff.mp h0
    subst this; simp [len_txt hl]
  · have e1 : ¬ (l.length : Int) < 1 := by omega
    have hne : ¬ l = [] := fun e => by simp [e] at h0
    by_cases h2 : l.length ≤ 7
    · have e2 : ¬ (7 : Int) < (l.length : Int) := by omega
      simp [len_txt hl, e1, e2, hne, h2, seqD_txt hl, show 1 ≤ l.length by omega]
      rw [compL_to fun c : Nat => D.bl (bitS c)]
      · have hall : sem1 .all (.lst (l.map fun x => D.bl (bitS x))) = some (.d (.bl (allB l))) := u_all_map bitS l
        simp only [compE_ok, take_self, reopen_d, bnd_ok, X.rd_u, MO.rd_lst, Option.bind_some, hall]
        cases hb : allB l with
        | false => simp
        | true =>
          simp [seqD_txt hl]
          rw [compL_to fun c : Nat => D.int ((c : Int) - 48)]
          · simp [valL, Function.comp_def]
          · intro c hc
            have := bit_figs hb c hc
            simp [compF, int_fig this.1 this.2]
      · intro c hc; simp [compF, bitS]
    · have e2 : (7 : Int) < (l.length : Int) := by omega
      simp [len_txt hl, e1, e2, hne, h2]
def dueRule (l : List Nat) : D := match readRule l with
  | none => .tup [tTxt, .int 1]
  | some (a, b) => .tup [tTold, .tup [.tup (a.map .int), .tup (b.map .int)]]
theorem asc_get (ns : List Int) {i : Nat} (hi : i < ns.length - 1) : getD (ns.map D.int) (i : Int) = some (.int (ns[i]?.getD 0)) ∧ getD (ns.map D.int) ((i : Int) + 1) = some (.int (ns[i + 1]?.getD 0)) := by
  constructor
  · rw [getD_nat (by simp; omega)]; simp [show i < ns.length by omega]
  · have := getD_nat (xs := ns.map D.int) (i := i + 1) (by simp; omega)
    simp at this; rw [this]; simp [show i + 1 < ns.length by omega]
theorem law_rule_eq (l : List Nat) (hl : TOk l) (h : Hs) : g28 [.d (.str (ofL l))] h = some (.ok (.d (dueRule l)), h) := by
  rw [R28]; unfold ir28 dueRule readRule
  have hpt : ∀ p ∈ splitC 58 l, TOk p := fun p hp => hl.part hp
  have hs := split_txt hl 58 (by decide)
  generalize splitC 58 l = rows at *
  simp [hs]
  match rows, hpt with
  | [], _ => simp
  | [a], _ => simp
  | a :: b :: c :: r, _ => simp [show ((r.length : Int) + 1 + 1 + 1 = 2) = False by simp; omega]
  | [a, b], hpt =>
    have ha := hpt a (by simp)
    have hb := hpt b (by simp)
    simp [seqD_txt hb]
    rw [compL_to fun c : Nat => D.bl (bitS c)]
    · have hall : sem1 .all (.lst (b.map fun x => D.bl (bitS x))) = some (.d (.bl (allB b))) := u_all_map bitS b
      simp only [compE_ok, take_self, reopen_d, bnd_ok, X.rd_u, MO.rd_lst, Option.bind_some, hall]
      cases hf : allB b with
      | false => simp
      | true =>
        have h45 : TOk [45] := ⟨by simp, by simp⟩
        have h00 : TOk [] := ⟨by simp, by simp⟩
        have bits : ∀ (env : Ev.Env) (h : Hs), True := fun _ _ => trivial
        have hsz : ∀ n : Nat, n ≤ 7 → ∀ h, g26 [.d (.int n)] h = some (.ok (.d (.int (2 ^ n))), h) := fun n hn h => law_size_eq n (by omega) h
        have hbit : ∀ c ∈ b, 48 ≤ c ∧ c ≤ 57 := bit_figs hf
        simp [eqD_txt ha h45, eqD_txt ha h00]
        by_cases h1 : a = [45]
        · subst h1
          have e0 := hsz 0 (by decide)
          simp [lampsF, rngD_int (-1) (by decide) (by decide), len_txt hb, ascB]
          simp at e0
          simp [e0]
          by_cases hl1 : (b.length : Int) = 1
          · have hl2 : b.length = 1 := by omega
            simp [hl1, hl2, seqD_txt hb]
            rw [compL_to fun c : Nat => D.int ((c : Int) - 48)]
            · simp [valL, Function.comp_def]
            · intro c hc
              have := hbit c hc
              simp [compF, int_fig this.1 this.2]
          · have hl2 : ¬ b.length = 1 := by omega
            simp [hl1, hl2]
        · simp [h1]
          by_cases h2 : a = []
          · subst h2; simp [lampsF]
          · simp [h2, seqD_txt ha]
            rw [compL_to fun c : Nat => D.bl (figS c)]
            · have hall : sem1 .all (.lst (a.map fun x => D.bl (figS x))) = some (.d (.bl (allF a))) := u_all_map figS a
              simp only [compE_ok, take_self, reopen_d, bnd_ok, X.rd_u, MO.rd_lst, Option.bind_some, hall]
              cases hfa : allF a with
              | false => simp [lampsF, h1, h2, hfa]
              | true =>
                have hlf : lampsF a = some (valL a) := by simp [lampsF, h1, h2, hfa]
                have hfig : ∀ c ∈ a, 48 ≤ c ∧ c ≤ 57 := fun c hc => by
                  have := figS_iff.mp (List.all_eq_true.mp hfa c hc); omega
                simp [seqD_txt ha, hlf, eqD_txt ha h45, h1]
                rw [compL_to fun c : Nat => D.int ((c : Int) - 48)]
                · have hval : a.map (fun c : Nat => D.int ((c : Int) - 48)) = (valL a).map .int := by simp [valL, Function.comp_def]
                  have halen := ha.len
                  have hp : 0 < a.length := List.length_pos_iff.mpr h2
                  have h3 : ((a.length : Int) - 1).toNat = a.length - 1 := by omega
                  simp [rngD_int ((a.length : Int) - 1) (by omega) (by omega), h3]
                  rw [compL_to fun i : Nat => D.bl (decide ((valL a)[i]?.getD 0 < (valL a)[i + 1]?.getD 0))]
                  · have hall2 : sem1 .all (.lst ((List.range (a.length - 1)).map fun i => D.bl (decide ((valL a)[i]?.getD 0 < (valL a)[i + 1]?.getD 0)))) = some (.d (.bl (ascB (valL a)))) := by
                      rw [u_all_map, ← ascB_range (valL a)]; simp
                    simp only [compE_ok, take_self, reopen_d, bnd_ok, X.rd_u, MO.rd_lst, Option.bind_some, hall2]
                    cases hasc : ascB (valL a) with
                    | false => simp
                    | true =>
                      have h7 : ((valL a).length : Int) ≤ 7 := isLot_len hasc (lampsF_rng hlf) (by decide)
                      simp at h7
                      have e0 := hsz a.length (by omega)
                      simp [len_txt hb, e0]
                      have hiff : ((b.length : Int) = 2 ^ a.length) ↔ (b.length = 2 ^ a.length) := by norm_cast
                      by_cases hl1 : b.length = 2 ^ a.length
                      · have hl2 := hiff.mpr hl1
                        simp [hl1, seqD_txt hb]
                        rw [compL_to fun c : Nat => D.int ((c : Int) - 48)]
                        · simp [valL, Function.comp_def]
                        · intro c hc
                          have := hbit c hc
                          simp [compF, int_fig this.1 this.2]
                      · have hl2 : ¬ ((b.length : Int) = 2 ^ a.length) := fun q => hl1 (hiff.mp q)
                        simp [hl1, hl2]
                  · intro i hi
                    simp at hi
                    obtain ⟨g0, g1⟩ := asc_get (valL a) (i := i) (by simpa using hi)
                    rw [← hval] at g0 g1
                    simp [compF, g0, g1]
                · intro c hc
                  have := hfig c hc
                  simp [compF, int_fig this.1 this.2]
            · intro c hc; simp [compF, figS]
    · intro c hc; simp [compF, bitS]
/-- a short text -/
structure Sh (l : List Nat) : Prop where
  ne : l ≠ []
  len : l.length ≤ 100
  sg : ∀ c ∈ l, c < 256
theorem Sh.ok {l : List Nat} (h : Sh l) : TOk l := ⟨by have := h.len; omega, h.sg⟩
theorem join_rows {ls : List (List Nat)} (h1 : ls.length ≤ 400) (h2 : ∀ l ∈ ls, l.length ≤ 100 ∧ ∀ c ∈ l, c < 256) : semM .join (.str (ofL [10])) (.lst (ls.map fun p => .str (ofL p))) = some (.d (.str (ofL (TL.joinL [10] ls)))) ∧ TOk (TL.joinL [10] ls) := by
  have hs := sum_le (n := 100) fun l hl => (h2 l hl).1
  have hj := joinL_len [10] ls
  simp at hj
  refine ⟨join_txt [10] ls (by simp; omega), by omega, fun c hc => ?_⟩
  rcases joinL_mem hc with h | ⟨l, hl, h⟩
  · simp at h; omega
  · exact (h2 l hl).2 c h
theorem law_spoiled_wp {h0 h : Hs} {j : Nat} {Q : X → Hs → Prop} (s : HS h0 j h) (hj : j < h0.length) (l : List Nat) (hl : Sh l) (q : ∀ (l' : List Nat) h', HS h0 j h' → TOk l' → Q (.d (.str (ofL l'))) h') :
    WR (g31 [.r j, .d (.str (ofL l))] h) Q := by
  rw [R31]; unfold ir31
  have ho := hl.ok
  have hlen := hl.len
  have hp : 0 < l.length := List.length_pos_iff.mpr hl.ne
  simp [len_txt ho]
  walk_at "wp"
  refine WR_draw s hj (by omega) (by omega) fun at' h1 s1 a0 a1 => ?_
  simp
  walk_at "wp"
  refine WR_draw s1 hj (by decide) (by decide) fun kind h2 s2 k0 k1 => ?_
  simp
  have hh : ∀ h3, HS h0 j h3 → List.take h.length h3 = h3 := fun h3 s3 => List.take_of_length_le (by rw [s.len, s3.len]; exact Nat.le_refl _)
  have cl : ∀ lo hi, (cutL l lo hi).length ≤ 100 := fun lo hi => Nat.le_trans (cutL_len l lo hi) hlen
  have ct : ∀ lo hi, TOk (cutL l lo hi) := fun lo hi => ho.cut lo hi
  refine WF_ite (fun hk => ?_) (fun hk => WF_ite (fun hk1 => ?_) (fun hk1 => WF_ite (fun hk2 => ?_) fun hk2 => ?_))
  · simp [cut_txt ho, add_txt (Nat.le_trans (cl _ _) (by decide)) (Nat.le_trans (cl _ _) (by decide)), hh _ s2]
    exact q _ _ s2 ((ct _ _).app (ct _ _) (by have := cl none (some at'); have := cl (some (at' + 1)) none; omega))
  · simp [cut_txt ho]
    walk_at "wp"
    refine WR_some s2 hj (by simp) (by simp) fun d h3 s3 hd => ?_
    have : ∃ m : List Nat, d = .str (ofL m) ∧ m.length ≤ 2 ∧ ∀ c ∈ m, c < 256 := by
      simp at hd
      rcases hd with rfl | rfl | rfl | rfl | rfl | rfl | rfl | rfl | rfl <;> exact ⟨_, rfl, by decide, by decide⟩
    obtain ⟨m, rfl, hm, hm2⟩ := this
    simp [cut_txt ho, add_txt (a := cutL l none (some at')) (b := m) (Nat.le_trans (cl _ _) (by decide)) (by omega), add_txt (a := cutL l none (some at') ++ m) (b := cutL l (some at') none) (by simp; have := cl none (some at'); omega) (Nat.le_trans (cl _ _) (by decide)), hh _ s3]
    refine q _ _ s3 ⟨by have := cl none (some at'); have := cl (some at') none; simp; omega, fun c hc => ?_⟩
    simp only [List.mem_append] at hc
    rcases hc with hc | hc | hc
    · exact (ct _ _).sg c hc
    · exact hm2 c hc
    · exact (ct _ _).sg c hc
  · have a1 := cl none (some at')
    have a2 := cl (some at') (some (at' + 1))
    have a3 := cl (some at') none
    simp [cut_txt ho, add_txt (a := cutL l none (some at')) (b := cutL l (some at') (some (at' + 1))) (by omega) (by omega), add_txt (a := cutL l none (some at') ++ cutL l (some at') (some (at' + 1))) (b := cutL l (some at') none) (by simp; omega) (by omega), hh _ s2]
    refine q _ _ s2 ⟨by simp; omega, fun c hc => ?_⟩
    simp only [List.mem_append] at hc
    rcases hc with hc | hc | hc <;> exact (ct _ _).sg c hc
  · have hr1 := splitC_len 10 l
    have hr2 : 0 < (splitC 10 l).length := List.length_pos_iff.mpr (splitC_ne 10 l)
    have hrm : ∀ p ∈ splitC 10 l, p.length ≤ 100 ∧ ∀ c ∈ p, c < 256 := fun p hp => ⟨Nat.le_trans (splitC_mem hp).1 hlen, fun c hc => hl.sg c ((splitC_mem hp).2 c hc)⟩
    simp [split_txt ho 10 (by decide)]
    generalize splitC 10 l = rows at hr1 hr2 hrm
    walk_at "wp"
    refine WR_draw s2 hj (by omega) (by omega) fun to h3 s3 t0 t1 => ?_
    have hc1 : ∀ lo hi, (cutL rows lo hi).length ≤ 101 := fun lo hi => Nat.le_trans (cutL_len rows lo hi) (by omega)
    have hcm : ∀ lo hi, ∀ p ∈ cutL rows lo hi, p.length ≤ 100 ∧ ∀ c ∈ p, c < 256 := fun lo hi p hp => hrm p (cutL_mem hp)
    simp
    refine WF_ite (fun hk => ?_) (fun hk => WF_ite (fun hk1 => ?_) (fun hk1 => ?_))
    · have b1 := hc1 none (some to)
      have b2 := hc1 (some (to + 1)) none
      have jr := join_rows (ls := cutL rows none (some to) ++ cutL rows (some (to + 1)) none) (by simp; omega) (fun p hp => (List.mem_append.mp hp).elim (hcm _ _ p) (hcm _ _ p))
      simp at jr
      simp [cutL_map, add_lst (a := (cutL rows none (some to)).map fun p => D.str (ofL p)) (b := (cutL rows (some (to + 1)) none).map fun p => D.str (ofL p)) (by simp; omega) (by simp; omega), jr.1, hh _ s3]
      exact q _ _ s3 jr.2
    · have b1 := hc1 none (some to)
      have b2 := hc1 (some to) (some (to + 1))
      have b3 := hc1 (some to) none
      have jr := join_rows (ls := cutL rows none (some to) ++ cutL rows (some to) (some (to + 1)) ++ cutL rows (some to) none) (by simp; omega) (fun p hp => (List.mem_append.mp hp).elim (fun hp => (List.mem_append.mp hp).elim (hcm _ _ p) (hcm _ _ p)) (hcm _ _ p))
      simp at jr
      simp [cutL_map, add_lst (a := (cutL rows none (some to)).map fun p => D.str (ofL p)) (b := (cutL rows (some to) (some (to + 1))).map fun p => D.str (ofL p)) (by simp; omega) (by simp; omega), add_lst (a := (cutL rows none (some to)).map (fun p => D.str (ofL p)) ++ (cutL rows (some to) (some (to + 1))).map fun p => D.str (ofL p)) (b := (cutL rows (some to) none).map fun p => D.str (ofL p)) (by simp; omega) (by simp; omega), jr.1, hh _ s3]
      exact q _ _ s3 jr.2
    · have hm : sem2 .mul (.str (ofL [10])) (.int 8) = some (.d (.str (ofL [10, 10, 10, 10, 10, 10, 10, 10]))) := by
        simp [sem2, mulD]
        refine ofL_lit ?_
        decide +kernel
      simp [hm, add_lst]
      walk_at "wp"
      refine WR_some s3 hj (by simp) (by simp) fun d h4 s4 hd => ?_
      have : ∃ m : List Nat, d = .str (ofL m) ∧ TOk m := by
        simp at hd
        rcases hd with rfl | rfl | rfl | rfl | rfl | rfl | rfl | rfl | rfl | rfl | rfl | rfl | rfl | rfl | rfl | rfl | rfl | rfl | rfl <;> exact ⟨_, rfl, by decide, by decide⟩
      obtain ⟨m, rfl, hm⟩ := this
      simp [hh _ s4]
      exact q _ _ s4 hm
end Kd
set_option Elab.async false
set_option linter.all false
set_option maxRecDepth 100000
set_option maxHeartbeats 8000000
namespace Kd
open PySem PySem.Spec Ev Ev.Pl
local macro_rules | `(tactic| walk_at "wp") => `(tactic| (repeat (with_reducible first | apply WF_seq | apply WF_bns | apply WR_bnd | apply WR_endR | apply WF_unbrk)))
theorem draw_bits {h0 h hb : Hs} {j : Nat} {n : Nat} {p1 : X} {its : List D} {f : D → Hs → R (Option D)} {Q : X → Hs → Prop} (s : HS h0 j h) (hj : j < h0.length) (eb : hb = h ++ [.bn]) (hp : reopen p1 h = fun x => x)
    (H : ∀ (k : Nat) h', HS (h0 ++ [.bn]) j h' → WR (f (.int k) h') fun r h'' => HS (h0 ++ [.bn]) j h'' ∧ ∃ d, r = some d ∧ ∃ b : Int, d = .int b ∧ 0 ≤ b ∧ b < 2)
    (q : ∀ (bs : List Int) h', HS h0 j h' → bs.length = n → (∀ b ∈ bs, 0 ≤ b ∧ b ≤ 1) → Q (.u (.lst (bs.map .int))) h') : WR (compE (p1, its) h (compL f ((List.range n).map fun k : Nat => D.int (k : Int)) hb)) Q := by
  refine WR_draws (fun _ d => ∃ b : Int, d = .int b ∧ 0 ≤ b ∧ b < 2) s hj eb hp (fun x _ h' s' => H x h' s') fun ds h' s' l p => ?_
  obtain ⟨bs, rfl, lb, hb⟩ := ints_of l p
  exact q bs h' s' (by simpa using lb) fun b hb' => by have := hb b hb'; omega
theorem asc_sub {ys xs : List Nat} (h : ys.Sublist xs) (ha : xs.Pairwise (· < ·)) : ascB (ys.map fun k : Nat => (k : Int)) = true := by
  have hp := ha.sublist h
  clear ha h
  induction ys with
  | nil => rfl
  | cons a r ih =>
    cases r with
    | nil => rfl
    | cons b r =>
      rw [List.pairwise_cons] at hp
      have h1 := ih hp.2
      have h2 := hp.1 b (List.mem_cons_self ..)
      simp only [List.map_cons, ascB, Bool.and_eq_true, decide_eq_true_eq] at h1 ⊢
      exact ⟨by omega, h1⟩
theorem cutL_sub {A : Type} (xs : List A) (lo hi : Option Int) : (cutL xs lo hi).Sublist xs := (List.take_sublist _ _).trans (List.drop_sublist _ _)
theorem cutL_le {A : Type} (xs : List A) (k : Nat) : (cutL xs none (some (k : Int))).length ≤ k := by
  have h1 : HT.sIx xs.length xs.length (some (k : Int)) ≤ k := by
    rw [HT.sIx_nat]; exact Nat.min_le_left _ _
  unfold cutL; rw [List.length_take]; omega
/-- texts of what was drawn -/
abbrev txtsD (ts : List (List Int)) (lot bits st : List Int) : List D := [.str (ofL (netT ts)), .str (ofL (ruleT lot bits)), .str (ofL (rowT st))]
theorem join_fig {bs : List Int} (h : bs.length ≤ 1000) : semM .join (.str (ofL [])) (.lst (bs.map fun b => D.str (ofL [48 + b.toNat]))) = some (.d (.str (ofL (rowT bs)))) := by
  have := join_txt [] (bs.map fun b => [48 + b.toNat]) (by simp [Function.comp_def, sum1]; omega)
  simpa [Function.comp_def, flat1, rowT] using this
theorem join_net {ts : List (List Int)} (hl : ts.length ≤ 7) (hb : ∀ t ∈ ts, t.length ≤ 128) : semM .join (.str (ofL [])) (.lst (ts.map fun t => D.str (ofL (rowT t ++ [10])))) = some (.d (.str (ofL (netT ts)))) := by
  have h1 := sum_le (n := 129) (ls := ts.map fun t => rowT t ++ [10]) (by
    intro l hl'
    obtain ⟨t, ht, rfl⟩ := List.mem_map.mp hl'
    have := hb t ht
    simp [rowT_len]; omega)
  rw [List.length_map] at h1
  have := join_txt [] (ts.map fun t => rowT t ++ [10]) (by
    simp only [List.length_nil, Nat.mul_zero, Nat.add_zero]; omega)
  simpa [Function.comp_def, netT] using this
@[simp] theorem ix21 : Ev.ixN 2 1 = some 1 := rfl
theorem partA {h0 h : Hs} {j : Nat} {Q : Fl → Hs → Prop} (s : HS h0 j h) (hj : j < h0.length)
    (q : ∀ (ts : List (List Int)) (lot bits st : List Int) h', HS h0 j h' → tabsOk ts → ts.length ≤ 4 → RuleOk lot bits → lot.length ≤ 4 → stOk st →
      Q (.nx [some (.r j), some (.d (.int ts.length)), some (.d (.tup (st.map .int))), some (.d (.tup (lot.map .int))), some (.d (.tup [.tup (lot.map .int), .tup (bits.map .int)])), none, none, none, none, none, some (.d (tabD ts)), some (.r h'.length), none, none, none, none, none]) (h' ++ [.lst (txtsD ts lot bits st)])) :
    WF (ex Cs33 (takeS 8 ir32) [some (.r j), none, none, none, none, none, none, none, none, none, none, none, none, none, none, none, none] h) Q := by
  unfold ir32
  simp only [takeS]
  have hj' : ∀ x : Hs, j < (h0 ++ x).length := fun x => by simp; omega
  simp
  walk_at "wp"
  refine WR_draw s hj (by decide) (by decide) fun n0 h1 s1 n1 n2 => ?_
  obtain ⟨n, rfl⟩ : ∃ n : Nat, n0 = n := ⟨n0.toNat, by omega⟩
  simp
  rw [show (1 : Int) + (n : Int) = ((n + 1 : Nat) : Int) by omega]
  walk_at "wp"
  refine law_tables_wp s1 hj (n + 1) (by omega) fun ts h2 s2 lt ht => ?_
  simp
  walk_at "wp"
  refine WR_draw s2 hj (by decide) (by decide) fun m0 h3 s3 m1 m2 => ?_
  obtain ⟨m, rfl⟩ : ∃ m : Nat, m0 = m := ⟨m0.toNat, by omega⟩
  simp [rngD_int (1 + (m : Int)) (by omega) (by omega), show (1 + (m : Int)).toNat = m + 1 by omega]
  walk_at "wp"
  refine draw_bits s3 hj (by simp) (by rfl) (fun x h' s' => ?_) fun st h4 s4 lst bst => ?_
  · simp [compF]
    walk_at "wp"
    refine WR_draw s' (by simp; omega) (by decide) (by decide) fun d h3 s3 d0 d1 => ?_
    simp [d0, d1]; simpa using s3
  simp [rngD_int 7 (by decide) (by decide)]
  walk_at "wp"
  refine WR_picks (fun k : Nat => D.int (k : Int)) s4 hj (by simp) (by rfl) (fun x hx h' s' => ?_) fun lot0 h5 s5 hlot => ?_
  · simp [compF]
    walk_at "wp"
    refine WR_draw s' (by simp; omega) (by decide) (by decide) fun d h3 s3 d0 d1 => ?_
    simp
    split
    · simp; simpa using s3
    · simp; simpa using s3
  simp [cutL_map]
  have hsub := (cutL_sub lot0 none (some 4)).trans hlot
  have hl4 := cutL_le lot0 4
  simp at hl4
  generalize cutL lot0 none (some 4) = L at hsub hl4
  have hz : L.map (fun k : Nat => D.int (k : Int)) = (L.map fun k : Nat => (k : Int)).map D.int := by simp
  rw [hz, show (L.length : Int) = ((L.map fun k : Nat => (k : Int)).length : Int) by simp]
  have hasc := asc_sub hsub (by decide)
  have hrng : ∀ x ∈ L.map fun k : Nat => (k : Int), 0 ≤ x ∧ x ≤ 6 := by
    intro x hx
    obtain ⟨k, hk, rfl⟩ := List.mem_map.mp hx
    have := hsub.subset hk
    simp at this
    omega
  have hll : (L.map fun k : Nat => (k : Int)).length ≤ 4 := by simpa using hl4
  generalize L.map (fun k : Nat => (k : Int)) = lot at hasc hrng hll
  have hsz := law_size_eq lot.length (by omega)
  have hp2 : 2 ^ lot.length ≤ 16 := Nat.pow_le_pow_right (by decide) hll
  have e2a : (2 : Int) ^ lot.length ≤ 16 := by exact_mod_cast hp2
  have e2b : (0 : Int) ≤ (2 : Int) ^ lot.length := by exact_mod_cast Nat.zero_le (2 ^ lot.length)
  have e2c : ((2 : Int) ^ lot.length).toNat = 2 ^ lot.length := by
    have q : ((2 ^ lot.length : Nat) : Int) = (2 : Int) ^ lot.length := by norm_cast
    rw [← q]; exact Int.toNat_natCast _
  simp [hsz, rngD_int ((2 : Int) ^ lot.length) (by omega) (by omega), e2c]
  walk_at "wp"
  refine draw_bits s5 hj (by simp) (by rfl) (fun x h' s' => ?_) fun bits h6 s6 lb hb => ?_
  · simp [compF]
    walk_at "wp"
    refine WR_draw s' (by simp; omega) (by decide) (by decide) fun d h3 s3 d0 d1 => ?_
    simp [d0, d1]; simpa using s3
  simp
  have lt4 : ts.length ≤ 4 := by omega
  have hp3 : 2 ^ (n + 1) ≤ 16 := Nat.pow_le_pow_right (by decide) (by omega : n + 1 ≤ 4)
  have lb2 : bits.length ≤ 16 := by rw [lb]; exact hp2
  have hs1 : (1 : Nat) < sizeLine := by decide
  have hs2 : (2 : Nat) < sizeLine := by decide
  have hfin : ∀ h', HS h0 j h' → Q (.nx [some (.r j), some (.d (.int (↑n + 1))), some (.d (.tup (st.map .int))), some (.d (.tup (lot.map .int))), some (.d (.tup [.tup (lot.map .int), .tup (bits.map .int)])), none, none, none, none, none, some (.d (tabD ts)), some (.r h'.length), none, none, none, none, none]) (h' ++ [.lst (txtsD ts lot bits st)]) := fun h' s' => by
    have := q ts lot bits st h' s' ⟨by omega, by omega, fun t htt => ⟨by rw [lt]; exact (ht t htt).1, fun b hb' => by have := (ht t htt).2 b hb'; omega⟩⟩ lt4 ⟨hasc, hrng, lb, hb⟩ hll ⟨by omega, by omega, bst⟩
    rw [lt] at this
    simpa using this
  rw [compL_to fun t : List Int => D.str (ofL (rowT t ++ [10]))]
  · simp [join_net (by omega : ts.length ≤ 7) (fun t htt => by have := (ht t htt).1; omega)]
    rw [ev_app (j := h6.length) (ys := [.str (ofL (netT ts))]) rfl (by simp)]
    by_cases hlo : lot = []
    · subst hlo
      simp [add_txt, appX, hs1, setxS, setxT]
      rw [compL_to fun b : Int => D.str (ofL [48 + b.toNat])]
      · simp [join_fig (by omega : bits.length ≤ 1000), add_txt (a := [45, 58]) (b := rowT bits) (by simp) (by rw [rowT_len]; omega)]
        rw [ev_app (j := h6.length) (ys := [.str (ofL (netT ts)), .str (ofL (45 :: 58 :: rowT bits))]) rfl (by simp)]
        simp
        rw [compL_to fun b : Int => D.str (ofL [48 + b.toNat])]
        · simp [join_fig (by omega : st.length ≤ 1000), appX, hs2]
          have := hfin h6 s6
          simpa [ruleT, tabD, txtsD] using this
        · intro b hb'
          have := bst b hb'
          simp [compF, str_fig (by omega : 0 ≤ b) (by omega : b < 10)]
      · intro b hb'
        have := hb b hb'
        simp [compF, str_fig (by omega : 0 ≤ b) (by omega : b < 10)]
    · have hlo2 : 0 < lot.length := List.length_pos_iff.mpr hlo
      simp [hlo, hlo2]
      rw [compL_to fun b : Int => D.str (ofL [48 + b.toNat])]
      rotate_left
      · intro b hb'
        have := hrng b hb'
        simp [compF, str_fig (by omega : 0 ≤ b) (by omega : b < 10)]
      simp [join_fig (by omega : lot.length ≤ 1000), add_txt (a := rowT lot) (b := [58]) (by rw [rowT_len]; omega) (by simp), appX, hs1, setxS, setxT]
      rw [compL_to fun b : Int => D.str (ofL [48 + b.toNat])]
      · simp [join_fig (by omega : bits.length ≤ 1000), add_txt (a := rowT lot ++ [58]) (b := rowT bits) (by simp [rowT_len]; omega) (by rw [rowT_len]; omega)]
        rw [ev_app (j := h6.length) (ys := [.str (ofL (netT ts)), .str (ofL (rowT lot ++ 58 :: rowT bits))]) rfl (by simp)]
        simp
        rw [compL_to fun b : Int => D.str (ofL [48 + b.toNat])]
        · simp [join_fig (by omega : st.length ≤ 1000), appX, hs2]
          have := hfin h6 s6
          simpa [ruleT, tabD, txtsD, hlo] using this
        · intro b hb'
          have := bst b hb'
          simp [compF, str_fig (by omega : 0 ≤ b) (by omega : b < 10)]
      · intro b hb'
        have := hb b hb'
        simp [compF, str_fig (by omega : 0 ≤ b) (by omega : b < 10)]
  · intro t htt
    have ht1 := ht t htt
    simp [compF, tD]
    rw [compL_to fun b : Int => D.str (ofL [48 + b.toNat])]
    · simp [join_fig (by omega : t.length ≤ 1000), add_txt (a := rowT t) (b := [10]) (by rw [rowT_len]; omega) (by simp)]
    · intro b hb'
      have := ht1.2 b hb'
      simp [compF, str_fig (by omega : 0 ≤ b) (by omega : b < 10)]
/-- the slots behind the first part -/
abbrev EB (j : Nat) (ts : List (List Int)) (lot bits st : List Int) (k : Nat) (v5 v6 v7 v8 v9 : Option W) : Ev.Env := [some (.r j), some (.d (.int ts.length)), some (.d (.tup (st.map .int))), some (.d (.tup (lot.map .int))), some (.d (.tup [.tup (lot.map .int), .tup (bits.map .int)])), v5, v6, v7, v8, v9, some (.d (tabD ts)), some (.r k), none, none, none, none, none]
theorem set_self {A : Type} {h : List A} {k : Nat} {x : A} (e : h[k]? = some x) : h.set k x = h := by
  obtain ⟨hk, e⟩ := List.getElem?_eq_some_iff.mp e
  rw [← e]; exact List.set_getElem_self hk
/-- a list and the same one in the heap -/
theorem is_same_r (xs : List D) (hx : ∀ x ∈ xs, plain 6 x = true) (h : Hs) (k : Nat) (hk : h[k]? = some (.lst xs)) : g23 [.d (.lst xs), .r k] h = some (.ok (.d (.bl true)), h) := by
  show fixN Cs22 23 n23.length ir23 (7 + 1) [.d (.lst xs), .r k] h = _
  rw [R23]
  have hkc : (Cs22.add 23 (fixN Cs22 23 n23.length ir23 7)).kc = Cb.kc := (Cl.add_kc _ _ _).trans (by simp)
  have hG : (Cs22.add 23 (fixN Cs22 23 n23.length ir23 7)).G 23 = fixN Cs22 23 n23.length ir23 7 := Cl.add_G_eq _ _ _
  generalize Cs22.add 23 (fixN Cs22 23 n23.length ir23 7) = C at hkc hG
  unfold ir23 at *
  have hsh : shut (.r k) h = h.set k (.lk xs) := by simp [shut, hk]
  simp [isi2_pd, isi1_pd, hkc, tyB, zipX, zipS, hk, hsh]
  rw [zipD_self, compL_to fun x => D.bl true]
  · have hkl : k < h.length := (List.getElem?_eq_some_iff.mp hk).1
    have h2 : (h.set k (.lk xs) ++ [MO.bn]).take h.length = h.set k (.lk xs) := by
      have := take_self (h.set k (.lk xs)) [MO.bn]
      rwa [List.length_set] at this
    simp [h2, reopen, hk, set_self hk]
  · intro x hm
    have e := is_same0 6 7 (by decide) x (hx x hm) (h.set k (.lk xs) ++ [MO.bn])
    unfold ir23 at e
    simp [compF, hG, e]
theorem netT_sg {ts : List (List Int)} (h : tabsOk ts) : ∀ c ∈ netT ts, c < 256 := by
  intro c hc
  simp only [netT, List.mem_flatten, List.mem_map] at hc
  obtain ⟨l, ⟨t, ht, rfl⟩, hc⟩ := hc
  rcases List.mem_append.mp hc with hc | hc
  · have := rowT_free (fun b hb => by have := (h.2.2 t ht).2 b hb; omega) c hc; omega
  · simp at hc; omega
theorem ruleT_sg {lot bits : List Int} (r : RuleOk lot bits) : ∀ c ∈ ruleT lot bits, c < 256 := by
  intro c hc
  simp only [ruleT, List.mem_append] at hc
  rcases hc with (hc | hc) | hc
  · split at hc
    · simp at hc; omega
    · have := rowT_free (fun b hb => by have := r.rng b hb; omega) c hc; omega
  · simp at hc; omega
  · have := rowT_free (fun b hb => by have := r.bit b hb; omega) c hc; omega
theorem rowT_sg {t : List Int} (h : ∀ b ∈ t, 0 ≤ b ∧ b ≤ 1) : ∀ c ∈ rowT t, c < 256 := fun c hc => by
  have := rowT_free (fun b hb => by have := h b hb; omega) c hc; omega
theorem netT_len {ts : List (List Int)} (h : tabsOk ts) (h4 : ts.length ≤ 4) : (netT ts).length ≤ 68 ∧ netT ts ≠ [] := by
  have hl : ∀ l ∈ ts.map fun t => rowT t ++ [10], l.length ≤ 17 := by
    intro l hl
    obtain ⟨t, ht, rfl⟩ := List.mem_map.mp hl
    have h1 := (h.2.2 t ht).1
    have h2 : 2 ^ ts.length ≤ 16 := Nat.pow_le_pow_right (by decide) h4
    simp [rowT_len]; omega
  have := sum_le hl
  constructor
  · simp only [netT, List.length_flatten]
    rw [List.length_map] at this
    show ((ts.map fun t => rowT t ++ [10]).map fun x => x.length).sum ≤ 68
    omega
  · intro e
    cases ts with
    | nil => have := h.1; simp at this
    | cons t r => simp [netT] at e
theorem sh_net {ts : List (List Int)} (h : tabsOk ts) (h4 : ts.length ≤ 4) : Sh (netT ts) := ⟨(netT_len h h4).2, by have := (netT_len h h4).1; omega, netT_sg h⟩
theorem sh_rule {lot bits : List Int} (r : RuleOk lot bits) (h4 : lot.length ≤ 4) : Sh (ruleT lot bits) := ⟨by simp [ruleT], by
  have h2 : 2 ^ lot.length ≤ 16 := Nat.pow_le_pow_right (by decide) h4
  have := r.len
  have l1 : (if lot = [] then [45] else rowT lot).length ≤ 4 := by split <;> simp [rowT_len]; omega
  simp [ruleT, rowT_len]; omega, ruleT_sg r⟩
theorem sh_state {st : List Int} (h : stOk st) : Sh (rowT st) := ⟨by
  intro e; have := h.1; rw [← rowT_len, e] at this; simp at this, by rw [rowT_len]; have := h.2.1; omega, rowT_sg h.2.2⟩
theorem plain_ints (n : Nat) (ns : List Int) : plain (n + 1) (.tup (ns.map .int)) = true := by
  simp only [plain, List.all_map, List.all_eq_true]
  intro x _; cases n <;> rfl
theorem partB {h : Hs} {j k : Nat} (ts : List (List Int)) (lot bits st : List Int) (o1 : tabsOk ts) (l1 : ts.length ≤ 4) (o2 : RuleOk lot bits) (l2 : lot.length ≤ 4) (o3 : stOk st) (hk : h[k]? = some (.lst (txtsD ts lot bits st))) :
    ex Cs33 (takeS 2 (dropS 8 ir32)) (EB j ts lot bits st k none none none none none) h = some (.nx (EB j ts lot bits st k none none none none none), h) := by
  unfold ir32 EB
  simp only [takeS, dropS]
  have hs1 := (sh_net o1 l1).ok
  have hs2 := (sh_rule o2 l2).ok
  have hs3 := (sh_state o3).ok
  have hp : ∀ x ∈ txtsD ts lot bits st, plain 6 x = true := by
    intro x hx
    simp [txtsD] at hx
    rcases hx with rfl | rfl | rfl
    · exact hs1.str
    · exact hs2.str
    · exact hs3.str
  have e1 := is_same_r (txtsD ts lot bits st) hp h k hk
  simp [txtsD] at e1 hk
  have h128 : ∀ t ∈ ts, t.length ≤ 128 ∧ ∀ b ∈ t, 0 ≤ b ∧ b < 10 := fun t ht => by
    have h1 := o1.2.2 t ht
    have h2 : 2 ^ ts.length ≤ 16 := Nat.pow_le_pow_right (by decide) l1
    exact ⟨by omega, fun b hb => by have := h1.2 b hb; omega⟩
  have e2 := net_text_eq ts ts.length h128 (by omega)
  have e3 := read_net_eq (netT ts) hs1 h
  rw [readNet_netT o1] at e3
  have e4 := read_rule_eq (ruleT lot bits) hs2 h
  rw [readRule_ruleT o2] at e4
  have e5 := read_state_eq (rowT st) hs3 h
  rw [readState_rowT o3] at e5
  have e6 := is_same (.lst [.tup [.tup (lot.map .int), .tup (bits.map .int)], .tup (st.map .int)]) (by
    simp only [plain, List.all_cons, List.all_nil, Bool.and_true, Bool.and_eq_true]
    exact ⟨⟨plain_ints 4 _, plain_ints 4 _⟩, plain_ints 5 _⟩) h
  have e7 := net_eq_eq ts ts ts.length ts.length h
  have e8 := mk_net_ok o1 h
  simp [tabD, netD] at e2 e3 e7 e8
  simp [mk_net_ok o1, tabD, e2, rule_text_ok o2, state_text_ok o3, e1, hk, e3, e4, e5, e6, e7, e8, okOnly]
theorem told_read_net {l : List Nat} (hl : TOk l) (h : Hs) : okOnly (run (Cb.withTh fun h => g13 [.d (.str (ofL l))] h) n30.length ir30 [.th] h) = some (.ok (.d (dueNet l)), h) := by
  have e := read_net_eq l hl h
  unfold dueNet
  cases hr : readNet l with
  | error k => rw [hr] at e; exact told_bad e rfl
  | ok ts => rw [hr] at e; exact told_net e rfl
theorem told_read_rule {l : List Nat} (hl : TOk l) (h : Hs) : okOnly (run (Cb.withTh fun h => g17 [.d (.str (ofL l))] h) n30.length ir30 [.th] h) = some (.ok (.d (dueRule l)), h) := by
  have e := read_rule_eq l hl h
  unfold dueRule
  cases hr : readRule l with
  | none => rw [hr] at e; exact told_bad e rfl
  | some ab => rw [hr] at e; exact told_d e rfl rfl rfl
theorem told_read_state {l : List Nat} (hl : TOk l) (h : Hs) : okOnly (run (Cb.withTh fun h => g19 [.d (.str (ofL l))] h) n30.length ir30 [.th] h) = some (.ok (.d (dueState l)), h) := by
  have e := read_state_eq l hl h
  unfold dueState
  cases hr : readState l with
  | error k => rw [hr] at e; exact told_bad e rfl
  | ok s => rw [hr] at e; exact told_d e rfl rfl rfl
theorem strOk_of {l : List Nat} (h : ∀ c ∈ l, c < 256) (h2 : l.length ≤ 100000) : PyData.strOk (ofL l) = true := TOk.str ⟨h2, h⟩
theorem plain_dueNet (l : List Nat) : plain 7 (dueNet l) = true := by
  have e1 : PyData.strOk (ofL [116, 101, 120, 116]) = true := by decide +kernel
  have e2 : PyData.strOk (ofL [116, 111, 108, 100]) = true := by decide +kernel
  unfold dueNet
  cases readNet l with
  | error k => simp [plain, e1]
  | ok ts =>
    simp only [plain, List.all_cons, List.all_nil, Bool.and_true, Bool.and_eq_true, e2, true_and, tabD, List.all_map, List.all_eq_true]
    intro t _; exact plain_ints 4 t
theorem plain_dueRule (l : List Nat) : plain 7 (dueRule l) = true := by
  have e1 : PyData.strOk (ofL [116, 101, 120, 116]) = true := by decide +kernel
  have e2 : PyData.strOk (ofL [116, 111, 108, 100]) = true := by decide +kernel
  unfold dueRule
  cases readRule l with
  | none => simp [plain, e1]
  | some ab =>
    obtain ⟨a, b⟩ := ab
    simp only [plain, List.all_cons, List.all_nil, Bool.and_true, Bool.and_eq_true, e2, true_and]
    exact ⟨plain_ints 4 a, plain_ints 4 b⟩
theorem plain_dueState (l : List Nat) : plain 7 (dueState l) = true := by
  have e1 : PyData.strOk (ofL [116, 101, 120, 116]) = true := by decide +kernel
  have e2 : PyData.strOk (ofL [116, 111, 108, 100]) = true := by decide +kernel
  unfold dueState
  cases readState l with
  | error k => simp [plain, e1]
  | ok s =>
    simp only [plain, List.all_cons, List.all_nil, Bool.and_true, Bool.and_eq_true, e2, true_and]
    exact plain_ints 5 s
/-- draws by a walk over a list of the heap -/
theorem WR_draws_r {A : Type} {h0 h1 hb : Hs} {j k : Nat} {ys its : List D} {xs : List A} {g : A → D} {f : D → Hs → R (Option D)} {Q : X → Hs → Prop} (P : A → D → Prop) (s : HS h0 j h1) (hj : j < h0.length) (hk : k = h1.length) (eb : hb = h1 ++ [.lk ys, .bn])
    (H : ∀ x ∈ xs, ∀ h', HS (h0 ++ [.lk ys, .bn]) j h' → WR (f (g x) h') fun r h'' => HS (h0 ++ [.lk ys, .bn]) j h'' ∧ ∃ d, r = some d ∧ P x d)
    (q : ∀ ds h', HS h0 j h' → ds.length = xs.length → (∀ (i : Nat) x, xs[i]? = some x → ∃ d, ds[i]? = some d ∧ P x d) → Q (.u (.lst ds)) (h' ++ [.lst ys])) : WR (compE (.r k, its) (h1 ++ [.lst ys]) (compL f (xs.map g) hb)) Q := by
  subst hk; subst eb
  refine WR_compE (WR_compL (HS (h0 ++ [.lk ys, .bn]) j) P (s.ext hj _) H fun ds h' s' l pp => ?_)
  obtain ⟨h2, s2, rfl⟩ := HS.app hj s'
  have e1 : (h1 ++ [MO.lst ys]).length = h2.length + 1 := by rw [List.length_append, s.len, s2.len]; rfl
  have e2 : h1.length = h2.length := by rw [s.len, s2.len]
  have e3 : reopen (.r h1.length) (h1 ++ [MO.lst ys]) (h2 ++ [MO.lk ys]) = h2 ++ [MO.lst ys] := by
    simp only [reopen, at_end]
    rw [e2, set_end]
  simp only [compE_ok, WR_ok]
  rw [e1, take_plus]
  show Q _ (reopen _ _ (h2 ++ [MO.lk ys]))
  rw [e3]
  exact q ds h2 s2 l pp
theorem partC {h0 h1 : Hs} {j : Nat} {Q : Fl → Hs → Prop} (ts : List (List Int)) (lot bits st : List Int) (o1 : tabsOk ts) (l1 : ts.length ≤ 4) (o2 : RuleOk lot bits) (l2 : lot.length ≤ 4) (o3 : stOk st) (s : HS h0 j h1) (hj : j < h0.length)
    (q : ∀ v5 v9 h', HS h0 j h' → Q (.nx (EB j ts lot bits st h'.length v5 none none none v9)) (h' ++ [.lst (txtsD ts lot bits st)])) :
    WF (ex Cs33 (takeS 1 (dropS 10 ir32)) (EB j ts lot bits st h1.length none none none none none) (h1 ++ [.lst (txtsD ts lot bits st)])) Q := by
  unfold ir32
  simp only [takeS, dropS]
  have b1 := sh_net o1 l1
  have b2 := sh_rule o2 l2
  have b3 := sh_state o3
  simp [rngD_int 5 (by decide) (by decide)]
  walk_at "wp"
  refine WF_forL (fun _ env h => ∃ v5 v9 h', HS h0 j h' ∧ env = EB j ts lot bits st h'.length v5 none none none v9 ∧ h = h' ++ [.lst (txtsD ts lot bits st)]) ⟨none, none, h1, s, rfl, rfl⟩ ?_ ?_
  · rintro x xs env h ⟨v5, v9, h2, s2, rfl, rfl⟩
    have e0 : (txtsD ts lot bits st) = [netT ts, ruleT lot bits, rowT st].map fun l => D.str (ofL l) := rfl
    simp [forF, EB, shut]
    walk_at "wp"
    refine WR_draws_r (A := List Nat) (xs := [netT ts, ruleT lot bits, rowT st]) (g := fun l => D.str (ofL l)) (fun _ d => ∃ l', d = .str (ofL l') ∧ TOk l') s2 hj rfl rfl (fun l hl h' s' => ?_) fun ds h3 s3 ld p => ?_
    · have hsh : Sh l := by
        simp at hl
        rcases hl with rfl | rfl | rfl
        · exact b1
        · exact b2
        · exact b3
      simp [compF]
      walk_at "wp"
      refine law_spoiled_wp s' (by simp; omega) l hsh fun l' h4 s4 ok4 => ?_
      simp
      exact ⟨s4, ok4⟩
    · obtain ⟨d0, e0, a, rfl, ha⟩ := p 0 _ rfl
      obtain ⟨d1, e1, b, rfl, hb⟩ := p 1 _ rfl
      obtain ⟨d2, e2, c, rfl, hc⟩ := p 2 _ rfl
      have hds : ds = [.str (ofL a), .str (ofL b), .str (ofL c)] := by
        match ds, ld with
        | [x, y, z], _ =>
          simp at e0 e1 e2
          rw [e0, e1, e2]
      subst hds
      simp [told_read_net ha, told_read_rule hb, told_read_state hc, law_read_eq a ha, law_rule_eq b hb, law_state_eq c hc, is_same _ (plain_dueNet a), is_same _ (plain_dueRule b), is_same _ (plain_dueState c)]
      exact ⟨s3, by rw [s2.len, s3.len]⟩
  · rintro env h ⟨v5, v9, h2, s2, rfl, rfl⟩
    simp
    exact q v5 v9 h2 s2
theorem told_odd {d : D} (hd : pd d = true) (hn : tyB sub .str d = false) (h : Hs) : okOnly (run (Cb.withTh fun h => g13 [.d d] h) n30.length ir30 [.th] h) = some (.ok (.d (.tup [tTxt, .int 0])), h) ∧
    okOnly (run (Cb.withTh fun h => g17 [.d d] h) n30.length ir30 [.th] h) = some (.ok (.d (.tup [tTxt, .int 0])), h) ∧ okOnly (run (Cb.withTh fun h => g19 [.d d] h) n30.length ir30 [.th] h) = some (.ok (.d (.tup [tTxt, .int 0])), h) := by
  obtain ⟨e1, e2, e3⟩ := text_odd hd hn h
  exact ⟨told_bad e1 rfl, told_bad e2 rfl, told_bad e3 rfl⟩
theorem WR_told_NoNet {t : Hs → R Ev.X} {h : Hs} {Q : X → Hs → Prop} (w : ∃ h', t h = some (.err 3 [], h') ∧ h'.length = h.length ∧ Q (.d (.tup [tNone, .int 1])) h') : WR (okOnly (run (Cb.withTh t) n30.length ir30 [.th] h)) Q := by
  obtain ⟨h', e, l, q⟩ := w
  exact ⟨_, _, told_NoNet e l, q⟩
theorem WR_told_NoState {t : Hs → R Ev.X} {h : Hs} {Q : X → Hs → Prop} (w : ∃ h', t h = some (.err 2 [], h') ∧ h'.length = h.length ∧ Q (.d (.tup [tNone, .int 3])) h') : WR (okOnly (run (Cb.withTh t) n30.length ir30 [.th] h)) Q := by
  obtain ⟨h', e, l, q⟩ := w
  exact ⟨_, _, told_NoState e l, q⟩
/-- what is odd: no text, no net, no rule, no state -/
structure Odd (d : D) : Prop where
  dp : dp d = true
  str : tyB sub .str d = false
  net : tyB sub (.own 6) d = false
  rule : isRule 7 d = false
  len : ∀ a b xs, d = .tup [a, b] → a = .tup xs → xs.length ≤ 1000000
  st : ∀ xs, d = .tup xs → ¬ (1 ≤ xs.length ∧ xs.length ≤ 7 ∧ areBits xs.length d = true)
theorem app_step {C : Cl} {env : Ev.Env} {e : E} {n i : Nat} {h' : Hs} {A : MO} {S : List D} {Q : X → Hs → Prop} (henv : env[i]? = some (some (.r (n + 1)))) (l : h'.length = n) (hS : S.length < 1000)
    (w : WR (ev C e env (h' ++ [A, .lst S])) fun y h'' => ∃ h3 d, y.toD = some d ∧ h'' = h3 ++ [A, .lst S] ∧ h3.length = n ∧ Q (.d .non) (h3 ++ [A, .lst (S ++ [d])])) : WR (ev C (.app i e) env (h' ++ [A, .lst S])) Q := by
  subst l
  have at2 : ∀ (h3 : Hs) (B : MO), h3.length = h'.length → (h3 ++ [A, B])[h'.length + 1]? = some B := fun h3 B e => by rw [← e]; simp
  rw [ev_app henv (at2 h' _ rfl)]
  obtain ⟨y, h'', e1, h3, d, e2, rfl, l3, q⟩ := w
  rw [e1]
  simp only [bnd_ok]
  refine ⟨_, _, appX_eq e2 (at2 h3 _ l3) (Nat.lt_of_lt_of_le hS (by decide)), ?_⟩
  have : (h3 ++ [A, MO.lst S]).set (h'.length + 1) (.lst (S ++ [d])) = h3 ++ [A, .lst (S ++ [d])] := by rw [← l3]; simp
  rw [this]; exact q
theorem at_len {h3 : Hs} {n : Nat} {A : MO} {r : Hs} (l : h3.length = n) : (h3 ++ A :: r)[n]? = some A := by subst l; simp
theorem partD {h0 h1 : Hs} {j : Nat} {Q : X → Hs → Prop} (ts : List (List Int)) (lot bits st : List Int) (o1 : tabsOk ts) (l1 : ts.length ≤ 4) (s : HS h0 j h1) (hj : j < h0.length) (v5 v9 : Option W) (n : Nat) (hn : n = h0.length)
    (q : ∀ h', HS h0 j h' → Q (.d (.bl true)) h') :
    WR (endR n (ex Cs33 (dropS 11 ir32) (EB j ts lot bits st h1.length v5 none none none v9) (h1 ++ [.lst (txtsD ts lot bits st)]))) Q := by
  unfold ir32
  simp only [dropS]
  have hj' : ∀ x : Hs, j < (h0 ++ x).length := fun x => by simp; omega
  rw [s.len]
  simp [at_len s.len]
  walk_at "wp"
  refine WR_some (s.ext hj _) (hj' _) (by simp) (by simp) fun odd h2 s2' hodd => ?_
  obtain ⟨h2, s2, rfl⟩ := HS.app hj s2'
  clear s2'
  have ho : Odd odd := by
    simp at hodd
    rcases hodd with rfl | rfl | rfl | rfl | rfl | rfl
    · exact ⟨rfl, rfl, rfl, rfl, (by intro a b xs h; cases h), (by intro xs h; cases h)⟩
    · exact ⟨rfl, rfl, rfl, rfl, (by intro a b xs h; cases h), (by intro xs h; cases h)⟩
    · exact ⟨rfl, rfl, rfl, rfl, (by intro a b xs h; cases h), (by intro xs h; cases h; simp)⟩
    · exact ⟨rfl, rfl, rfl, rfl, (by intro a b xs h; cases h), (by intro xs h; cases h)⟩
    · exact ⟨rfl, rfl, rfl, rfl, (by intro a b xs h; cases h), (by intro xs h; cases h)⟩
    · exact ⟨rfl, rfl, rfl, rfl, (by intro a b xs h; cases h), (by intro xs h; cases h)⟩
  have t1 := fun h => (told_odd (pd_of_dp ho.dp) ho.str h).1
  have t2 := fun h => (told_odd (pd_of_dp ho.dp) ho.str h).2.1
  have t3 := fun h => (told_odd (pd_of_dp ho.dp) ho.str h).2.2
  simp [t1, s2.len]
  walk_at "wp"
  refine app_step rfl s2.len (by simp) ?_
  simp [t2]
  refine ⟨s2.len, ?_⟩
  walk_at "wp"
  refine app_step rfl s2.len (by simp) ?_
  simp [t3]
  refine ⟨s2.len, ?_⟩
  walk_at "wp"
  refine app_step rfl s2.len (by simp) ?_
  simp [at_len s2.len]
  obtain ⟨d4, h4, s4', m4, e4⟩ := HS.some (s2.ext hj [MO.lst (txtsD ts lot bits st), MO.lst [D.tup [tTxt, D.int 0], D.tup [tTxt, D.int 0], D.tup [tTxt, D.int 0]]]) (hj' _) [odd, tabD ts, .str (ofL (netT ts))] (by simp) (by simp)
  obtain ⟨h4, s4, rfl⟩ := HS.app hj s4'
  clear s4'
  have hd4 : pd d4 = true ∧ tyB sub (.own 6) d4 = false := by
    simp at m4
    rcases m4 with rfl | rfl | rfl
    · exact ⟨pd_of_dp ho.dp, ho.net⟩
    · exact ⟨rfl, rfl⟩
    · exact ⟨rfl, rfl⟩
  refine WR_told_NoNet ⟨h4 ++ [MO.lst (txtsD ts lot bits st), MO.lst [D.tup [tTxt, D.int 0], D.tup [tTxt, D.int 0], D.tup [tTxt, D.int 0]]], by simp [at_len s2.len, e4, net_text_bad hd4.1 hd4.2], by simp [s2.len, s4.len], ?_⟩
  refine ⟨h4, _, rfl, rfl, s4.len, ?_⟩
  have hm4 : sem2 .mul (.tup [.int 1]) (.int 4) = some (.d (.tup [.int 1, .int 1, .int 1, .int 1])) := rfl
  simp [hm4]
  walk_at "wp"
  refine WR_some (s4.ext hj _) (hj' _) (by simp) (by simp) fun bad h5 s5' hbad => ?_
  obtain ⟨h5, s5, rfl⟩ := HS.app hj s5'
  clear s5'
  have hb : dp bad = true ∧ isRule 7 bad = false ∧ ∀ a b xs, bad = .tup [a, b] → a = .tup xs → xs.length ≤ 1000000 := by
    simp at hbad
    rcases hbad with rfl | rfl | rfl | rfl
    · exact ⟨ho.dp, ho.rule, ho.len⟩
    · exact ⟨rfl, rfl, by intro a b xs h1 h2; cases h1; cases h2; simp⟩
    · exact ⟨rfl, rfl, by intro a b xs h1 h2; cases h1; cases h2; simp⟩
    · exact ⟨rfl, rfl, by intro a b xs h1 h2; cases h1; cases h2; simp⟩
  have t5 : ∀ h, okOnly (run (Cb.withTh fun h => g15 [.d bad] h) n30.length ir30 [.th] h) = some (.ok (.d (.tup [tNone, .int 2])), h) := fun h => told_NoRule (rule_text_bad hb.1 hb.2.2 hb.2.1 h) rfl
  simp
  walk_at "wp"
  refine app_step rfl s5.len (by simp) ?_
  simp [t5]
  refine ⟨s5.len, ?_⟩
  walk_at "wp"
  refine app_step rfl s5.len (by simp) ?_
  have hm8 : sem2 .mul (.tup [.int 0]) (.int 8) = some (.d (.tup [.int 0, .int 0, .int 0, .int 0, .int 0, .int 0, .int 0, .int 0])) := rfl
  simp [hm8]
  obtain ⟨d6, h6, s6', m6, e6⟩ := HS.some (s5.ext hj [MO.lst (txtsD ts lot bits st), MO.lst [D.tup [tTxt, D.int 0], D.tup [tTxt, D.int 0], D.tup [tTxt, D.int 0], D.tup [tNone, D.int 1], D.tup [tNone, D.int 2]]]) (hj' _) [odd, .tup [.int 0, .int 0, .int 0, .int 0, .int 0, .int 0, .int 0, .int 0], .tup [.int 2], .tup [.bl true], .lst [.int 0], .str (ofL [48])] (by simp) (by simp)
  obtain ⟨h6, s6, rfl⟩ := HS.app hj s6'
  clear s6'
  have hd6 : dp d6 = true ∧ ∀ xs, d6 = .tup xs → ¬ (1 ≤ xs.length ∧ xs.length ≤ 7 ∧ areBits xs.length d6 = true) := by
    simp at m6
    rcases m6 with rfl | rfl | rfl | rfl | rfl | rfl
    · exact ⟨ho.dp, ho.st⟩
    · exact ⟨rfl, by intro xs h; cases h; simp⟩
    · exact ⟨rfl, by intro xs h; cases h; simp [areBits, isBetw]⟩
    · exact ⟨rfl, by intro xs h; cases h; simp [areBits, isBetw]⟩
    · exact ⟨rfl, by intro xs h; cases h⟩
    · exact ⟨rfl, by intro xs h; cases h⟩
  refine WR_told_NoState ⟨h6 ++ [MO.lst (txtsD ts lot bits st), MO.lst [D.tup [tTxt, D.int 0], D.tup [tTxt, D.int 0], D.tup [tTxt, D.int 0], D.tup [tNone, D.int 1], D.tup [tNone, D.int 2]]], by simp [e6, state_text_bad hd6.1 hd6.2], by simp [s5.len, s6.len], ?_⟩
  refine ⟨h6, _, rfl, rfl, s6.len, ?_⟩
  have hm3 : sem2 .mul (.lst [.tup [tTxt, .int 0]]) (.int 3) = some (.u (.lst [.tup [tTxt, .int 0], .tup [tTxt, .int 0], .tup [tTxt, .int 0]])) := by
    simp only [sem2, mulD]
    rw [if_pos (by decide)]; rfl
  have heq : eqD (.lst [.tup [tTxt, .int 0], .tup [tTxt, .int 0], .tup [tTxt, .int 0], .tup [tNone, .int 1], .tup [tNone, .int 2], .tup [tNone, .int 3]]) (.lst [.tup [tTxt, .int 0], .tup [tTxt, .int 0], .tup [tTxt, .int 0], .tup [tNone, .int 1], .tup [tNone, .int 2], .tup [tNone, .int 3]]) = some true := by decide +kernel
  have hat : (h6 ++ [MO.lst (txtsD ts lot bits st), MO.lst [D.tup [tTxt, D.int 0], D.tup [tTxt, D.int 0], D.tup [tTxt, D.int 0], D.tup [tNone, D.int 1], D.tup [tNone, D.int 2], D.tup [tNone, D.int 3]]])[h0.length + 1]? = some (MO.lst [D.tup [tTxt, D.int 0], D.tup [tTxt, D.int 0], D.tup [tTxt, D.int 0], D.tup [tNone, D.int 1], D.tup [tNone, D.int 2], D.tup [tNone, D.int 3]]) := by rw [← s6.len]; simp
  simp [hm3, hat, add_lst, heq]
  rw [hn, show h0.length = h6.length by rw [s6.len], take_self]
  exact q h6 s6
end Kd
set_option Elab.async false
set_option linter.all false
set_option maxRecDepth 100000
set_option maxHeartbeats 8000000
namespace Kd
open PySem PySem.Spec Ev Ev.Pl
local macro_rules | `(tactic| walk_at "wp") => `(tactic| (repeat (with_reducible first | apply WF_seq | apply WF_bns | apply WR_bnd | apply WR_endR | apply WF_unbrk)))
theorem right_wp {h0 h : Hs} {j : Nat} {Q : X → Hs → Prop} (s : HS h0 j h) (hj : j < h0.length) (q : ∀ h', HS h0 j h' → Q (.d (.bl true)) h') : WR (g32 [.r j] h) Q := by
  rw [R32, ex_split _ 8]
  refine WR_endR (WF_seq (partA s hj fun ts lot bits st h1 s1 o1 l1 o2 l2 o3 => ?_))
  simp only [seqS_nx]
  rw [ex_split _ 2]
  have e1 : dropS 2 (dropS 8 ir32) = dropS 10 ir32 := rfl
  have e2 : dropS 1 (dropS 10 ir32) = dropS 11 ir32 := rfl
  rw [partB ts lot bits st o1 l1 o2 l2 o3 (by simp), e1]
  simp only [seqS_nx]
  rw [ex_split _ 1, e2]
  refine WF_seq (partC ts lot bits st o1 l1 o2 l2 o3 s1 hj fun v5 v9 h2 s2 => ?_)
  simp only [seqS_nx]
  have := partD (Q := Q) ts lot bits st o1 l1 s2 hj v5 v9 h.length s.len q
  obtain ⟨x, h3, e3, q3⟩ := this
  cases hx : ex Cs33 (dropS 11 ir32) (EB j ts lot bits st h2.length v5 none none none v9) (h2 ++ [.lst (txtsD ts lot bits st)]) with
  | none => rw [hx] at e3; cases e3
  | some fh =>
    obtain ⟨f, h4⟩ := fh
    rw [hx] at e3
    exact ⟨f, h4, rfl, x, h3, e3, q3⟩
theorem plain_law (ns : List Int) : g33 [.d (.scr ns)] [] = some (.ok (.d (.bl true)), []) := by
  have key : WR (g33 [.d (.scr ns)] []) fun x h => x = .d (.bl true) ∧ h = [] := by
    rw [R33]; unfold ir33
    obtain ⟨H, ok, e⟩ := hand_eq ns []
    have o1 : tabsOk [[0, 1, 0, 1], [1, 1, 0, 0]] := by refine ⟨by decide, by decide, ?_⟩; decide
    have e1 := fun h => mk_net_ok o1 h
    have e2 := fun h => net_text_eq [[0, 1, 0, 1], [1, 1, 0, 0]] 2 (by decide) (by decide) h
    have hk : netT [[0, 1, 0, 1], [1, 1, 0, 0]] = [48, 49, 48, 49, 10, 49, 49, 48, 48, 10] := rfl
    have ok2 : TOk [48, 49, 48, 49, 10, 49, 49, 48, 48, 10] := ⟨by decide, by decide⟩
    have e3 := fun h => read_net_eq _ ok2 h
    have e4 := readNet_netT o1
    rw [hk] at e4
    rw [e4] at e3
    have e5 := fun h => net_eq_eq [[0, 1, 0, 1], [1, 1, 0, 0]] [[0, 1, 0, 1], [1, 1, 0, 0]] 2 2 h
    simp [tabD, netD] at e1 e2 e3 e5
    rw [hk] at e2
    simp [e, e1, e2, e3, e5, eqD_txt ok2 ok2, okOnly, rngD_int 4 (by decide) (by decide)]
    walk_at "wp"
    have s : HS [H.mo] 0 [H.mo] := ⟨H, ok, rfl⟩
    refine WR_draws (fun _ d => d = .bl true) s (by simp) (by simp) (by rfl) (fun x hx h' s' => ?_) fun ds h' s' l p => ?_
    · simp [compF]
      walk_at "wp"
      refine right_wp s' (by simp) fun h2 s2 => ?_
      simp; exact s2
    · have hl : ds.length = 4 := by simpa using l
      match ds, hl with
      | [a, b, c, d], _ =>
        obtain ⟨_, e0, rfl⟩ := p 0 0 rfl
        obtain ⟨_, e1, rfl⟩ := p 1 1 rfl
        obtain ⟨_, e2, rfl⟩ := p 2 2 rfl
        obtain ⟨_, e3, rfl⟩ := p 3 3 rfl
        simp at e0 e1 e2 e3
        subst e0 e1 e2 e3
        simp
  obtain ⟨x, h, e, rfl, rfl⟩ := key
  exact e
end Kd
set_option Elab.async false
set_option linter.all false
set_option maxRecDepth 100000
set_option maxHeartbeats 0
open PySem PySem.W PySem.Calls PyProof.Rows
theorem k74_of (hl : Kd.PlainLaw) : PySem.Challenge.rw_lampnets_k74_whole_texts.Holds := by
  w_on; o_law
  refine HandSHeadRun.head_any (r := OpenLaw.row PySem.Challenge.rw_lampnets_k74_whole_texts) (q := view (OpenLaw.row PySem.Challenge.rw_lampnets_k74_whole_texts).prog [49]) (H := Kd.hk) (ob := Kd.ob) (M := 4000) (loose := Kd.loose) (d := HandSHeadRun.topDef (OpenLaw.row PySem.Challenge.rw_lampnets_k74_whole_texts).prog 49) (kwd := []) Kd.ob_eq
    (by kernel_rfl) (fun s => by kernel_rfl) Kd.headRun (by kernel_rfl) (by kernel_rfl) (by kernel_rfl) (by rfl) (by first | assumption | decide +kernel) (by decide +kernel) ⟨rfl, rfl, rfl, rfl, rfl, by decide +kernel⟩ ?hw ?hc
  case hw => w_witness2
  case hc =>
    refine LamX.walk_ofXT (l := PySem.Challenge.rw_lampnets_k74_whole_texts) (n := 63) (k := 59) (x := "script") (CX := fun w => L2.CX (PySem.Challenge.rw_lampnets_k74_whole_texts).prog w) rfl (by decide) (by kernel_rfl) ⟨rfl, by decide, by decide⟩ ?F (fun w H s e s' z => by obtain ⟨_, _, _, _, _, _, _, _, _, _, _, _, z⟩ := z; exact z)
    intro w mg fa h Y G hmg0
    obtain ⟨K, KX, c⟩ := Y
    have hmg : mg ("law" : PySem.Str) = some (.ref fa) := by
      have e : (HandSHeadRun.topDef (OpenLaw.row PySem.Challenge.rw_lampnets_k74_whole_texts).prog 49).name = ("law" : PySem.Str) := by kernel_rfl
      rw [← e]
      exact hmg0
    exact ⟨K, KX, Kd.at_law hl KX G c hmg⟩
set_option Elab.async false
set_option linter.all false
set_option maxRecDepth 100000
set_option maxHeartbeats 0
theorem PySem.Challenge.cw_lampnets_k74_whole_texts_holds : PySem.Challenge.rw_lampnets_k74_whole_texts.Holds := by
  exact k74_of fun ns _ _ => Kd.plain_law ns
